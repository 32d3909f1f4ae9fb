import PyProof.Rows.All
import PySem.Challenge.RW_truthrings_k85_whole_supposed_or_stated
import Wide.All
import OpenK.AllK
import Wide.FinOn
import HandS.HeadNt
import KE.KStateDown
import Lean
import HandS.Head0
import HandS.Head1
import HandS.Head2
import HandS.ForMost
import HandS.Exc
import HandS.ExcOwn
import HandS.WordsExc
import HandS.CallSlots
import HandS.Defaults
import HandS.More
import HandS.Property
import HandS.ClsMeth
import HandS.MakeKwOnly
import HandS.TupAny
import HandS.TupLe
import HandS.Wide
import HandS.Style
import HandS.Deep
import HandS.IsInst
import HandS.Conv
import HandS.StrMore
import OpenK.KMeth
import HandS.SetKeys
import HandS.WordsDict
import HandS.SortInts
import KE.DataMinMax
import HandS.DictComp
import HandS.SortKw
import HandS.Star
import HandS.ExcField
import HandS.SetBool
import HandS.HeadEnd
import HandS.Strs
import PyProof.ExcBaseAll.RuntimeError
import HandS.Codes
set_option Elab.async false
set_option linter.all false
set_option maxRecDepth 100000
set_option maxHeartbeats 0
/-! DLH: what the kernel is asked of the first heap. -/
namespace DL
open PySem PySem.Spec PyProof.Rows L2
open PySem.W (Frag findIn typeIn keepIn subIn hasDictIn clsIn codeIn specialIn takesIn recIn fnIn isFn kitOne mroIn readsIn)
def refsT (tl : List Value) : List Value → Bool
  | .ref _ :: r => refsT tl r
  | l => l == tl
/-- a class: a built-in one, one of the module's -/
inductive Tn where
  | b (n : String) | o (x : Str)
def Tn.v (K : Frag) : Tn → Value
  | .b n => .type n
  | .o x => .ref (He.ga K x)
inductive Ft where
  | h (f : He.Fa)
  | tup (x : Str) (vs : List He.Dv)
  | tpo (x : Str)
  | prp (x m : Str) | sta (x m : Str) | clm (x m : Str) | rd (x : Str) | own (x m : Str)
  | isi (t c : Tn) (b : Bool) | kit (x : Str) | exc (x : Str) (newId : String) (tl : List Value)
def prpB (K : Frag) (C : Addr) (m : Str) : Bool := He.eqO (findIn K (.ref C) m) (some (some (.ref (He.ma K C m)))) && (He.eqO (specialIn K (.ref (He.ma K C m)) "__get__") (some (some (.builtin "property.__get__"))) && (decide (takesIn K (.ref (He.ma K C m)) = some true) && (match recIn K (He.ma K C m) "property" with
    | some (.ref _ :: _) => true
    | _ => false)))
def rdB (K : Frag) (C : Addr) : Bool := readsIn K C (.type "type") && He.eqO (specialIn K (.ref C) "__getattribute__") (some (some (.builtin "type.__getattribute__")))
def ownB (K : Frag) (C : Addr) (m : Str) : Bool := He.eqO (findIn K (.ref C) m) (some (some (.ref (He.ma K C m)))) && (fnIn K (He.ma K C m) && isFn K (.ref (He.ma K C m)))
def clsB (K : Frag) (C : Addr) : Bool := PySem.W.plainGet K C Str.empty && (hasDictIn K C && (PySem.W.plainOver K C && He.eqO (findIn K (.ref C) "__setattr__") (some (some (.builtin "object.__setattr__")))))
def kitB (K : Frag) (C : Addr) : Bool := clsB K C && (He.eqO (findIn K (.ref C) "__class__") (some (some (.builtin "object.__class__"))) && (He.eqO (specialIn K (.builtin "object.__class__") "__get__") (some (some (.builtin "getset_descriptor.__get__"))) && (decide (takesIn K (.builtin "object.__class__") = some true) && decide (mroIn K C (.type "object") = some true))))
def exsB (K : Frag) (C : Addr) (newId : String) (tl : List Value) : Bool := match K.lookup C with
  | some ⟨.type ty, _, .cls cd, sl⟩ => decide (ty = "type") && (decide (cd.mro.head? = some (.ref C)) && (refsT tl cd.mro.tail && (cd.hasDict && (!cd.hasDel && (decide (sl.toList.length = 6) && decide (sl.toList[4]? = some (some (.builtin newId))))))))
  | _ => false
def excB (K : Frag) (x : Str) (newId : String) (tl : List Value) : Bool :=
  He.eqO (PySem.W.nsIn K mainGlobals x) (some (some (.ref (He.ga K x)))) && (He.eqO (findIn K (.ref (He.ga K x)) "__setattr__") (some (some (.builtin "object.__setattr__"))) && (He.eqO (findIn K (.ref (He.ga K x)) "__getattribute__") (some (some (.builtin "BaseException.__getattribute__"))) &&
  (He.eqO (findIn K (.ref (He.ga K x)) "__getattr__") (some none) && (He.eqO (findIn K (.ref (He.ga K x)) "value") (some none) && (He.eqO (findIn K (.ref (He.ga K x)) "__init__") (some (some (.ref (He.ma K (He.ga K x) "__init__")))) &&
  (decide (typeIn K (.ref (He.ma K (He.ga K x) "__init__")) = some (.type "function")) && (keepIn K (.ref (He.ga K x)) && (decide (subIn K (.ref (He.ga K x)) (.type "BaseException") = some true) && (decide (typeIn K (.ref (He.ga K x)) = some (.type "type")) && hasDictIn K (He.ga K x))))))))))
def tpoB (K : Frag) (a : Addr) : Bool := match K.lookup a with
  | some ⟨.type c, none, _, _⟩ => decide (c = "tuple")
  | _ => false
def Ft.ok (K : Frag) : Ft → Bool
  | .h f => f.ok K
  | .tup x vs => He.eqO (PySem.W.nsIn K mainGlobals x) (some (some (.ref (He.ga K x)))) && He.tupB K x vs
  | .tpo x => tpoB K (He.ga K x)
  | .prp x m => prpB K (He.ga K x) m
  | .sta x m => He5.wrapB K (He.ga K x) "staticmethod" "staticmethod.__get__" m && keepIn K (.ref (He5.wf K (He.ga K x) "staticmethod" m))
  | .clm x m => He5.wrapB K (He.ga K x) "classmethod" "classmethod.__get__" m && fnIn K (He5.wf K (He.ga K x) "classmethod" m)
  | .rd x => rdB K (He.ga K x)
  | .own x m => ownB K (He.ga K x) m
  | .isi t c b => decide (kitOne K (t.v K) (c.v K) = some b)
  | .kit x => kitB K (He.ga K x)
  | .exc x newId tl => excB K x newId tl && exsB K (He.ga K x) newId tl
def obsF (ft : List Ft) (fn : List He5.DefA) (K : Frag) : He.AlD := ((ft.all fun f => f.ok K) && fn.all fun d => d.ok K, fn.map fun d => He5.fnA K (d.at_ K))
def valF (fn : List He5.DefA) : He.AlD := (true, fn.map He5.DefA.val)
def SaysF (ft : List Ft) (fn : List He5.DefA) (K : Frag) : Prop := obsF ft fn K = valF fn
def obsFG (n : Nat) (ft : List Ft) (fn : List He5.DefA) (g : Addr → Option Obj) : He.AlD := obsF ft fn (He.frG g (He5.asA g n))
def hookF (n : Nat) (ft : List Ft) (fn : List He5.DefA) : PySem.W.Hook where
  α := He.AlD
  obs := fun s => obsFG n ft fn s.heap.get?
  val := fun _ => valF fn
  says := fun _ h => ∃ K : Frag, K.In h ∧ SaysF ft fn K
  of := fun _ _ e => ⟨_, He.frG_in, e⟩
  keeps := fun _ _ _ ⟨K, hK, c⟩ k => ⟨K, PySem.W.Frag.In.keeps hK k, c⟩
theorem obsFG_eq {n : Nat} {ft : List Ft} {fn : List He5.DefA} {g : Addr → Option Obj} {s : Shared} (h : ∀ a, g a = s.heap.get? a) : obsFG n ft fn g = (hookF n ft fn).obs s := by
  have e : g = s.heap.get? := funext h
  rw [e] <;> rfl
/-- the same over addresses that are written down -/
def obsLG (as : List Addr) (ft : List Ft) (fn : List He5.DefA) (g : Addr → Option Obj) : He.AlD := obsF ft fn (He.frG g as)
def hookL (as : List Addr) (ft : List Ft) (fn : List He5.DefA) : PySem.W.Hook where
  α := He.AlD
  obs := fun s => obsLG as ft fn s.heap.get?
  val := fun _ => valF fn
  says := fun _ h => ∃ K : Frag, K.In h ∧ SaysF ft fn K
  of := fun _ _ e => ⟨_, He.frG_in, e⟩
  keeps := fun _ _ _ ⟨K, hK, c⟩ k => ⟨K, PySem.W.Frag.In.keeps hK k, c⟩
theorem obsLG_eq {as : List Addr} {ft : List Ft} {fn : List He5.DefA} {g : Addr → Option Obj} {s : Shared} (h : ∀ a, g a = s.heap.get? a) : obsLG as ft fn g = (hookL as ft fn).obs s := by
  have e : g = s.heap.get? := funext h
  rw [e] <;> rfl
def cbody : Stmt → List Stmt
  | .ClassDef _ _ _ b _ _ _ _ _ _ _ => b
  | _ => []
end DL
namespace DL
section
open PySem PySem.Spec PyProof.Rows L2
/-! ### the text -/
def top (i : Nat) : Stmt := PySem.Challenge.pw_truthrings_k85_whole_supposed_or_stated.main.body.getD i (.Pass ⟨0, 0, 0, 0⟩)
def mtop (i j : Nat) : Stmt := (cbody (top i)).getD j (.Pass ⟨0, 0, 0, 0⟩)
def CN : List Str := ["Statement", "Expression", "Source", "Line", "Supposing", "NoWay"]
def ex_RuntimeError : List Value := [.type "RuntimeError", .type "Exception", .type "BaseException", .type "object"]
def d_NoWay_init : He5.DefA := ⟨fun K => (He.ma K (He.ga K "NoWay") "__init__"), "__init__", "NoWay.__init__", defArgs (mtop 12 0), defBody (mtop 12 0), defScope (mtop 12 0), [], []⟩
def d_law_numbers : He5.DefA := ⟨fun K => (He.ga K "_law_numbers"), "_law_numbers", "_law_numbers", defArgs (top 110), defBody (top 110), defScope (top 110), [], []⟩
def d_law_draw : He5.DefA := ⟨fun K => (He.ga K "_law_draw"), "_law_draw", "_law_draw", defArgs (top 111), defBody (top 111), defScope (top 111), [], []⟩
def d_law_sign : He5.DefA := ⟨fun K => (He.ga K "_law_sign"), "_law_sign", "_law_sign", defArgs (top 112), defBody (top 112), defScope (top 112), [], []⟩
def d_is_letters : He5.DefA := ⟨fun K => (He.ga K "is_letters"), "is_letters", "is_letters", defArgs (top 16), defBody (top 16), defScope (top 16), [], []⟩
def d_is_name : He5.DefA := ⟨fun K => (He.ga K "is_name"), "is_name", "is_name", defArgs (top 17), defBody (top 17), defScope (top 17), [], []⟩
def d_Source_contains : He5.DefA := ⟨fun K => (He.ma K (He.ga K "Source") "__contains__"), "__contains__", "Source.__contains__", defArgs (mtop 77 16), defBody (mtop 77 16), defScope (mtop 77 16), [], []⟩
def d_Source_require : He5.DefA := ⟨fun K => (He.ma K (He.ga K "Source") "require"), "require", "Source.require", defArgs (mtop 77 3), defBody (mtop 77 3), defScope (mtop 77 3), [], []⟩
def d_Source_length : He5.DefA := ⟨fun K => (He.ma K (He.ga K "Source") "length"), "length", "Source.length", defArgs (mtop 77 8), defBody (mtop 77 8), defScope (mtop 77 8), [], []⟩
def d_Line_init : He5.DefA := ⟨fun K => (He.ma K (He.ga K "Line") "__init__"), "__init__", "Line.__init__", defArgs (mtop 93 0), defBody (mtop 93 0), defScope (mtop 93 0), [], [("is_ring", (.bl false))]⟩
def d_run_length : He5.DefA := ⟨fun K => (He.ga K "run_length"), "run_length", "run_length", defArgs (top 43), defBody (top 43), defScope (top 43), [], []⟩
def d_tokens_of : He5.DefA := ⟨fun K => (He.ga K "tokens_of"), "tokens_of", "tokens_of", defArgs (top 44), defBody (top 44), defScope (top 44), [], []⟩
def d_is_statement_text : He5.DefA := ⟨fun K => (He.ga K "is_statement_text"), "is_statement_text", "is_statement_text", defArgs (top 26), defBody (top 26), defScope (top 26), [], []⟩
def d_Statement_is_text : He5.DefA := ⟨fun K => (He5.wf K (He.ga K "Statement") "staticmethod" "is_text"), "is_text", "Statement.is_text", defArgs (mtop 27 4), defBody (mtop 27 4), defScope (mtop 27 4), [], []⟩
def d_is_person_text : He5.DefA := ⟨fun K => (He.ga K "is_person_text"), "is_person_text", "is_person_text", defArgs (top 42), defBody (top 42), defScope (top 42), [], []⟩
def d_leaf_tree : He5.DefA := ⟨fun K => (He.ga K "leaf_tree"), "leaf_tree", "leaf_tree", defArgs (top 45), defBody (top 45), defScope (top 45), [], []⟩
def d_leaf_of_token : He5.DefA := ⟨fun K => (He.ga K "leaf_of_token"), "leaf_of_token", "leaf_of_token", defArgs (top 48), defBody (top 48), defScope (top 48), [], []⟩
def d_state_behind : He5.DefA := ⟨fun K => (He.ga K "state_behind"), "state_behind", "state_behind", defArgs (top 49), defBody (top 49), defScope (top 49), [], []⟩
def d_tree_of : He5.DefA := ⟨fun K => (He.ga K "tree_of"), "tree_of", "tree_of", defArgs (top 46), defBody (top 46), defScope (top 46), [], []⟩
def d_closed_group : He5.DefA := ⟨fun K => (He.ga K "closed_group"), "closed_group", "closed_group", defArgs (top 47), defBody (top 47), defScope (top 47), [], []⟩
def d_read_tree : He5.DefA := ⟨fun K => (He.ga K "read_tree"), "read_tree", "read_tree", defArgs (top 50), defBody (top 50), defScope (top 50), [], []⟩
def d_require_measures : He5.DefA := ⟨fun K => (He.ga K "require_measures"), "require_measures", "require_measures", defArgs (top 58), defBody (top 58), defScope (top 58), [], []⟩
def d_Expression_nodes : He5.DefA := ⟨fun K => (He5.wf K (He.ga K "Expression") "property" "nodes"), "nodes", "Expression.nodes", defArgs (mtop 60 7), defBody (mtop 60 7), defScope (mtop 60 7), [], []⟩
def d_Expression_levels : He5.DefA := ⟨fun K => (He.ma K (He.ga K "Expression") "levels"), "levels", "Expression.levels", defArgs (mtop 60 10), defBody (mtop 60 10), defScope (mtop 60 10), [], []⟩
def d_Expression_kind : He5.DefA := ⟨fun K => (He5.wf K (He.ga K "Expression") "property" "kind"), "kind", "Expression.kind", defArgs (mtop 60 5), defBody (mtop 60 5), defScope (mtop 60 5), [], []⟩
def d_Expression_text : He5.DefA := ⟨fun K => (He5.wf K (He.ga K "Expression") "property" "text"), "text", "Expression.text", defArgs (mtop 60 6), defBody (mtop 60 6), defScope (mtop 60 6), [], []⟩
def d_enclosed_text : He5.DefA := ⟨fun K => (He.ga K "enclosed_text"), "enclosed_text", "enclosed_text", defArgs (top 56), defBody (top 56), defScope (top 56), [], []⟩
def d_text_of_parts : He5.DefA := ⟨fun K => (He.ga K "text_of_parts"), "text_of_parts", "text_of_parts", defArgs (top 57), defBody (top 57), defScope (top 57), [], []⟩
def d_Expression_init : He5.DefA := ⟨fun K => (He.ma K (He.ga K "Expression") "__init__"), "__init__", "Expression.__init__", defArgs (mtop 60 0), defBody (mtop 60 0), defScope (mtop 60 0), [], []⟩
def d_expression_of : He5.DefA := ⟨fun K => (He.ga K "expression_of"), "expression_of", "expression_of", defArgs (top 64), defBody (top 64), defScope (top 64), [], []⟩
def d_Expression_read : He5.DefA := ⟨fun K => (He5.wf K (He.ga K "Expression") "classmethod" "read"), "read", "Expression.read", defArgs (mtop 60 4), defBody (mtop 60 4), defScope (mtop 60 4), [], []⟩
def d_is_definitions : He5.DefA := ⟨fun K => (He.ga K "is_definitions"), "is_definitions", "is_definitions", defArgs (top 70), defBody (top 70), defScope (top 70), [], []⟩
def d_Expression_names : He5.DefA := ⟨fun K => (He.ma K (He.ga K "Expression") "names"), "names", "Expression.names", defArgs (mtop 60 12), defBody (mtop 60 12), defScope (mtop 60 12), [], []⟩
def d_reached_from : He5.DefA := ⟨fun K => (He.ga K "reached_from"), "reached_from", "reached_from", defArgs (top 71), defBody (top 71), defScope (top 71), [], []⟩
def d_ordered_names : He5.DefA := ⟨fun K => (He.ga K "ordered_names"), "ordered_names", "ordered_names", defArgs (top 74), defBody (top 74), defScope (top 74), [], []⟩
def d_Expression_parts : He5.DefA := ⟨fun K => (He.ma K (He.ga K "Expression") "parts"), "parts", "Expression.parts", defArgs (mtop 60 11), defBody (mtop 60 11), defScope (mtop 60 11), [], []⟩
def d_persons_within : He5.DefA := ⟨fun K => (He.ga K "persons_within"), "persons_within", "persons_within", defArgs (top 72), defBody (top 72), defScope (top 72), [], []⟩
def d_all_lengths : He5.DefA := ⟨fun K => (He.ga K "all_lengths"), "all_lengths", "all_lengths", defArgs (top 75), defBody (top 75), defScope (top 75), [], []⟩
def d_levels_of : He5.DefA := ⟨fun K => (He.ga K "levels_of"), "levels_of", "levels_of", defArgs (top 73), defBody (top 73), defScope (top 73), [], []⟩
def d_all_levels : He5.DefA := ⟨fun K => (He.ga K "all_levels"), "all_levels", "all_levels", defArgs (top 76), defBody (top 76), defScope (top 76), [], []⟩
def d_Source_init : He5.DefA := ⟨fun K => (He.ma K (He.ga K "Source") "__init__"), "__init__", "Source.__init__", defArgs (mtop 77 0), defBody (mtop 77 0), defScope (mtop 77 0), [], []⟩
def d_Line_of_text : He5.DefA := ⟨fun K => (He5.wf K (He.ga K "Line") "classmethod" "of_text"), "of_text", "Line.of_text", defArgs (mtop 93 1), defBody (mtop 93 1), defScope (mtop 93 1), [], [("is_ring", (.bl false))]⟩
def d_law_line : He5.DefA := ⟨fun K => (He.ga K "_law_line"), "_law_line", "_law_line", defArgs (top 113), defBody (top 113), defScope (top 113), [], []⟩
def d_Line_size : He5.DefA := ⟨fun K => (He5.wf K (He.ga K "Line") "property" "size"), "size", "Line.size", defArgs (mtop 93 5), defBody (mtop 93 5), defScope (mtop 93 5), [], []⟩
def d_require_size : He5.DefA := ⟨fun K => (He.ga K "require_size"), "require_size", "require_size", defArgs (top 104), defBody (top 104), defScope (top 104), [], []⟩
def d_is_integer : He5.DefA := ⟨fun K => (He.ga K "is_integer"), "is_integer", "is_integer", defArgs (top 19), defBody (top 19), defScope (top 19), [], []⟩
def d_is_between : He5.DefA := ⟨fun K => (He.ga K "is_between"), "is_between", "is_between", defArgs (top 20), defBody (top 20), defScope (top 20), [], []⟩
def d_is_person : He5.DefA := ⟨fun K => (He.ga K "is_person"), "is_person", "is_person", defArgs (top 94), defBody (top 94), defScope (top 94), [], []⟩
def d_is_letter : He5.DefA := ⟨fun K => (He.ga K "is_letter"), "is_letter", "is_letter", defArgs (top 98), defBody (top 98), defScope (top 98), [], []⟩
def d_is_facts : He5.DefA := ⟨fun K => (He.ga K "is_facts"), "is_facts", "is_facts", defArgs (top 99), defBody (top 99), defScope (top 99), [], []⟩
def d_Line_source : He5.DefA := ⟨fun K => (He5.wf K (He.ga K "Line") "property" "source"), "source", "Line.source", defArgs (mtop 93 2), defBody (mtop 93 2), defScope (mtop 93 2), [], []⟩
def d_Source_uses : He5.DefA := ⟨fun K => (He.ma K (He.ga K "Source") "uses"), "uses", "Source.uses", defArgs (mtop 77 6), defBody (mtop 77 6), defScope (mtop 77 6), [], []⟩
def d_Line_part : He5.DefA := ⟨fun K => (He5.wf K (He.ga K "Line") "property" "part"), "part", "Line.part", defArgs (mtop 93 3), defBody (mtop 93 3), defScope (mtop 93 3), [], []⟩
def d_Source_order : He5.DefA := ⟨fun K => (He.ma K (He.ga K "Source") "order"), "order", "Source.order", defArgs (mtop 77 5), defBody (mtop 77 5), defScope (mtop 77 5), [], []⟩
def d_Source_getitem : He5.DefA := ⟨fun K => (He.ma K (He.ga K "Source") "__getitem__"), "__getitem__", "Source.__getitem__", defArgs (mtop 77 14), defBody (mtop 77 14), defScope (mtop 77 14), [], []⟩
def d_Statement_init : He5.DefA := ⟨fun K => (He.ma K (He.ga K "Statement") "__init__"), "__init__", "Statement.__init__", defArgs (mtop 27 2), defBody (mtop 27 2), defScope (mtop 27 2), [], []⟩
def d_Expression_statement : He5.DefA := ⟨fun K => (He5.wf K (He.ga K "Expression") "property" "statement"), "statement", "Expression.statement", defArgs (mtop 60 9), defBody (mtop 60 9), defScope (mtop 60 9), [], []⟩
def d_written_out : He5.DefA := ⟨fun K => (He.ga K "written_out"), "written_out", "written_out", defArgs (top 90), defBody (top 90), defScope (top 90), [], []⟩
def d_persons_of : He5.DefA := ⟨fun K => (He.ga K "persons_of"), "persons_of", "persons_of", defArgs (top 91), defBody (top 91), defScope (top 91), [], []⟩
def d_Line_is_ring : He5.DefA := ⟨fun K => (He5.wf K (He.ga K "Line") "property" "is_ring"), "is_ring", "Line.is_ring", defArgs (mtop 93 4), defBody (mtop 93 4), defScope (mtop 93 4), [], []⟩
def d_ends_of : He5.DefA := ⟨fun K => (He.ga K "ends_of"), "ends_of", "ends_of", defArgs (top 85), defBody (top 85), defScope (top 85), [], []⟩
def d_allows_pair : He5.DefA := ⟨fun K => (He.ga K "allows_pair"), "allows_pair", "allows_pair", defArgs (top 100), defBody (top 100), defScope (top 100), [], []⟩
def d_Statement_contains : He5.DefA := ⟨fun K => (He.ma K (He.ga K "Statement") "__contains__"), "__contains__", "Statement.__contains__", defArgs (mtop 27 12), defBody (mtop 27 12), defScope (mtop 27 12), [], []⟩
def d_does_fit : He5.DefA := ⟨fun K => (He.ga K "does_fit"), "does_fit", "does_fit", defArgs (top 83), defBody (top 83), defScope (top 83), [], []⟩
def d_next_pairs : He5.DefA := ⟨fun K => (He.ga K "next_pairs"), "next_pairs", "next_pairs", defArgs (top 84), defBody (top 84), defScope (top 84), [], []⟩
def d_reached_pairs : He5.DefA := ⟨fun K => (He.ga K "reached_pairs"), "reached_pairs", "reached_pairs", defArgs (top 101), defBody (top 101), defScope (top 101), [], []⟩
def d_led_pairs : He5.DefA := ⟨fun K => (He.ga K "led_pairs"), "led_pairs", "led_pairs", defArgs (top 102), defBody (top 102), defScope (top 102), [], []⟩
def d_possible_letters : He5.DefA := ⟨fun K => (He.ga K "possible_letters"), "possible_letters", "possible_letters", defArgs (top 103), defBody (top 103), defScope (top 103), [], []⟩
def d_known_text : He5.DefA := ⟨fun K => (He.ga K "known_text"), "known_text", "known_text", defArgs (top 105), defBody (top 105), defScope (top 105), [], []⟩
def d_known : He5.DefA := ⟨fun K => (He.ga K "known"), "known", "known", defArgs (top 106), defBody (top 106), defScope (top 106), [], []⟩
def d_Supposing_init : He5.DefA := ⟨fun K => (He.ma K (He.ga K "Supposing") "__init__"), "__init__", "Supposing.__init__", defArgs (mtop 108 0), defBody (mtop 108 0), defScope (mtop 108 0), [], []⟩
def d_told_by : He5.DefA := ⟨fun K => (He.ga K "told_by"), "told_by", "told_by", defArgs (top 107), defBody (top 107), defScope (top 107), [], []⟩
def d_Supposing_known : He5.DefA := ⟨fun K => (He.ma K (He.ga K "Supposing") "known"), "known", "Supposing.known", defArgs (mtop 108 4), defBody (mtop 108 4), defScope (mtop 108 4), [], []⟩
def d_Supposing_release : He5.DefA := ⟨fun K => (He.ma K (He.ga K "Supposing") "release"), "release", "Supposing.release", defArgs (mtop 108 2), defBody (mtop 108 2), defScope (mtop 108 2), [], []⟩
def d_law_stated : He5.DefA := ⟨fun K => (He.ga K "_law_stated"), "_law_stated", "_law_stated", defArgs (top 114), defBody (top 114), defScope (top 114), [], []⟩
def d_law_same : He5.DefA := ⟨fun K => (He.ga K "_law_same"), "_law_same", "_law_same", defArgs (top 116), defBody (top 116), defScope (top 116), [], []⟩
def d_Supposing_suppose : He5.DefA := ⟨fun K => (He.ma K (He.ga K "Supposing") "suppose"), "suppose", "Supposing.suppose", defArgs (mtop 108 1), defBody (mtop 108 1), defScope (mtop 108 1), [], []⟩
def d_law_supposed : He5.DefA := ⟨fun K => (He.ga K "_law_supposed"), "_law_supposed", "_law_supposed", defArgs (top 115), defBody (top 115), defScope (top 115), [], []⟩
def d_law_next : He5.DefA := ⟨fun K => (He.ga K "_law_next"), "_law_next", "_law_next", defArgs (top 117), defBody (top 117), defScope (top 117), [], []⟩
def d_Supposing_facts : He5.DefA := ⟨fun K => (He.ma K (He.ga K "Supposing") "facts"), "facts", "Supposing.facts", defArgs (mtop 108 3), defBody (mtop 108 3), defScope (mtop 108 3), [], []⟩
def d_law : He5.DefA := ⟨fun K => (He.ga K "law"), "law", "law", defArgs (top 118), defBody (top 118), defScope (top 118), [], []⟩
def FN : List He5.DefA := [d_NoWay_init, d_law_numbers, d_law_draw, d_law_sign, d_is_letters, d_is_name, d_Source_contains, d_Source_require, d_Source_length, d_Line_init, d_run_length, d_tokens_of, d_is_statement_text, d_Statement_is_text, d_is_person_text, d_leaf_tree, d_leaf_of_token, d_state_behind, d_tree_of, d_closed_group, d_read_tree, d_require_measures, d_Expression_nodes, d_Expression_levels, d_Expression_kind, d_Expression_text, d_enclosed_text, d_text_of_parts, d_Expression_init, d_expression_of, d_Expression_read, d_is_definitions, d_Expression_names, d_reached_from, d_ordered_names, d_Expression_parts, d_persons_within, d_all_lengths, d_levels_of, d_all_levels, d_Source_init, d_Line_of_text, d_law_line, d_Line_size, d_require_size, d_is_integer, d_is_between, d_is_person, d_is_letter, d_is_facts, d_Line_source, d_Source_uses, d_Line_part, d_Source_order, d_Source_getitem, d_Statement_init, d_Expression_statement, d_written_out, d_persons_of, d_Line_is_ring, d_ends_of, d_allows_pair, d_Statement_contains, d_does_fit, d_next_pairs, d_reached_pairs, d_led_pairs, d_possible_letters, d_known_text, d_known, d_Supposing_init, d_told_by, d_Supposing_known, d_Supposing_release, d_law_stated, d_law_same, d_Supposing_suppose, d_law_supposed, d_law_next, d_Supposing_facts, d_law]
def FT : List Ft := [.h (.free "max"),
  .h (.free "len"),
  .h (.free "range"),
  .h (.glo "_law_numbers"),
  .h (.keep "_law_numbers"),
  .h (.glo "_law_draw"),
  .h (.keep "_law_draw"),
  .h (.free "str"),
  .h (.glo "_law_sign"),
  .h (.keep "_law_sign"),
  .isi (.b "str") (.b "str") true,
  .h (.free "isinstance"),
  .h (.int "MAX_LETTERS" 8),
  .h (.str "LOWERCASE" "abcdefghijklmnopqrstuvwxyz"),
  .h (.free "all"),
  .h (.glo "is_letters"),
  .h (.keep "is_letters"),
  .h (.glo "is_name"),
  .h (.keep "is_name"),
  .h (.cls "Source"),
  .h (.noat "Source" "own_parts"),
  .own "Source" "__contains__",
  .h (.meth "Source" "require"),
  .h (.noat "Source" "own_sizes"),
  .h (.meth "Source" "length"),
  .h (.int "LEAST_RING" 3),
  .h (.cls "Line"),
  .h (.noat "Line" "own_source"),
  .h (.noat "Line" "own_part"),
  .h (.noat "Line" "own_kind"),
  .h (.str "START" "start"),
  .h (.str "DIGITS" "0123456789"),
  .h (.glo "run_length"),
  .h (.keep "run_length"),
  .h (.glo "tokens_of"),
  .h (.keep "tokens_of"),
  .h (.str "NUMBER" "number"),
  .h (.str "PART" "part"),
  .h (.str "FREE" "?"),
  .h (.int "LENGTH" 4),
  .h (.glo "is_statement_text"),
  .h (.keep "is_statement_text"),
  .rd "Statement",
  .sta "Statement" "is_text",
  .h (.glo "Statement"),
  .h (.glo "is_person_text"),
  .h (.keep "is_person_text"),
  .h (.str "PERSON" "person"),
  .h (.glo "leaf_tree"),
  .h (.keep "leaf_tree"),
  .h (.glo "leaf_of_token"),
  .h (.keep "leaf_of_token"),
  .h (.glo "state_behind"),
  .h (.keep "state_behind"),
  .h (.str "JOIN" "join"),
  .h (.free "sum"),
  .h (.free "tuple"),
  .h (.glo "tree_of"),
  .h (.keep "tree_of"),
  .h (.glo "closed_group"),
  .h (.keep "closed_group"),
  .h (.glo "read_tree"),
  .h (.keep "read_tree"),
  .h (.int "MAX_NODES" 500),
  .h (.int "MAX_LEVELS_expressions" 30),
  .h (.glo "require_measures"),
  .h (.keep "require_measures"),
  .h (.glo "expression_of"),
  .h (.keep "expression_of"),
  .h (.cls "Expression"),
  .h (.noat "Expression" "own_kind"),
  .h (.free "list"),
  .h (.noat "Expression" "own_parts"),
  .h (.noat "Expression" "own_times"),
  .h (.noat "Expression" "own_nodes"),
  .prp "Expression" "nodes",
  .h (.noat "Expression" "own_levels"),
  .h (.meth "Expression" "levels"),
  .h (.str "NAME" "name"),
  .prp "Expression" "kind",
  .h (.noat "Expression" "own_text"),
  .prp "Expression" "text",
  .h (.glo "enclosed_text"),
  .h (.keep "enclosed_text"),
  .h (.glo "text_of_parts"),
  .h (.keep "text_of_parts"),
  .h (.mkr "Expression"),
  .h (.glo "Expression"),
  .rd "Expression",
  .clm "Expression" "read",
  .isi (.b "dict") (.b "dict") true,
  .h (.free "dict"),
  .h (.int "MAX_NAMES" 60),
  .isi (.o "Expression") (.o "Expression") true,
  .kit "Expression",
  .h (.glo "is_definitions"),
  .h (.keep "is_definitions"),
  .h (.free "sorted"),
  .h (.meth "Expression" "names"),
  .h (.noat "Source" "own_links"),
  .h (.glo "reached_from"),
  .h (.keep "reached_from"),
  .h (.glo "ordered_names"),
  .h (.keep "ordered_names"),
  .h (.noat "Source" "own_order"),
  .h (.meth "Expression" "parts"),
  .h (.glo "persons_within"),
  .h (.keep "persons_within"),
  .h (.str "REPEAT" "repeat"),
  .h (.glo "all_lengths"),
  .h (.keep "all_lengths"),
  .h (.int "MAX_SIZE" 1000000000000000000000000000000000000000000000000000000000000),
  .h (.free "any"),
  .h (.glo "levels_of"),
  .h (.keep "levels_of"),
  .h (.glo "all_levels"),
  .h (.keep "all_levels"),
  .h (.int "MAX_LEVELS_sources" 200),
  .h (.mkr "Source"),
  .h (.glo "Source"),
  .h (.mkr "Line"),
  .rd "Line",
  .clm "Line" "of_text",
  .h (.glo "Line"),
  .h (.glo "_law_line"),
  .h (.keep "_law_line"),
  .prp "Line" "size",
  .h (.int "MAX_PERSONS" 400),
  .h (.glo "require_size"),
  .h (.keep "require_size"),
  .isi (.b "int") (.b "int") true,
  .h (.free "int"),
  .isi (.b "int") (.b "bool") false,
  .h (.free "bool"),
  .h (.glo "is_integer"),
  .h (.keep "is_integer"),
  .h (.glo "is_between"),
  .h (.keep "is_between"),
  .h (.glo "is_person"),
  .h (.keep "is_person"),
  .tup "LETTERS_statements" [(.str "T"), (.str "L")],
  .h (.glo "is_letter"),
  .h (.keep "is_letter"),
  .h (.glo "is_facts"),
  .h (.keep "is_facts"),
  .prp "Line" "source",
  .prp "Line" "part",
  .h (.meth "Source" "uses"),
  .h (.meth "Source" "order"),
  .own "Source" "__getitem__",
  .h (.cls "Statement"),
  .h (.noat "Statement" "own_text"),
  .h (.mkr "Statement"),
  .prp "Expression" "statement",
  .h (.glo "written_out"),
  .h (.keep "written_out"),
  .h (.str "MIRROR" "mirror"),
  .h (.glo "persons_of"),
  .h (.keep "persons_of"),
  .prp "Line" "is_ring",
  .tup "PAIRS" [(.str "TT"), (.str "TL"), (.str "LT"), (.str "LL")],
  .tup "ROW_STARTS" [(.str "TT"), (.str "TL")],
  .tup "ROW_ENDS" [(.str "TT"), (.str "LT")],
  .h (.glo "ends_of"),
  .h (.keep "ends_of"),
  .h (.glo "allows_pair"),
  .h (.keep "allows_pair"),
  .h (.free "enumerate"),
  .tup "LETTERS_tables" [(.str "T"), (.str "L")],
  .tpo "PAIRS",
  .own "Statement" "__contains__",
  .h (.glo "does_fit"),
  .h (.keep "does_fit"),
  .h (.glo "next_pairs"),
  .h (.keep "next_pairs"),
  .h (.glo "reached_pairs"),
  .h (.keep "reached_pairs"),
  .h (.glo "led_pairs"),
  .h (.keep "led_pairs"),
  .h (.glo "possible_letters"),
  .h (.keep "possible_letters"),
  .h (.str "UNKNOWN" "?"),
  .h (.glo "known_text"),
  .h (.keep "known_text"),
  .h (.glo "known"),
  .h (.keep "known"),
  .h (.cls "Supposing"),
  .h (.noat "Supposing" "own_line"),
  .h (.noat "Supposing" "own_facts"),
  .h (.mkr "Supposing"),
  .h (.glo "Supposing"),
  .h (.glo "told_by"),
  .h (.keep "told_by"),
  .h (.meth "Supposing" "known"),
  .h (.meth "Supposing" "release"),
  .h (.glo "_law_stated"),
  .h (.keep "_law_stated"),
  .h (.glo "_law_same"),
  .h (.keep "_law_same"),
  .exc "NoWay" "RuntimeError.__new__" ex_RuntimeError,
  .h (.meth "Supposing" "suppose"),
  .h (.free "repr"),
  .h (.noat "NoWay" "value"),
  .h (.glo "NoWay"),
  .h (.exm "NoWay" "NoWay" true),
  .h (.glo "_law_supposed"),
  .h (.keep "_law_supposed"),
  .h (.glo "_law_next"),
  .h (.keep "_law_next"),
  .h (.meth "Supposing" "facts"),
  .h (.glo "law")]
end
section
open PySem PySem.W PySem.Calls PyProof.Rows
abbrev R : OpenRow := OpenLaw.row PySem.Challenge.rw_truthrings_k85_whole_supposed_or_stated
abbrev qv : Program := view R.prog [118]
def names0 : List PySem.Str := ["_wall", "RingError", "InvalidStatement", "InvalidSource", "InvalidLine", "InvalidFacts", "InvalidText", "InvalidNumber", "LimitExceeded", "UnknownName", "CircularName", "NoWay", "LOWERCASE", "MAX_LETTERS", "is_letters", "is_name", "is_integer", "is_between", "LETTERS_statements", "PAIRS", "LENGTH", "text_of", "is_statement_text", "Statement", "DIGITS", "FREE", "MAX_DIGITS", "START", "PART", "NUMBER"]
def names1 : List PySem.Str := ["PERSON", "NAME", "JOIN", "MIRROR", "REPEAT", "is_digits", "is_repetition", "is_person_text", "run_length", "tokens_of", "leaf_tree", "tree_of", "closed_group", "leaf_of_token", "state_behind", "read_tree", "measures_of", "MAX_NODES", "MAX_LEVELS_expressions", "MOST_TIMES", "enclosed_text", "text_of_parts", "require_measures", "limited_expression", "Expression", "join_of", "mirror_of", "repeat_of", "expression_of", "MAX_NAMES"]
def names2 : List PySem.Str := ["SIZE_DIGITS", "MAX_SIZE", "MAX_LEVELS_sources", "is_definitions", "reached_from", "persons_within", "levels_of", "ordered_names", "all_lengths", "all_levels", "Source", "row_measures", "ROW_STARTS", "ROW_ENDS", "LETTERS_tables", "does_fit", "next_pairs", "ends_of", "LEAST_RING", "TRUTHFUL", "mirrored_persons", "written_out", "persons_of", "is_way", "Line", "is_person", "MAX_PERSONS", "UNKNOWN", "is_letter", "is_facts"]
def names3 : List PySem.Str := ["allows_pair", "reached_pairs", "led_pairs", "possible_letters", "require_size", "known_text", "known", "told_by", "Supposing", "_law_numbers", "_law_draw", "_law_sign", "_law_line", "_law_stated", "_law_supposed", "_law_same", "_law_next"]
def names : List PySem.Str := names0 ++ names1 ++ names2 ++ names3
def adrs : List Addr := [3, 2, 31, 51, 70, 89, 108, 127, 146, 166, 186, 206, 226, 360, 633, 845, 982, 1119, 6, 0, 30, 50, 69, 88, 107, 126, 145, 165, 185, 205, 225, 359, 632, 844, 981, 1118, 289, 299, 490, 500,
  510, 520, 722, 908, 924, 291, 301, 492, 502, 512, 522, 724, 916, 926, 256, 257, 857, 858, 859, 4, 21, 234, 241, 248, 255, 262, 267, 369, 376, 383, 390, 397, 404, 409, 416, 423, 430, 437, 444, 451,
  456, 463, 470, 644, 651, 658, 663, 668, 675, 680, 685, 690, 697, 704, 856, 866, 871, 876, 881, 888, 895, 900, 993, 1000, 1005, 1012, 1017, 1022, 1027, 1034, 1039, 1046, 1053, 1130, 1137, 1142, 1149, 1156, 1163, 1170,
  1175, 1180, 20, 233, 240, 247, 254, 261, 266, 368, 375, 382, 389, 396, 403, 408, 415, 422, 429, 436, 443, 450, 455, 462, 469, 643, 650, 657, 662, 667, 674, 679, 684, 689, 696, 703, 855, 865, 870, 875,
  880, 887, 894, 899, 992, 999, 1004, 1011, 1016, 1021, 1026, 1033, 1038, 1045, 1052, 1129, 1136, 1141, 1148, 1155, 1162, 1169, 1174, 1179, 16, 19, 32, 48, 67, 86, 105, 124, 143, 147, 163, 167, 183, 187, 203, 207,
  223, 227, 231, 232, 236, 239, 243, 246, 250, 253, 259, 260, 264, 265, 281, 290, 300, 309, 316, 321, 326, 331, 336, 343, 350, 357, 361, 362, 366, 367, 371, 374, 378, 381, 385, 388, 392, 395, 399, 402,
  406, 407, 411, 414, 418, 421, 425, 428, 432, 435, 439, 442, 446, 449, 453, 454, 458, 461, 465, 468, 482, 491, 501, 511, 521, 530, 538, 546, 554, 562, 569, 576, 581, 588, 595, 602, 609, 616, 623, 630,
  634, 635, 639, 642, 646, 649, 653, 656, 660, 661, 665, 666, 670, 673, 677, 678, 682, 683, 687, 688, 692, 695, 699, 702, 716, 723, 730, 737, 744, 751, 758, 765, 772, 779, 786, 793, 800, 807, 814, 821,
  828, 835, 842, 846, 847, 851, 854, 861, 864, 868, 869, 873, 874, 878, 879, 883, 886, 890, 893, 897, 898, 915, 925, 934, 942, 950, 958, 965, 972, 979, 983, 984, 988, 991, 995, 998, 1002, 1003, 1007, 1010,
  1014, 1015, 1019, 1020, 1024, 1025, 1029, 1032, 1036, 1037, 1041, 1044, 1048, 1051, 1067, 1074, 1081, 1088, 1095, 1102, 1109, 1116, 1120, 1121, 1125, 1128, 1132, 1135, 1139, 1140, 1144, 1147, 1151, 1154, 1158, 1161, 1165, 1168, 1172, 1173,
  1177, 1178, 47, 66, 85, 104, 123, 142, 162, 182, 202, 222, 280, 288, 298, 308, 315, 320, 325, 330, 335, 342, 349, 356, 481, 489, 499, 509, 519, 529, 537, 545, 553, 561, 568, 575, 580, 587, 594, 601,
  608, 615, 622, 629, 715, 721, 729, 736, 743, 750, 757, 764, 771, 778, 785, 792, 799, 806, 813, 820, 827, 834, 841, 914, 923, 933, 941, 949, 957, 964, 971, 978, 1066, 1073, 1080, 1087, 1094, 1101, 1108, 1115,
  43, 46, 62, 65, 81, 84, 100, 103, 119, 122, 138, 141, 158, 161, 178, 181, 198, 201, 218, 221, 276, 279, 287, 297, 307, 311, 314, 318, 319, 323, 324, 328, 329, 333, 334, 338, 341, 345, 348, 352,
  355, 479, 480, 488, 498, 508, 518, 528, 536, 544, 552, 560, 564, 567, 571, 574, 578, 579, 583, 586, 590, 593, 597, 600, 604, 607, 611, 614, 618, 621, 625, 628, 713, 714, 720, 728, 732, 735, 739, 742,
  746, 749, 753, 756, 760, 763, 767, 770, 774, 777, 781, 784, 788, 791, 795, 798, 802, 805, 809, 812, 816, 819, 823, 826, 830, 833, 837, 840, 910, 913, 922, 932, 940, 948, 956, 960, 963, 967, 970, 974,
  977, 1062, 1065, 1069, 1072, 1076, 1079, 1083, 1086, 1090, 1093, 1097, 1100, 1104, 1107, 1111, 1114, 283, 286, 293, 296, 303, 306, 484, 487, 494, 497, 504, 507, 514, 517, 524, 527, 532, 535, 540, 543, 548, 551, 556,
  559, 718, 719, 726, 727, 918, 921, 928, 931, 936, 939, 944, 947, 952, 955]
abbrev hk : Hook := hookL adrs FT FN
def ob (s : SharedT) : He.AlD := obsLG adrs FT FN (HandSHeadRun.getT s)
theorem ob_eq (s : SharedT) : ob s = hk.obs s.abs := obsLG_eq (HandSHeadRun.getT_eq s)
section
open HandSHeadRun
theorem headA (w : World) (os : OsState) : (endF (stepQ (denQ tabQ) R.prog w) 20000 R.prog w os).map (fun s => looksF R.prog (boot_heap w.params) s.abs) = some true := by
  kernel_rfl
theorem headB (w : World) (os : OsState) : (endF (stepQ (denQ tabQ) R.prog w) 20000 R.prog w os).map (fun s => seenQ qv names (importedModules R.prog.main.body) (fun s => xlAt qv [] s && recOk R.toRowW.records s) s.abs) = some (openGood qv names) := by
  kernel_rfl
theorem headC (w : World) (os : OsState) : (endF (stepQ (denQ tabQ) R.prog w) 20000 R.prog w os).map ob = some (hk.val w) := by
  kernel_rfl
theorem map3 {α β γ δ : Type} {o : Option α} {f : α → β} {g : α → γ} {h : α → δ} {b : β} {c : γ} {d : δ} (h1 : o.map f = some b) (h2 : o.map g = some c) (h3 : o.map h = some d) : o.map (fun s => (f s, g s, h s)) = some (b, c, d) := by
  cases o with
  | none => cases h1
  | some s =>
    cases h1
    cases h2
    cases h3
    rfl
theorem run (w : World) : RunEq R qv hk ob 20000 names w := fun os => map3 (headA w os) (headB w os) (headC w os)
end
end
end DL
/-! DL0: the data level. D: a value as a tree (cells by number); Rep: what stands for it in the abstract heap. -/
namespace DL
open PySem PySem.Spec PyProof.Rows L2

/-- a value as a tree; loc n: the n-th cell of the store (a thing that may still change) -/
inductive D where
  | non | bl (b : Bool) | int (i : Int) | str (x : Str) | adr (a : Addr)
  | lst (xs : List D) | tup (xs : List D) | dic (kvs : List (Key × D)) | dit (kvs : List (List Key × D)) | set (ks : List Str) | scr (ns : List Int) | obj (c : Nat) (fs : List (Str × D)) | loc (n : Nat)
deriving Inhabited

def IsDc : HO → Prop
  | .dK _ => True
  | .dT _ => True
  | _ => False
/-- the classes by number; what stands for a set of texts -/
structure CE where
  a : Nat → Addr
  S : List Str → Addr → HO
  nd : ∀ ks a, ¬ IsDc (S ks a)
instance : CoeFun CE (fun _ => Nat → Addr) := ⟨CE.a⟩
/-- where the things of the store stand, which addresses are still owned, the heap -/
structure RC where
  K : PySem.W.Frag
  C : CE
  L : List Addr
  /-- owned for a while by an evaluation that is under way -/
  T : List Addr
  W : Addr → Prop
  H : Hp

inductive Rep (c : RC) : D → V → Prop
  | non : Rep c .non .non
  | bl (b) : Rep c (.bl b) (.bl b)
  | int (i) : Rep c (.int i) (.int i)
  | str (x) : Rep c (.str x) (.str x)
  | adr (a) : Rep c (.adr a) (.ref a)
  | lst {a xs vs} (w : ¬ c.W a) (s : c.H a = some (.lst vs)) (l : vs.length = xs.length) (h : ∀ (i : Nat) d v, xs[i]? = some d → vs[i]? = some v → Rep c d v) : Rep c (.lst xs) (.ref a)
  | tup {a xs vs} (s : SqT c.K c.H a vs) (l : vs.length = xs.length) (h : ∀ (i : Nat) d v, xs[i]? = some d → vs[i]? = some v → Rep c d v) : Rep c (.tup xs) (.ref a)
  | dic {a kvs kws} (w : ¬ c.W a) (s : Rd c.H a (.dK kws)) (l : kws.map (·.1) = kvs.map (·.1)) (h : ∀ (i : Nat) p q, kvs[i]? = some p → kws[i]? = some q → Rep c p.2 q.2) : Rep c (.dic kvs) (.ref a)
  | dit {a kvs kws} (w : ¬ c.W a) (s : Rd c.H a (.dT kws)) (l : kws.map (·.1) = kvs.map (·.1)) (h : ∀ (i : Nat) p q, kvs[i]? = some p → kws[i]? = some q → Rep c p.2 q.2) : Rep c (.dit kvs) (.ref a)
  | scr {a ns} (s : (¬ c.W a ∧ Rd c.H a (.lst (ns.map V.int))) ∨ SqL c.K (fun _ => none) a (ns.map V.int)) : Rep c (.scr ns) (.ref a)
  | set {a ks} (w : ¬ c.W a) (s : c.H a = some (c.C.S ks a)) : Rep c (.set ks) (.ref a)
  | obj {k a dx fs fvs} (w : ¬ c.W a) (s : c.H a = some (.ins (c.C k) dx fvs)) (l : fvs.map (·.1) = fs.map (·.1)) (h : ∀ (i : Nat) p q, fs[i]? = some p → fvs[i]? = some q → Rep c p.2 q.2) : Rep c (.obj k fs) (.ref a)
  | loc {n a} (e : c.L[n]? = some a) : Rep c (.loc n) (.ref a)

abbrev Reps (c : RC) (xs : List D) (vs : List V) : Prop := Paired (Rep c) xs vs
abbrev RepK (c : RC) {κ : Type} (p : κ × D) (q : κ × V) : Prop := p.1 = q.1 ∧ Rep c p.2 q.2
abbrev RepsK (c : RC) {κ : Type} (xs : List (κ × D)) (vs : List (κ × V)) : Prop := Paired (RepK c) xs vs

theorem Paired.get {α β : Type} {F : α → β → Prop} : ∀ {xs : List α} {ys : List β} {i : Nat} {x : α}, Paired F xs ys → xs[i]? = some x → ∃ y, ys[i]? = some y ∧ F x y
  | _, _, _, _, .nil, e => by simp at e
  | _, _, 0, _, .cons r _, e => by simp at e; subst e; exact ⟨_, rfl, r⟩
  | _, _, i + 1, x, .cons _ t, e => by
    obtain ⟨u, h1, h2⟩ := Paired.get (i := i) (x := x) t (by simpa using e)
    exact ⟨u, by simpa using h1, h2⟩
theorem paired_of {α β : Type} {F : α → β → Prop} : ∀ {xs : List α} {ys : List β}, ys.length = xs.length → (∀ (i : Nat) x y, xs[i]? = some x → ys[i]? = some y → F x y) → Paired F xs ys
  | [], [], _, _ => .nil
  | [], _ :: _, h, _ => by simp at h
  | _ :: _, [], h, _ => by simp at h
  | x :: xs, y :: ys, h, f => .cons (f 0 x y rfl rfl) (paired_of (by simpa using h) fun i a b ha hb => f (i + 1) a b (by simpa using ha) (by simpa using hb))
theorem paired_at {α β : Type} {F : α → β → Prop} {xs : List α} {ys : List β} (h : Paired F xs ys) : ys.length = xs.length ∧ ∀ (i : Nat) x y, xs[i]? = some x → ys[i]? = some y → F x y :=
  ⟨h.length.symm, fun i x y hx hy => by
    obtain ⟨z, hz, r⟩ := Paired.get h hx
    rw [hy] at hz; cases hz; exact r⟩
theorem Paired.append {α β : Type} {F : α → β → Prop} : ∀ {xs xs' : List α} {ys ys' : List β}, Paired F xs ys → Paired F xs' ys' → Paired F (xs ++ xs') (ys ++ ys')
  | _, _, _, _, .nil, h => h
  | _, _, _, _, .cons r t, h => .cons r (Paired.append t h)
theorem Paired.take {α β : Type} {F : α → β → Prop} : ∀ {xs : List α} {ys : List β} (n : Nat), Paired F xs ys → Paired F (xs.take n) (ys.take n)
  | _, _, 0, _ => by simpa using Paired.nil
  | _, _, n + 1, .nil => .nil
  | _, _, n + 1, .cons r t => .cons r (Paired.take n t)
theorem Paired.drop {α β : Type} {F : α → β → Prop} : ∀ {xs : List α} {ys : List β} (n : Nat), Paired F xs ys → Paired F (xs.drop n) (ys.drop n)
  | _, _, 0, h => by simpa using h
  | _, _, n + 1, .nil => .nil
  | _, _, n + 1, .cons r t => by simpa using Paired.drop n t
theorem Paired.reverse {α β : Type} {F : α → β → Prop} : ∀ {xs : List α} {ys : List β}, Paired F xs ys → Paired F xs.reverse ys.reverse
  | _, _, .nil => .nil
  | _, _, .cons r t => by simpa using Paired.append (Paired.reverse t) (.cons r .nil)
theorem Paired.set {α β : Type} {F : α → β → Prop} {x : α} {y : β} (r : F x y) : ∀ {xs : List α} {ys : List β} (n : Nat), Paired F xs ys → Paired F (xs.set n x) (ys.set n y)
  | _, _, _, .nil => .nil
  | _, _, 0, .cons _ t => .cons r t
  | _, _, n + 1, .cons q t => .cons q (Paired.set r n t)

theorem RepsK.keys {c : RC} {κ : Type} : ∀ {xs : List (κ × D)} {ys : List (κ × V)}, RepsK c xs ys → ys.map (·.1) = xs.map (·.1)
  | _, _, .nil => rfl
  | _, _, .cons r t => by simp [RepsK.keys t, r.1]
theorem repsK_of {c : RC} {κ : Type} : ∀ {xs : List (κ × D)} {ys : List (κ × V)}, ys.map (·.1) = xs.map (·.1) → (∀ (i : Nat) p q, xs[i]? = some p → ys[i]? = some q → Rep c p.2 q.2) → RepsK c xs ys
  | [], [], _, _ => .nil
  | [], _ :: _, h, _ => by simp at h
  | _ :: _, [], h, _ => by simp at h
  | x :: xs, y :: ys, h, f => by
    simp at h
    exact .cons ⟨h.1.symm, f 0 x y rfl rfl⟩ (repsK_of (by simpa using h.2) fun i a b ha hb => f (i + 1) a b (by simpa using ha) (by simpa using hb))

section
variable {c : RC}
theorem Rep.lst' {a : Addr} {xs : List D} {vs : List V} (w : ¬ c.W a) (s : c.H a = some (.lst vs)) (h : Reps c xs vs) : Rep c (.lst xs) (.ref a) := .lst w s (paired_at h).1 (paired_at h).2
theorem Rep.tup' {a : Addr} {xs : List D} {vs : List V} (s : SqT c.K c.H a vs) (h : Reps c xs vs) : Rep c (.tup xs) (.ref a) := .tup s (paired_at h).1 (paired_at h).2
theorem Rep.dic' {a : Addr} {xs : List (Key × D)} {vs : List (Key × V)} (w : ¬ c.W a) (s : Rd c.H a (.dK vs)) (h : RepsK c xs vs) : Rep c (.dic xs) (.ref a) := .dic w s (RepsK.keys h) fun i p q a b => ((paired_at h).2 i p q a b).2
theorem Rep.obj' {k : Nat} {a dx : Addr} {xs : List (Str × D)} {vs : List (Str × V)} (w : ¬ c.W a) (s : c.H a = some (.ins (c.C k) dx vs)) (h : RepsK c xs vs) : Rep c (.obj k xs) (.ref a) := .obj w s (RepsK.keys h) fun i p q a b => ((paired_at h).2 i p q a b).2
theorem Rep.lst_inv {xs : List D} {v : V} (h : Rep c (.lst xs) v) : ∃ a vs, v = .ref a ∧ ¬ c.W a ∧ c.H a = some (.lst vs) ∧ Reps c xs vs := by
  cases h with | lst w s l h => exact ⟨_, _, rfl, w, s, paired_of l h⟩
theorem Rep.tup_inv {xs : List D} {v : V} (h : Rep c (.tup xs) v) : ∃ a vs, v = .ref a ∧ SqT c.K c.H a vs ∧ Reps c xs vs := by
  cases h with | tup s l h => exact ⟨_, _, rfl, s, paired_of l h⟩
theorem Rep.dic_inv {xs : List (Key × D)} {v : V} (h : Rep c (.dic xs) v) : ∃ a vs, v = .ref a ∧ ¬ c.W a ∧ Rd c.H a (.dK vs) ∧ RepsK c xs vs := by
  cases h with | dic w s l h => exact ⟨_, _, rfl, w, s, repsK_of l h⟩
theorem Rep.dit' {a : Addr} {xs : List (List Key × D)} {vs : List (List Key × V)} (w : ¬ c.W a) (s : Rd c.H a (.dT vs)) (h : RepsK c xs vs) : Rep c (.dit xs) (.ref a) := .dit w s (RepsK.keys h) fun i p q a b => ((paired_at h).2 i p q a b).2
theorem Rep.dit_inv {xs : List (List Key × D)} {v : V} (h : Rep c (.dit xs) v) : ∃ a vs, v = .ref a ∧ ¬ c.W a ∧ Rd c.H a (.dT vs) ∧ RepsK c xs vs := by
  cases h with | dit w s l h => exact ⟨_, _, rfl, w, s, repsK_of l h⟩
theorem Rep.obj_inv {k : Nat} {xs : List (Str × D)} {v : V} (h : Rep c (.obj k xs) v) : ∃ a dx vs, v = .ref a ∧ ¬ c.W a ∧ c.H a = some (.ins (c.C k) dx vs) ∧ RepsK c xs vs := by
  cases h with | obj w s l h => exact ⟨_, _, _, rfl, w, s, repsK_of l h⟩
theorem RepsK.lookup {f : Str} {d : D} : ∀ {xs : List (Str × D)} {ys : List (Str × V)}, RepsK c xs ys → xs.lookup f = some d → ∃ v, ys.lookup f = some v ∧ Rep c d v
  | _, _, .nil, e => by simp at e
  | (a, x) :: xs, (b, y) :: ys, .cons r t, e => by
    obtain ⟨r1, r2⟩ := r
    simp only at r1; subst r1
    rw [List.lookup_cons] at e ⊢
    cases hb : f == a with
    | true => rw [hb] at e; simp at e; subst e; exact ⟨_, by simp, r2⟩
    | false => rw [hb] at e; simp at e ⊢; exact RepsK.lookup t e
theorem RepsK.lookup_none {f : Str} : ∀ {xs : List (Str × D)} {ys : List (Str × V)}, RepsK c xs ys → xs.lookup f = none → ys.lookup f = none
  | _, _, .nil, e => by simp
  | (a, x) :: xs, (b, y) :: ys, .cons r t, e => by
    obtain ⟨r1, r2⟩ := r
    simp only at r1; subst r1
    rw [List.lookup_cons] at e ⊢
    cases hb : f == a with
    | true => rw [hb] at e; cases e
    | false => rw [hb] at e; exact RepsK.lookup_none t e
end

/-- it stands as it was; a dict perhaps locked for good -/
def Stands (u : HO) (o : Option HO) : Prop := o = some u ∨ (IsDc u ∧ ∃ z, o = some (.frz z u))
theorem Stands.there {u : HO} {o : Option HO} (h : Stands u o) : ∃ v, o = some v := by
  rcases h with h | ⟨_, z, h⟩
  · exact ⟨_, h⟩
  · exact ⟨_, h⟩
theorem Stands.same {u : HO} {o : Option HO} (h : Stands u o) (n : ¬ IsDc u) : o = some u := by
  rcases h with h | ⟨q, z, h⟩
  · exact h
  · exact absurd q n
theorem Stands.trans {u : HO} {o o2 : Option HO} (h : Stands u o) (h2 : ∀ v, o = Option.some v → Stands v o2) : Stands u o2 := by
  rcases h with h | ⟨q, z, h⟩
  · exact h2 _ h
  · exact .inr ⟨q, z, (h2 _ h).same fun z => z⟩
/-- from one state to a later one: cells are added, what is not owned stands -/
structure Ext0 (c c' : RC) : Prop where
  K : c'.K = c.K
  C : c'.C = c.C
  L : ∃ m, c'.L = c.L ++ m
  H : ∀ b u, c.H b = some u → ¬ c.W b → Stands u (c'.H b)
  W : ∀ b, c'.W b → c.W b ∨ c.H b = none
/-- .. and what others own for a while -/
structure Ext (c c' : RC) : Prop extends Ext0 c c' where
  T : c'.T = c.T
  TH : ∀ a ∈ c.T, c'.H a = c.H a
theorem Ext.refl (c : RC) : Ext c c := ⟨⟨rfl, rfl, ⟨[], by simp⟩, fun _ _ h _ => .inl h, fun _ h => .inl h⟩, rfl, fun _ _ => rfl⟩
theorem Ext0.trans {c c1 c2 : RC} (a : Ext0 c c1) (b : Ext0 c1 c2) : Ext0 c c2 where
  K := b.K.trans a.K
  C := b.C.trans a.C
  L := by
    obtain ⟨m, e⟩ := a.L
    obtain ⟨m2, e2⟩ := b.L
    exact ⟨m ++ m2, by rw [e2, e, List.append_assoc]⟩
  H := fun x u h w => (a.H x u h w).trans fun v hv => b.H x v hv fun z => by
    rcases a.W x z with q | q
    · exact w q
    · rw [h] at q; cases q
  W := fun x h => by
    rcases b.W x h with q | q
    · exact a.W x q
    · cases e : c.H x with
      | none => exact .inr rfl
      | some u =>
        by_cases w : c.W x
        · exact .inl w
        · obtain ⟨v, hv⟩ := (a.H x u e w).there
          rw [hv] at q; cases q
theorem Ext.trans {c c1 c2 : RC} (a : Ext c c1) (b : Ext c1 c2) : Ext c c2 := ⟨a.toExt0.trans b.toExt0, b.T.trans a.T, fun x h => (b.TH x (by rw [a.T]; exact h)).trans (a.TH x h)⟩
theorem Ext0.notW {c c' : RC} (x : Ext0 c c') {a : Addr} {u : HO} (h : c.H a = some u) (w : ¬ c.W a) : ¬ c'.W a := fun z => by
  rcases x.W a z with q | q
  · exact w q
  · rw [h] at q; cases q
theorem Ext0.rd {c c' : RC} (x : Ext0 c c') {a : Addr} {u : HO} (h : Rd c.H a u) (w : ¬ c.W a) : Rd c'.H a u := by
  rcases h with h | ⟨o, h⟩
  · rcases x.H _ _ h w with q | ⟨_, z, q⟩
    · exact .inl q
    · exact .inr ⟨z, q⟩
  · exact .inr ⟨o, (x.H _ _ h w).same fun z => z⟩
/-- the owned addresses hold no tuple, no known thing -/
def WOk (c : RC) : Prop := ∀ a, c.W a → ∃ u, c.H a = some u ∧ Mut (some u)
theorem Ext0.sqT {c c' : RC} (x : Ext0 c c') (k : WOk c) {a : Addr} {vs : List V} (h : SqT c.K c.H a vs) : SqT c'.K c'.H a vs := by
  rw [x.K]
  rcases h with h | h
  · refine .inl (x.rd h fun w => ?_)
    obtain ⟨u, e, m⟩ := k a w
    rcases h with h | ⟨o, h⟩
    · rw [h] at e; cases e; exact m
    · rw [h] at e; cases e; exact m
  · exact .inr h
theorem sqL_of {K : PySem.W.Frag} {H : Hp} {a : Addr} {vs : List V} {P : Prop} (h : (P ∧ Rd H a (.lst vs)) ∨ SqL K (fun _ => none) a vs) : SqL K H a vs := by
  rcases h with ⟨_, h⟩ | (h | ⟨o, h⟩) | h
  · exact .inl h
  · cases h
  · cases h
  · exact .inr h
theorem Rep.mono0 {c c' : RC} (x : Ext0 c c') (k : WOk c) {d : D} {v : V} (h : Rep c d v) : Rep c' d v := by
  induction h with
  | non => exact .non
  | bl b => exact .bl b
  | int i => exact .int i
  | str s => exact .str s
  | adr a => exact .adr a
  | lst w s l h ih =>
    exact .lst (x.notW s w) ((x.H _ _ s w).same fun z => z) l ih
  | tup s l h ih => exact .tup (x.sqT k s) l ih
  | dic w s l h ih =>
    refine .dic ?_ (x.rd s w) l ih
    rcases s with s | ⟨o, s⟩
    · exact x.notW s w
    · exact x.notW s w
  | dit w s l h ih =>
    refine .dit ?_ (x.rd s w) l ih
    rcases s with s | ⟨o, s⟩
    · exact x.notW s w
    · exact x.notW s w
  | @scr a ns s =>
    rcases s with ⟨w, s⟩ | s
    · refine .scr (.inl ⟨?_, x.rd s w⟩)
      rcases s with s | ⟨o, s⟩
      · exact x.notW s w
      · exact x.notW s w
    · exact .scr (.inr (by rw [x.K]; exact s))
  | set w s =>
    have q := (x.H _ _ s w).same (c.C.nd _ _)
    rw [← x.C] at q
    exact .set (x.notW s w) q
  | obj w s l h ih =>
    rw [← x.C] at s
    exact .obj (x.notW s w) ((x.H _ _ s w).same fun z => z) l ih
  | loc e =>
    obtain ⟨m, q⟩ := x.L
    refine .loc ?_
    rw [q, List.getElem?_append_left (List.getElem?_eq_some_iff.mp e).1]
    exact e
theorem Rep.mono {c c' : RC} (x : Ext c c') (k : WOk c) {d : D} {v : V} (h : Rep c d v) : Rep c' d v := h.mono0 x.toExt0 k
theorem Reps.mono0 {c c' : RC} (x : Ext0 c c') (k : WOk c) : ∀ {ds : List D} {vs : List V}, Reps c ds vs → Reps c' ds vs
  | _, _, .nil => .nil
  | _, _, .cons r t => .cons (r.mono0 x k) (Reps.mono0 x k t)
theorem RepsK.mono0 {c c' : RC} (x : Ext0 c c') (k : WOk c) {κ : Type} : ∀ {ds : List (κ × D)} {vs : List (κ × V)}, RepsK c ds vs → RepsK c' ds vs
  | _, _, .nil => .nil
  | _, _, .cons r t => .cons ⟨r.1, r.2.mono0 x k⟩ (RepsK.mono0 x k t)
theorem Reps.mono {c c' : RC} (x : Ext c c') (k : WOk c) : ∀ {ds : List D} {vs : List V}, Reps c ds vs → Reps c' ds vs
  | _, _, .nil => .nil
  | _, _, .cons r t => .cons (r.mono x k) (Reps.mono x k t)
theorem RepsK.mono {c c' : RC} (x : Ext c c') (k : WOk c) {κ : Type} : ∀ {ds : List (κ × D)} {vs : List (κ × V)}, RepsK c ds vs → RepsK c' ds vs
  | _, _, .nil => .nil
  | _, _, .cons r t => .cons ⟨r.1, r.2.mono x k⟩ (RepsK.mono x k t)
end DL
/-! DL1: the denotations, their readings. -/
namespace DL
open PySem PySem.Spec PyProof.Rows L2

abbrev Store := List (Option D)
abbrev DEnv := List (Option D)
/-- what an evaluation comes to -/
inductive Res (α : Type) where
  | ok (a : α) (m : Store)
  | ex (k : Nat) (fs : List (Str × D)) (m : Store)
  | bad
def Res.bind {α β : Type} (r : Res α) (f : α → Store → Res β) : Res β := match r with
  | .ok a m => f a m
  | .ex k fs m => .ex k fs m
  | .bad => .bad
@[simp] theorem bind_ok {α β : Type} (a : α) (m : Store) (f : α → Store → Res β) : (Res.ok a m).bind f = f a m := (rfl)
@[simp] theorem bind_ex {α β : Type} (k : Nat) (fs : List (Str × D)) (m : Store) (f : α → Store → Res β) : (Res.ex k fs m : Res α).bind f = .ex k fs m := (rfl)
@[simp] theorem bind_bad {α β : Type} (f : α → Store → Res β) : (Res.bad : Res α).bind f = .bad := (rfl)
def ofO {α : Type} (m : Store) : Option α → Res α
  | some a => .ok a m
  | none => .bad
@[simp] theorem ofO_some {α : Type} (m : Store) (a : α) : ofO m (some a) = .ok a m := (rfl)
@[simp] theorem ofO_none {α : Type} (m : Store) : ofO m (none : Option α) = .bad := (rfl)
theorem bind_assoc {α β γ : Type} (r : Res α) (f : α → Store → Res β) (g : β → Store → Res γ) : (r.bind f).bind g = r.bind fun a m => (f a m).bind g := by cases r <;> rfl
abbrev DE := DEnv → Store → Res D
abbrev DT := DEnv → Store → Res Bool
abbrev DA := DEnv → Store → Res (List D)
/-- what a statement comes to -/
inductive RS where
  | nx (r : DEnv) (m : Store) | bk (r : DEnv) (m : Store) | ct (r : DEnv) (m : Store) | rt (d : D) (m : Store)
  | ex (k : Nat) (fs : List (Str × D)) (r : DEnv) (m : Store) | bad
abbrev DS := DEnv → Store → RS

def CellOk (c : RC) (a : Addr) : D → Prop
  | .lst xs => ∃ vs, c.H a = some (.lst vs) ∧ Reps c xs vs
  | .dic kvs => ∃ vs, c.H a = some (.dK vs) ∧ RepsK c kvs vs
  | .dit kvs => ∃ vs, c.H a = some (.dT vs) ∧ RepsK c kvs vs
  | .obj k fs => ∃ dx vs, c.H a = some (.ins (c.C k) dx vs) ∧ RepsK c fs vs
  | _ => False
/-- the store stands -/
structure SRep (c : RC) (m : Store) : Prop where
  len : c.L.length = m.length
  nd : c.L.Nodup
  live : ∀ a, c.W a ↔ (∃ (n : Nat) (d : D), c.L[n]? = some a ∧ m[n]? = some (some d)) ∨ a ∈ c.T
  cell : ∀ (n : Nat) (a : Addr) (d : D), c.L[n]? = some a → m[n]? = some (some d) → CellOk c a d
  there : ∀ (n : Nat) (a : Addr), c.L[n]? = some a → ∃ u, c.H a = some u
  tmp : ∀ a ∈ c.T, ∃ u, c.H a = some u ∧ Mut (some u)
  apart : ∀ (n : Nat) (a : Addr), c.L[n]? = some a → a ∉ c.T
theorem CellOk.mut {c : RC} {a : Addr} {d : D} (h : CellOk c a d) : ∃ u, c.H a = some u ∧ Mut (some u) := by
  cases d with
  | lst xs => obtain ⟨_, e, _⟩ := h; exact ⟨_, e, trivial⟩
  | dic xs => obtain ⟨_, e, _⟩ := h; exact ⟨_, e, trivial⟩
  | dit xs => obtain ⟨_, e, _⟩ := h; exact ⟨_, e, trivial⟩
  | obj k xs => obtain ⟨_, _, e, _⟩ := h; exact ⟨_, e, trivial⟩
  | _ => exact False.elim h
theorem SRep.wok {c : RC} {m : Store} (s : SRep c m) : WOk c := fun a h => by
  rcases (s.live a).mp h with ⟨n, d, h1, h2⟩ | h
  · exact (s.cell n a d h1 h2).mut
  · exact s.tmp a h
/-- the slots -/
structure ER (c : RC) (r : DEnv) (σ : L2.St) : Prop where
  len : r.length = σ.length
  at_ : ∀ (i : Nat) (d : D), r[i]? = some (some d) → ∃ v, σ[i]? = some (some v) ∧ Rep c d v
theorem ER.mono0 {c c' : RC} {r : DEnv} {σ : L2.St} (x : Ext0 c c') (k : WOk c) (e : ER c r σ) : ER c' r σ := ⟨e.len, fun i d h => by
  obtain ⟨v, h1, h2⟩ := e.at_ i d h
  exact ⟨v, h1, h2.mono0 x k⟩⟩
theorem ER.mono {c c' : RC} {r : DEnv} {σ : L2.St} (x : Ext c c') (k : WOk c) (e : ER c r σ) : ER c' r σ := e.mono0 x.toExt0 k
theorem ER.set {c : RC} {r : DEnv} {σ : L2.St} (e : ER c r σ) (i : Nat) {d : D} {v : V} (h : Rep c d v) : ER c (r.set i (some d)) (σ.set i (some v)) := ⟨by simp [e.len], fun j d' hj => by
  by_cases q : j = i
  · subst q
    have hl : j < r.length := by
      have := (List.getElem?_eq_some_iff.mp hj).1
      simpa using this
    rw [List.getElem?_set_self hl] at hj
    cases hj
    exact ⟨v, by rw [List.getElem?_set_self (by rw [← e.len]; exact hl)], h⟩
  · rw [List.getElem?_set_ne (Ne.symm q)] at hj
    obtain ⟨u, h1, h2⟩ := e.at_ j d' hj
    exact ⟨u, by rw [List.getElem?_set_ne (Ne.symm q)]; exact h1, h2⟩⟩
/-- a slot forgotten -/
theorem ER.unset {c : RC} {r : DEnv} {σ : L2.St} (e : ER c r σ) (i : Nat) (o : Option V) : ER c (r.set i none) (σ.set i o) := ⟨by simp [e.len], fun j d' hj => by
  by_cases q : j = i
  · subst q
    by_cases hl : j < r.length
    · rw [List.getElem?_set_self hl] at hj; cases hj
    · rw [List.getElem?_eq_none (by simp; omega)] at hj; cases hj
  · rw [List.getElem?_set_ne (Ne.symm q)] at hj
    obtain ⟨u, h1, h2⟩ := e.at_ j d' hj
    exact ⟨u, by rw [List.getElem?_set_ne (Ne.symm q)]; exact h1, h2⟩⟩

/-! ### the readings -/
section
variable (K : PySem.W.Frag) (C : CE) (W : WX)
/-- a state in which a denotation is asked -/
structure Now (H : Hp) (c : RC) (m : Store) : Prop where
  K : c.K = K
  C : c.C = C
  H : c.H = H
  s : SRep c m
def ExW (c : RC) (m : Store) (k : Nat) (fs : List (Str × D)) (E : XK) : Prop :=
  ∀ c' dd vs, Ext c c' → SRep c' m → c'.H dd = some (.xd vs) → RepsK c' fs vs → E (.ref (C k)) (some dd) c'.H
/-- what is wanted of a result -/
def RW {α β : Type} (rep : RC → α → β → Prop) (c : RC) (r : Res α) (Q : β → Hp → Prop) (E : XK) : Prop := match r with
  | .ok d m => ∀ c' v, Ext c c' → SRep c' m → rep c' d v → Q v c'.H
  | .ex k fs m => ExW C c m k fs E
  | .bad => False
def tE (f : DE) : TE := fun σ H Q => ∃ c m r, Now K C H c m ∧ ER c r σ ∧ RW C Rep c (f r m) Q (fun cls d H' => W cls d σ H')
def tT (f : DT) : TT := fun σ H Q => ∃ c m r, Now K C H c m ∧ ER c r σ ∧ RW C (fun _ (a b : Bool) => a = b) c (f r m) Q (fun cls d H' => W cls d σ H')
def tA (f : DA) : TA := fun σ H Q => ∃ c m r, Now K C H c m ∧ ER c r σ ∧ RW C Reps c (f r m) Q (fun cls d H' => W cls d σ H')
/-- what is wanted of a statement's end -/
def SW (c : RC) (o : RS) (D : Ends) : Prop := match o with
  | .nx r' m' => ∀ c' σ', Ext c c' → SRep c' m' → ER c' r' σ' → D.nx σ' c'.H
  | .bk r' m' => ∀ c' σ', Ext c c' → SRep c' m' → ER c' r' σ' → D.bk σ' c'.H
  | .ct r' m' => ∀ c' σ', Ext c c' → SRep c' m' → ER c' r' σ' → D.ct σ' c'.H
  | .rt d m' => ∀ c' v, Ext c c' → SRep c' m' → Rep c' d v → D.rt v c'.H
  | .ex k fs r' m' => ∀ c' σ', Ext c c' → ER c' r' σ' → ∀ dd vs, SRep c' m' → c'.H dd = some (.xd vs) → RepsK c' fs vs → W (.ref (C k)) (some dd) σ' c'.H
  | .bad => False
def tS (f : DS) : TS := fun D σ H => ∃ c m r, Now K C H c m ∧ ER c r σ ∧ SW C W c (f r m) D
/-- a def's promise -/
def spG (G : List D → Store → Res D) : Sp := fun vs H Q E => ∃ c m ds, Now K C H c m ∧ Reps c ds vs ∧ RW C Rep c (G ds m) Q E
end
theorem spG_len {K : PySem.W.Frag} {C : CE} {n : Nat} {G : List D → Store → Res D} {ps : List Str} (hn : ps.length = n) (hG : ∀ ds m, ds.length ≠ n → G ds m = .bad) : ∀ vs H Q E, spG K C G vs H Q E → vs.length = ps.length := fun vs H Q E ⟨c, m, ds, _, r, w⟩ => by
  rw [← r.length, hn]
  by_cases e : ds.length = n
  · exact e
  · rw [hG ds m e] at w; exact False.elim w

section
variable {K : PySem.W.Frag} {C : CE} {W : WX} {c c' : RC} {m m' : Store} {r : DEnv} {σ : L2.St} {H : Hp}
theorem RW.ext {α β : Type} {rep : RC → α → β → Prop} {x : Res α} {Q : β → Hp → Prop} {E : XK} (h : RW C rep c x Q E) (e : Ext c c') : RW C rep c' x Q E := by
  cases x with
  | ok d m => exact fun c2 v x s q => h c2 v (e.trans x) s q
  | ex k fs m => exact fun c2 dd vs x s q => h c2 dd vs (e.trans x) s q
  | bad => exact h
theorem Now.of (hK : c.K = K) (hC : c.C = C) (s : SRep c m) : Now K C c.H c m := ⟨hK, hC, rfl, s⟩
theorem Now.next {c' : RC} {m' : Store} (n : Now K C H c m) (x : Ext c c') (s : SRep c' m') : Now K C c'.H c' m' := ⟨x.K.trans n.K, x.C.trans n.C, rfl, s⟩
/-- two evaluations in a row -/
theorem RW.bind {α β γ δ : Type} {rep : RC → α → β → Prop} {rep' : RC → γ → δ → Prop} {x : Res α} {f : α → Store → Res γ} {Q : δ → Hp → Prop} {E : XK} (h : RW C rep' c (x.bind f) Q E) :
    RW C rep c x (fun v H' => ∃ c' d m', c'.H = H' ∧ Ext c c' ∧ SRep c' m' ∧ rep c' d v ∧ RW C rep' c' (f d m') Q E) E := by
  cases x with
  | ok d m => exact fun c' v e s q => ⟨c', d, m, rfl, e, s, q, RW.ext (show RW C rep' c (f d m) Q E from h) e⟩
  | ex k fs m => exact h
  | bad => exact h
theorem RW.imp {α β : Type} {rep : RC → α → β → Prop} {x : Res α} {Q Q' : β → Hp → Prop} {E : XK} (h : RW C rep c x Q E) (hi : ∀ v H, Q v H → Q' v H) : RW C rep c x Q' E := by
  cases x with
  | ok d m => exact fun c' v e s q => hi _ _ (h c' v e s q)
  | ex k fs m => exact h
  | bad => exact h
end
end DL
/-! DL2: expressions. -/
namespace DL
open PySem PySem.Spec PyProof.Rows L2

theorem PE.imp {X : Cx} {e : Expr} {t t' : TE} (h : PE X e t) (i : ∀ σ H Q, t' σ H Q → t σ H Q) : PE X e t' := ⟨fun pins s σ H Q I q => h.run pins s σ H Q I (i _ _ _ q)⟩
theorem PT.imp {X : Cx} {e : Expr} {t t' : TT} (h : PT X e t) (i : ∀ σ H Q, t' σ H Q → t σ H Q) : PT X e t' := ⟨fun pins s σ H Q I q => h.run pins s σ H Q I (i _ _ _ q)⟩
theorem PA.imp {X : Cx} {es : List Expr} {t t' : TA} (h : PA X es t) (i : ∀ σ H Q, t' σ H Q → t σ H Q) : PA X es t' := ⟨fun pos pins s σ H Q I q => h.run pos pins s σ H Q I (i _ _ _ q)⟩

section
variable {K : PySem.W.Frag} {C : CE} {W : WX} {c c' : RC} {m m' : Store} {r : DEnv} {σ : L2.St} {H : Hp}
/-- one evaluation, then what follows at its state -/
theorem tE_bind {γ δ : Type} {rep' : RC → γ → δ → Prop} {f : DE} {g : D → Store → Res γ} {Q : δ → Hp → Prop} (n : Now K C H c m) (er : ER c r σ) (h : RW C rep' c ((f r m).bind g) Q (fun cls d H' => W cls d σ H')) {R : VK}
    (k : ∀ c' d m' v, Now K C c'.H c' m' → Ext c c' → ER c' r σ → Rep c' d v → RW C rep' c' (g d m') Q (fun cls d H' => W cls d σ H') → R v c'.H) : tE K C W f σ H R :=
  ⟨c, m, r, n, er, RW.imp (RW.bind (rep := Rep) h) fun v H' ⟨c', d, m', e, x, s, q, w⟩ => by
    subst e
    exact k c' d m' v (n.next x s) x (er.mono x n.s.wok) q w⟩
theorem tA_bind {γ δ : Type} {rep' : RC → γ → δ → Prop} {f : DA} {g : List D → Store → Res γ} {Q : δ → Hp → Prop} (n : Now K C H c m) (er : ER c r σ) (h : RW C rep' c ((f r m).bind g) Q (fun cls d H' => W cls d σ H')) {R : List V → Hp → Prop}
    (k : ∀ c' d m' v, Now K C c'.H c' m' → Ext c c' → ER c' r σ → Reps c' d v → RW C rep' c' (g d m') Q (fun cls d H' => W cls d σ H') → R v c'.H) : tA K C W f σ H R :=
  ⟨c, m, r, n, er, RW.imp (RW.bind (rep := Reps) h) fun v H' ⟨c', d, m', e, x, s, q, w⟩ => by
    subst e
    exact k c' d m' v (n.next x s) x (er.mono x n.s.wok) q w⟩
theorem tT_bind {γ δ : Type} {rep' : RC → γ → δ → Prop} {f : DT} {g : Bool → Store → Res γ} {Q : δ → Hp → Prop} (n : Now K C H c m) (er : ER c r σ) (h : RW C rep' c ((f r m).bind g) Q (fun cls d H' => W cls d σ H')) {R : Bool → Hp → Prop}
    (k : ∀ c' d m', Now K C c'.H c' m' → Ext c c' → ER c' r σ → RW C rep' c' (g d m') Q (fun cls d H' => W cls d σ H') → R d c'.H) : tT K C W f σ H R :=
  ⟨c, m, r, n, er, RW.imp (RW.bind (rep := fun _ (a b : Bool) => a = b) h) fun v H' ⟨c', d, m', e, x, s, q, w⟩ => by
    subst e
    subst q
    exact k c' d m' (n.next x s) x (er.mono x n.s.wok) w⟩
/-- a result at hand -/
theorem RW.now {α β : Type} {rep : RC → α → β → Prop} {d : α} {v : β} {Q : β → Hp → Prop} {E : XK} (h : RW C rep c (.ok d m) Q E) (s : SRep c m) (q : rep c d v) : Q v c.H := h c v (Ext.refl c) s q
theorem RW.at {α β : Type} {rep : RC → α → β → Prop} {d : α} {v : β} {Q : β → Hp → Prop} {E : XK} (h : RW C rep c (.ok d m) Q E) (x : Ext c c') (s : SRep c' m) (q : rep c' d v) : Q v c'.H := h c' v x s q

/-! ### names and constants -/
def eVar (i : Nat) : DE := fun r m => match r[i]? with | some (some d) => .ok d m | _ => .bad
def eC (d : D) : DE := fun _ m => .ok d m
end
section
variable {X : Cx} {C : CE} {W : WX}
theorem de_var (i : Nat) {x : Str} {pos : Pos} (hN : X.N[i]? = some x := by rfl) (hv : Vis X.env.scope x := by first | exact Or.inl rfl | exact Or.inr (Or.inl rfl) | exact Or.inr (Or.inr rfl)) (hd : (x == ("__debug__" : Str)) = false := by decide)
    (hcd : (x == ("__classdict__" : Str)) = false := by decide) : PE X (.Name x pos) (tE X.K C W (eVar i)) :=
  PE.imp (pe_var hN hv hd hcd) fun σ H Q ⟨c, m, r, n, er, w⟩ => by
    unfold eVar at w
    split at w
    · rename_i d hd
      obtain ⟨v, h1, h2⟩ := er.at_ i d hd
      refine ⟨v, h1, ?_⟩
      have := RW.now w n.s h2
      rw [n.H] at this; exact this
    · exact False.elim w
theorem de_of_c {e : Expr} {v : V} {d : D} (h : PE X e (tC v)) (q : ∀ c, Rep c d v) : PE X e (tE X.K C W (eC d)) :=
  PE.imp h fun σ H Q ⟨c, m, r, n, er, w⟩ => by
    have := RW.now w n.s (q c)
    rw [n.H] at this; exact this
theorem de_int {i j pos} : PE X (.Constant (.int i) j pos) (tE X.K C W (eC (.int i))) := de_of_c pe_int fun _ => .int i
theorem de_bl {b j pos} : PE X (.Constant (.bool b) j pos) (tE X.K C W (eC (.bl b))) := de_of_c pe_bl fun _ => .bl b
theorem de_non {j pos} : PE X (.Constant .none j pos) (tE X.K C W (eC .non)) := de_of_c pe_non fun _ => .non
theorem de_str {x j pos} : PE X (.Constant (.str x) j pos) (tE X.K C W (eC (.str x))) := de_of_c pe_str fun _ => .str x
/-- a global that stands for a text or a number -/
theorem de_gint {x : Str} {i : Int} {pos : Pos} (hg : Gl X x) (hm : ∃ t, X.mg x = some (.int i t)) (hd : (x == ("__debug__" : Str)) = false := by decide) : PE X (.Name x pos) (tE X.K C W (eC (.int i))) := by
  obtain ⟨t, hm⟩ := hm
  exact de_of_c (pe_glob (v := .int i) hg hm ⟨t, rfl⟩ hd) fun _ => .int i
theorem de_gstr {x y : Str} {pos : Pos} (hg : Gl X x) (hm : ∃ t, X.mg x = some (.str y t)) (hd : (x == ("__debug__" : Str)) = false := by decide) : PE X (.Name x pos) (tE X.K C W (eC (.str y))) := by
  obtain ⟨t, hm⟩ := hm
  exact de_of_c (pe_glob (v := .str y) hg hm ⟨t, rfl⟩ hd) fun _ => .str y
/-- a global tuple of flat things -/
def flatD : D → Option V
  | .non => some .non
  | .bl b => some (.bl b)
  | .int i => some (.int i)
  | .str x => some (.str x)
  | _ => none
theorem flatD_rep {d : D} {v : V} (h : flatD d = some v) (c : RC) : Rep c d v := by
  cases d <;> simp [flatD] at h <;> subst h <;> constructor
theorem flats_rep {c : RC} : ∀ {ds : List D} {vs : List V}, ds.map flatD = vs.map some → Reps c ds vs
  | [], [], _ => .nil
  | [], _ :: _, h => by simp at h
  | _ :: _, [], h => by simp at h
  | d :: ds, v :: vs, h => by
    simp only [List.map_cons, List.cons.injEq] at h
    exact .cons (flatD_rep h.1 c) (flats_rep h.2)
theorem de_gtup {x : Str} {a : Addr} {vs : List V} {ds : List D} {pos : Pos} (hg : Gl X x) (hm : X.mg x = some (.ref a)) (hs : ∀ H, SqT X.K H a vs) (hf : ds.map flatD = vs.map some) (hd : (x == ("__debug__" : Str)) = false := by decide) : PE X (.Name x pos) (tE X.K C W (eC (.tup ds))) :=
  PE.imp (pe_glob (v := .ref a) hg hm rfl hd) fun σ H Q ⟨c, m, r, n, er, w⟩ => by
    have := RW.now (v := .ref a) w n.s (.tup' (by rw [n.K]; exact hs _) (flats_rep hf))
    rw [n.H] at this; exact this

/-! ### operators -/
/-- a value as it stands now: a cell by what is in it -/
def vw (m : Store) : D → D
  | .loc n => match m[n]? with
    | some (some d) => d
    | _ => .loc n
  | d => d
@[simp] theorem vw_non (m : Store) : vw m .non = .non := (rfl)
@[simp] theorem vw_bl (m : Store) (b : Bool) : vw m (.bl b) = .bl b := (rfl)
@[simp] theorem vw_int (m : Store) (b : Int) : vw m (.int b) = .int b := (rfl)
@[simp] theorem vw_str (m : Store) (b : Str) : vw m (.str b) = .str b := (rfl)
@[simp] theorem vw_adr (m : Store) (b : Addr) : vw m (.adr b) = .adr b := (rfl)
@[simp] theorem vw_lst (m : Store) (b : List D) : vw m (.lst b) = .lst b := (rfl)
@[simp] theorem vw_tup (m : Store) (b : List D) : vw m (.tup b) = .tup b := (rfl)
@[simp] theorem vw_dic (m : Store) (b : List (Key × D)) : vw m (.dic b) = .dic b := (rfl)
@[simp] theorem vw_dit (m : Store) (b : List (List Key × D)) : vw m (.dit b) = .dit b := (rfl)
@[simp] theorem vw_scr (m : Store) (b : List Int) : vw m (.scr b) = .scr b := (rfl)
@[simp] theorem vw_set (m : Store) (b : List Str) : vw m (.set b) = .set b := (rfl)
@[simp] theorem vw_obj (m : Store) (k : Nat) (b : List (Str × D)) : vw m (.obj k b) = .obj k b := (rfl)
theorem vw_loc (m : Store) (n : Nat) {d : D} (h : m[n]? = some (some d)) : vw m (.loc n) = d := by simp only [vw, h]
@[simp] theorem vw_new (m : Store) (d : D) : vw (m ++ [some d]) (.loc m.length) = d := vw_loc _ _ (by simp)
/-- what stands for a value, read and not kept -/
inductive Sees (c : RC) : D → V → Prop
  | flat {d v} (h : flatD d = some v) : Sees c d v
  | adr (a) : Sees c (.adr a) (.ref a)
  | lst {a xs vs} (s : c.H a = some (.lst vs)) (r : Reps c xs vs) : Sees c (.lst xs) (.ref a)
  | tup {a xs vs} (s : SqT c.K c.H a vs) (r : Reps c xs vs) : Sees c (.tup xs) (.ref a)
  | dic {a xs vs} (s : Rd c.H a (.dK vs)) (r : RepsK c xs vs) : Sees c (.dic xs) (.ref a)
  | dit {a xs vs} (s : Rd c.H a (.dT vs)) (r : RepsK c xs vs) : Sees c (.dit xs) (.ref a)
  | set {a ks} (s : c.H a = some (c.C.S ks a)) : Sees c (.set ks) (.ref a)
  | scr {a ns} (s : SqL c.K c.H a (ns.map V.int)) : Sees c (.scr ns) (.ref a)
  | obj {k a dx xs vs} (s : c.H a = some (.ins (c.C k) dx vs)) (r : RepsK c xs vs) : Sees c (.obj k xs) (.ref a)
  | loc (n v) : Sees c (.loc n) v
theorem Rep.sees0 {c : RC} {d : D} {v : V} (h : Rep c d v) : Sees c d v := by
  cases d with
  | non => cases h; exact .flat rfl
  | bl b => cases h; exact .flat rfl
  | int b => cases h; exact .flat rfl
  | str b => cases h; exact .flat rfl
  | adr a => cases h; exact .adr a
  | lst xs => obtain ⟨a, vs, rfl, _, e, r⟩ := h.lst_inv; exact .lst e r
  | tup xs => obtain ⟨a, vs, rfl, e, r⟩ := h.tup_inv; exact .tup e r
  | dic xs => obtain ⟨a, vs, rfl, _, e, r⟩ := h.dic_inv; exact .dic e r
  | dit xs => obtain ⟨a, vs, rfl, _, e, r⟩ := h.dit_inv; exact .dit e r
  | set ks => cases h with | set w s => exact .set s
  | scr ns => cases h with | scr s => exact .scr (sqL_of s)
  | obj k xs => obtain ⟨a, dx, vs, rfl, _, e, r⟩ := h.obj_inv; exact .obj e r
  | loc n => exact .loc n v
theorem Rep.sees {c : RC} {m : Store} (s : SRep c m) {d : D} {v : V} (h : Rep c d v) : Sees c (vw m d) v := by
  cases d with
  | loc n =>
    cases h with
    | loc e =>
      simp only [vw]
      split
      · rename_i d hd
        have q := s.cell _ _ _ e hd
        cases d with
        | lst xs => obtain ⟨vs, e, r⟩ := q; exact .lst e r
        | dic xs => obtain ⟨vs, e, r⟩ := q; exact .dic (.inl e) r
        | dit xs => obtain ⟨vs, e, r⟩ := q; exact .dit (.inl e) r
        | obj k xs => obtain ⟨dx, vs, e, r⟩ := q; exact .obj e r
        | _ => exact False.elim q
      · exact .loc n _
  | _ => exact h.sees0
theorem Sees.bl_inv {c : RC} {b : Bool} {v : V} (h : Sees c (.bl b) v) : v = .bl b := by cases h with | flat h => cases h; rfl
theorem Sees.int_inv {c : RC} {b : Int} {v : V} (h : Sees c (.int b) v) : v = .int b := by cases h with | flat h => cases h; rfl
theorem Sees.str_inv {c : RC} {b : Str} {v : V} (h : Sees c (.str b) v) : v = .str b := by cases h with | flat h => cases h; rfl
theorem Sees.non_inv {c : RC} {v : V} (h : Sees c .non v) : v = .non := by cases h with | flat h => cases h; rfl
theorem Sees.flat_inv {c : RC} {d : D} {v u : V} (h : Sees c d v) (f : flatD d = some u) : v = u := by
  cases h with
  | flat h => rw [h] at f; cases f; rfl
  | _ => cases f
theorem Sees.lst_inv {c : RC} {xs : List D} {v : V} (h : Sees c (.lst xs) v) : ∃ a vs, v = .ref a ∧ c.H a = some (.lst vs) ∧ Reps c xs vs := by
  cases h with
  | flat h => cases h
  | lst s r => exact ⟨_, _, rfl, s, r⟩
theorem Sees.tup_inv {c : RC} {xs : List D} {v : V} (h : Sees c (.tup xs) v) : ∃ a vs, v = .ref a ∧ SqT c.K c.H a vs ∧ Reps c xs vs := by
  cases h with
  | flat h => cases h
  | tup s r => exact ⟨_, _, rfl, s, r⟩
theorem Sees.dic_inv {c : RC} {xs : List (Key × D)} {v : V} (h : Sees c (.dic xs) v) : ∃ a vs, v = .ref a ∧ Rd c.H a (.dK vs) ∧ RepsK c xs vs := by
  cases h with
  | flat h => cases h
  | dic s r => exact ⟨_, _, rfl, s, r⟩
theorem Sees.dit_inv {c : RC} {xs : List (List Key × D)} {v : V} (h : Sees c (.dit xs) v) : ∃ a vs, v = .ref a ∧ Rd c.H a (.dT vs) ∧ RepsK c xs vs := by
  cases h with
  | flat h => cases h
  | dit s r => exact ⟨_, _, rfl, s, r⟩
theorem Sees.obj_inv {c : RC} {k : Nat} {xs : List (Str × D)} {v : V} (h : Sees c (.obj k xs) v) : ∃ a dx vs, v = .ref a ∧ c.H a = some (.ins (c.C k) dx vs) ∧ RepsK c xs vs := by
  cases h with
  | flat h => cases h
  | obj s r => exact ⟨_, _, _, rfl, s, r⟩
theorem Sees.scr_inv {c : RC} {ns : List Int} {v : V} (h : Sees c (.scr ns) v) : ∃ a, v = .ref a ∧ SqL c.K c.H a (ns.map V.int) := by
  cases h with
  | flat h => cases h
  | scr s => exact ⟨_, rfl, s⟩
theorem Sees.set_inv {c : RC} {ks : List Str} {v : V} (h : Sees c (.set ks) v) : ∃ a, v = .ref a ∧ c.H a = some (c.C.S ks a) := by
  cases h with
  | flat h => cases h
  | set s => exact ⟨_, rfl, s⟩
/-- what an operation by values gives, told by the operation by trees -/
def OpD (X : Cx) (C : CE) (ρ : R2) (op : D → D → Option D) : Prop :=
  ∀ (c : RC) (m : Store) (a b d : D) (x y : V) (Q : VK), Now X.K C c.H c m → Sees c a x → Sees c b y → op a b = some d → (∀ c' v, Ext c c' → SRep c' m → Rep c' d v → Q v c'.H) → ρ x y c.H Q
def eBin (op : D → D → Option D) (fa fb : DE) : DE := fun r m => (fa r m).bind fun a m => (fb r m).bind fun b m => ofO m (op (vw m a) (vw m b))
theorem eBin_tE {a b : Expr} {ρ : R2} {o : D → D → Option D} {fa fb : DE} {σ : L2.St} {H : Hp} {Q : VK} (hd : OpD X C ρ o) (h : tE X.K C W (eBin o fa fb) σ H Q) : tOp ρ (tE X.K C W fa) (tE X.K C W fb) σ H Q := by
  obtain ⟨c, m, r, n, er, w⟩ := h
  refine tE_bind n er w fun c1 da m1 va n1 x1 er1 qa w1 => tE_bind n1 er1 w1 fun c2 db m2 vb n2 x2 er2 qb w2 => ?_
  cases e : o (vw m2 da) (vw m2 db) with
  | none => rw [e] at w2; exact False.elim w2
  | some d =>
    rw [e] at w2
    exact hd c2 m2 _ _ d va vb Q n2 ((qa.mono x2 n1.s.wok).sees n2.s) (qb.sees n2.s) e fun c' v x s q => RW.at w2 x s q
theorem de_bin {a b : Expr} {op : Operator} {ρ : R2} {pos : Pos} {o : D → D → Option D} {fa fb : DE} (ho : OpR X (binaryOp op) ρ) (hd : OpD X C ρ o) (ha : PE X a (tE X.K C W fa)) (hb : PE X b (tE X.K C W fb)) :
    PE X (.BinOp a op b pos) (tE X.K C W (eBin o fa fb)) := PE.imp (pe_op ho ha hb) fun σ H Q h => eBin_tE (a := a) (b := b) hd h
theorem de_cmp {a b : Expr} {op : CmpOp} {ρ : R2} {pos : Pos} {o : D → D → Option D} {fa fb : DE} (ho : OpR X (compareOp op) ρ) (hd : OpD X C ρ o) (ha : PE X a (tE X.K C W fa)) (hb : PE X b (tE X.K C W fb)) (hm : behindInMarks op b = false) :
    PE X (.Compare a [op] [b] pos) (tE X.K C W (eBin o fa fb)) := PE.imp (pe_cmpR ho ha hb hm) fun σ H Q h => eBin_tE (a := a) (b := b) hd h
def blOf : D → Option Bool
  | .bl b => some b
  | _ => none
def eTest (f : DE) : DT := fun r m => (f r m).bind fun a m => ofO m (blOf a)
theorem blOf_rep {c : RC} {d : D} {v : V} {b : Bool} (h : blOf d = some b) (q : Rep c d v) : v = .bl b := by
  cases d <;> simp [blOf] at h
  subst h; cases q; rfl
theorem dt_cmp {a b : Expr} {op : CmpOp} {ρ : R2} {pos : Pos} {o : D → D → Option D} {fa fb : DE} (ho : OpR X (compareOp op) ρ) (hd : OpD X C ρ o) (ha : PE X a (tE X.K C W fa)) (hb : PE X b (tE X.K C W fb)) (hm : behindInMarks op b = false) :
    PT X (.Compare a [op] [b] pos) (tT X.K C W (eTest (eBin o fa fb))) :=
  PT.imp (pt_cmpR ho ha hb hm) fun σ H Q ⟨c, m, r, n, er, w⟩ => by
    refine eBin_tE (a := a) (b := b) (W := W) hd ⟨c, m, r, n, er, ?_⟩
    refine RW.imp (RW.bind (rep := Rep) w) fun v H' ⟨c', d, m', e, x, s, q, w1⟩ => ?_
    subst e
    cases e2 : blOf d with
    | none => rw [e2] at w1; exact False.elim w1
    | some b =>
      rw [e2] at w1
      exact ⟨b, blOf_rep e2 q, RW.now w1 s rfl⟩
/-- an expression that gives True or False, as a test -/
theorem dt_val {e : Expr} {f : DE} (h : PE X e (tE X.K C W f)) (he : ∀ whole, isTrue e X.env whole = (do let v ← whole; standAt e.pos; holding [v] (truthy v)) := by intro _; rfl) : PT X e (tT X.K C W (eTest f)) :=
  PT.imp (pt_val h he) fun σ H Q ⟨c, m, r, n, er, w⟩ => tE_bind n er w fun c1 d m1 v n1 x1 er1 q w1 => by
    cases e2 : blOf d with
    | none => rw [e2] at w1; exact False.elim w1
    | some b =>
      rw [e2] at w1
      exact ⟨b, blOf_rep e2 q, RW.now w1 n1.s rfl⟩

/-! ### and, or, not, if -/
def eAnd (fa fb : DT) : DT := fun r m => (fa r m).bind fun a m => if a = true then fb r m else .ok false m
def eOr (fa fb : DT) : DT := fun r m => (fa r m).bind fun a m => if a = true then .ok true m else fb r m
def eNot (fa : DT) : DT := fun r m => (fa r m).bind fun a m => .ok (!a) m
def eAndV (fa fb : DE) : DE := fun r m => (fa r m).bind fun a m => match blOf a with | some true => fb r m | some false => .ok (.bl false) m | none => .bad
def eOrV (fa fb : DE) : DE := fun r m => (fa r m).bind fun a m => match blOf a with | some true => .ok (.bl true) m | some false => fb r m | none => .bad
def eNotV (fa : DE) : DE := fun r m => (fa r m).bind fun a m => match blOf a with | some b => .ok (.bl (!b)) m | none => .bad
def eIf (t : DT) (fa fb : DE) : DE := fun r m => (t r m).bind fun a m => if a = true then fa r m else fb r m
structure PWD (X : Cx) (e : Expr) (t : TT) : Prop where
  w : PW X e t
theorem PW.imp {X : Cx} {e : Expr} {t t' : TT} (h : PW X e t) (i : ∀ σ H Q, t' σ H Q → t σ H Q) : PW X e t' := ⟨fun wh pins s σ H Q I q => h.run wh pins s σ H Q I (i _ _ _ q)⟩
section
variable {a b : Expr} {rest : List Expr} {pos : Pos} {fa fb : DT} {va vb : DE}
theorem dw_and1 (ha : PT X a (tT X.K C W fa)) : PW X (.BoolOp .And [a] pos) (tT X.K C W fa) := pw_and1 ha
theorem dw_or1 (ha : PT X a (tT X.K C W fa)) : PW X (.BoolOp .Or [a] pos) (tT X.K C W fa) := pw_or1 ha
theorem dw_and (ha : PT X a (tT X.K C W fa)) (hb : PW X (.BoolOp .And (b :: rest) pos) (tT X.K C W fb)) : PW X (.BoolOp .And (a :: b :: rest) pos) (tT X.K C W (eAnd fa fb)) :=
  PW.imp (pw_and ha hb) fun σ H Q ⟨c, m, r, n, er, w⟩ => tT_bind n er w fun c1 d m1 n1 x1 er1 w1 => by
    cases d with
    | true => exact ⟨c1, m1, r, n1, er1, w1⟩
    | false => exact RW.now w1 n1.s rfl
theorem dw_or (ha : PT X a (tT X.K C W fa)) (hb : PW X (.BoolOp .Or (b :: rest) pos) (tT X.K C W fb)) : PW X (.BoolOp .Or (a :: b :: rest) pos) (tT X.K C W (eOr fa fb)) :=
  PW.imp (pw_or ha hb) fun σ H Q ⟨c, m, r, n, er, w⟩ => tT_bind n er w fun c1 d m1 n1 x1 er1 w1 => by
    cases d with
    | false => exact ⟨c1, m1, r, n1, er1, w1⟩
    | true => exact RW.now w1 n1.s rfl
theorem dt_not (ha : PT X a (tT X.K C W fa)) : PT X (.UnaryOp .Not a pos) (tT X.K C W (eNot fa)) :=
  PT.imp (pt_not ha) fun σ H Q ⟨c, m, r, n, er, w⟩ => tT_bind n er w fun c1 d m1 n1 x1 er1 w1 => RW.now w1 n1.s rfl
theorem de_one {op} (h : PE X a (tE X.K C W va)) : PE X (.BoolOp op [a] pos) (tE X.K C W va) := pe_one h
theorem de_and (ha : PE X a (tE X.K C W va)) (hb : PE X (.BoolOp .And (b :: rest) pos) (tE X.K C W vb)) : PE X (.BoolOp .And (a :: b :: rest) pos) (tE X.K C W (eAndV va vb)) :=
  PE.imp (pe_and ha hb) fun σ H Q ⟨c, m, r, n, er, w⟩ => tE_bind n er w fun c1 d m1 v n1 x1 er1 q w1 => by
    cases e2 : blOf d with
    | none => rw [e2] at w1; exact False.elim w1
    | some b =>
      rw [e2] at w1
      refine ⟨b, blOf_rep e2 q, ?_⟩
      cases b with
      | true => exact ⟨c1, m1, r, n1, er1, w1⟩
      | false => exact RW.now w1 n1.s (.bl false)
theorem de_or (ha : PE X a (tE X.K C W va)) (hb : PE X (.BoolOp .Or (b :: rest) pos) (tE X.K C W vb)) : PE X (.BoolOp .Or (a :: b :: rest) pos) (tE X.K C W (eOrV va vb)) :=
  PE.imp (pe_or ha hb) fun σ H Q ⟨c, m, r, n, er, w⟩ => tE_bind n er w fun c1 d m1 v n1 x1 er1 q w1 => by
    cases e2 : blOf d with
    | none => rw [e2] at w1; exact False.elim w1
    | some b =>
      rw [e2] at w1
      refine ⟨b, blOf_rep e2 q, ?_⟩
      cases b with
      | false => exact ⟨c1, m1, r, n1, er1, w1⟩
      | true => exact RW.now w1 n1.s (.bl true)
theorem de_not (ha : PE X a (tE X.K C W va)) : PE X (.UnaryOp .Not a pos) (tE X.K C W (eNotV va)) :=
  PE.imp (pe_not ha) fun σ H Q ⟨c, m, r, n, er, w⟩ => tE_bind n er w fun c1 d m1 v n1 x1 er1 q w1 => by
    cases e2 : blOf d with
    | none => rw [e2] at w1; exact False.elim w1
    | some b =>
      rw [e2] at w1
      exact ⟨b, blOf_rep e2 q, RW.now w1 n1.s (.bl _)⟩
theorem de_if {t : Expr} (ht : PT X t (tT X.K C W fa)) (ha : PE X a (tE X.K C W va)) (hb : PE X b (tE X.K C W vb)) : PE X (.IfExp t a b pos) (tE X.K C W (eIf fa va vb)) :=
  PE.imp (pe_ifExp ht ha hb) fun σ H Q ⟨c, m, r, n, er, w⟩ => tT_bind n er w fun c1 d m1 n1 x1 er1 w1 => by
    cases d with
    | true => exact ⟨c1, m1, r, n1, er1, w1⟩
    | false => exact ⟨c1, m1, r, n1, er1, w1⟩
end

/-! ### argument lists, displays -/
def aNil : DA := fun _ m => .ok [] m
def aCons (f : DE) (g : DA) : DA := fun r m => (f r m).bind fun a m => (g r m).bind fun as m => .ok (a :: as) m
theorem da_nil : PA X [] (tA X.K C W aNil) := PA.imp pa_nil fun σ H Q ⟨c, m, r, n, er, w⟩ => by
  have := RW.now (v := ([] : List V)) w n.s .nil
  rw [n.H] at this; exact this
theorem da_cons {e : Expr} {es : List Expr} {f : DE} {g : DA} (ha : PE X e (tE X.K C W f)) (hr : PA X es (tA X.K C W g)) (hs : starEach (e :: es) X.env = (false, eval e X.env) :: starEach es X.env := by rfl) : PA X (e :: es) (tA X.K C W (aCons f g)) :=
  PA.imp (pa_cons ha hr hs) fun σ H Q ⟨c, m, r, n, er, w⟩ => tE_bind n er w fun c1 d m1 v n1 x1 er1 q w1 => tA_bind n1 er1 w1 fun c2 ds m2 vs n2 x2 er2 q2 w2 => RW.now w2 n2.s (.cons (q.mono x2 n1.s.wok) q2)
end
section
variable {K : PySem.W.Frag} {C : CE} {c c' : RC} {m m' : Store}
/-- a new object, not owned -/
def RC.put (c : RC) (p : Addr) (o : HO) : RC := { c with H := upd c.H p o }
theorem RC.put_ext {p : Addr} {o : HO} (s : SRep c m) (hp : c.H p = none) : Ext c (c.put p o) :=
  ⟨⟨rfl, rfl, ⟨[], by simp [RC.put]⟩, fun b u h _ => by refine .inl ?_; show upd c.H p o b = _; rw [upd_ne (ne_of_none h hp)]; exact h, fun b h => .inl h⟩, rfl, fun b h => by
    obtain ⟨u, e, _⟩ := s.tmp b h
    exact upd_ne (ne_of_none e hp)⟩
theorem CellOk.mono0 {a : Addr} {d : D} (x : Ext0 c c') (k : WOk c) (hH : c'.H a = c.H a) (h : CellOk c a d) : CellOk c' a d := by
  cases d with
  | lst xs => obtain ⟨vs, e, q⟩ := h; exact ⟨vs, hH.trans e, q.mono0 x k⟩
  | dic xs => obtain ⟨vs, e, q⟩ := h; exact ⟨vs, hH.trans e, q.mono0 x k⟩
  | dit xs => obtain ⟨vs, e, q⟩ := h; exact ⟨vs, hH.trans e, q.mono0 x k⟩
  | obj j xs => obtain ⟨dx, vs, e, q⟩ := h; exact ⟨dx, vs, hH.trans (by rw [x.C]; exact e), q.mono0 x k⟩
  | _ => exact False.elim h
theorem CellOk.mono {a : Addr} {d : D} (x : Ext c c') (k : WOk c) (hH : c'.H a = c.H a) (h : CellOk c a d) : CellOk c' a d := h.mono0 x.toExt0 k hH
theorem RC.put_rep {p : Addr} {o : HO} (s : SRep c m) (hp : c.H p = none) : SRep (c.put p o) m := by
  refine ⟨s.len, s.nd, s.live, fun n a d h1 h2 => ?_, fun n a h => ?_, fun a h => ?_, s.apart⟩
  · have q := s.cell n a d h1 h2
    obtain ⟨u, e, _⟩ := q.mut
    exact q.mono (RC.put_ext s hp) s.wok (upd_ne (ne_of_none e hp))
  · obtain ⟨u, e⟩ := s.there n a h
    exact ⟨u, (upd_ne (ne_of_none e hp)).trans e⟩
  · obtain ⟨u, e, q⟩ := s.tmp a h
    exact ⟨u, (upd_ne (ne_of_none e hp)).trans e, q⟩
theorem RC.put_notW {p : Addr} {o : HO} (s : SRep c m) (hp : c.H p = none) : ¬ (c.put p o).W p := fun w => by
  obtain ⟨u, e, _⟩ := s.wok p w
  rw [hp] at e; cases e
end
section
variable {X : Cx} {C : CE} {W : WX}
def mkLst (xs : List D) : Option D := if xs.length ≤ sizeLine then some (.lst xs) else none
def mkTup (xs : List D) : Option D := if xs.length ≤ sizeLine then some (.tup xs) else none
def eLst (g : DA) : DE := fun r m => (g r m).bind fun xs m => ofO m (mkLst xs)
def eTup (g : DA) : DE := fun r m => (g r m).bind fun xs m => ofO m (mkTup xs)
theorem Reps.length {c : RC} {ds : List D} {vs : List V} (h : Reps c ds vs) : vs.length = ds.length := (paired_at h).1
theorem de_lst {es : List Expr} {g : DA} {pos : Pos} (h : PA X es (tA X.K C W g)) : PE X (.List es pos) (tE X.K C W (eLst g)) :=
  PE.imp (pe_lst h) fun σ H Q ⟨c, m, r, n, er, w⟩ => tA_bind n er w fun c1 d m1 v n1 x1 er1 q w1 => by
    unfold mkLst at w1
    split at w1
    · rename_i hl
      exact ⟨by rw [Reps.length q]; exact hl, fun p hp => RW.at (c' := c1.put p (.lst v)) w1 (RC.put_ext n1.s hp) (RC.put_rep n1.s hp) (.lst' (RC.put_notW n1.s hp) upd_same (q.mono (RC.put_ext n1.s hp) n1.s.wok))⟩
    · exact False.elim w1
theorem de_tup {es : List Expr} {g : DA} {x1 pos} (h : PA X es (tA X.K C W g)) : PE X (.Tuple es x1 pos) (tE X.K C W (eTup g)) :=
  PE.imp (pe_tup h) fun σ H Q ⟨c, m, r, n, er, w⟩ => tA_bind n er w fun c1 d m1 v n1 x1 er1 q w1 => by
    unfold mkTup at w1
    split at w1
    · rename_i hl
      exact ⟨by rw [Reps.length q]; exact hl, fun p hp => RW.at (c' := c1.put p (.tup v)) w1 (RC.put_ext n1.s hp) (RC.put_rep n1.s hp) (.tup' (.inl (.inl upd_same)) (q.mono (RC.put_ext n1.s hp) n1.s.wok))⟩
    · exact False.elim w1
end
end DL
/-! DL3: statements, loops, a def's promise by its body. -/
namespace DL
open PySem PySem.Spec PyProof.Rows L2

theorem PS.imp {X : Cx} {e : Stmt} {t t' : TS} (h : PS X e t) (i : ∀ D σ H, t' D σ H → t D σ H) : PS X e t' := ⟨fun pins s σ H D I q => h.run pins s σ H D I (i _ _ _ q)⟩
theorem PSs.imp {X : Cx} {e : List Stmt} {t t' : TS} (h : PSs X e t) (i : ∀ D σ H, t' D σ H → t D σ H) : PSs X e t' := ⟨fun pins s σ H D I q => h.run pins s σ H D I (i _ _ _ q)⟩

section
variable {K : PySem.W.Frag} {C : CE} {W : WX} {c c' : RC} {m m' : Store} {r : DEnv} {σ : L2.St} {H : Hp} {De : Ends} {o : RS}
theorem SW.ext (h : SW C W c o De) (e : Ext c c') : SW C W c' o De := by
  cases o with
  | nx r m => exact fun c2 σ x s q => h c2 σ (e.trans x) s q
  | bk r m => exact fun c2 σ x s q => h c2 σ (e.trans x) s q
  | ct r m => exact fun c2 σ x s q => h c2 σ (e.trans x) s q
  | rt d m => exact fun c2 v x s q => h c2 v (e.trans x) s q
  | ex k fs r m => exact fun c2 σ x s dd vs q => h c2 σ (e.trans x) s dd vs q
  | bad => exact h
/-- a denotation of an expression, then a statement's -/
def thenS (x : Res D) (r : DEnv) (f : D → Store → RS) : RS := match x with
  | .ok d m => f d m
  | .ex k fs m => .ex k fs r m
  | .bad => .bad
def thenT (x : Res Bool) (r : DEnv) (f : Bool → Store → RS) : RS := match x with
  | .ok d m => f d m
  | .ex k fs m => .ex k fs r m
  | .bad => .bad
@[simp] theorem thenS_ok (d : D) (m : Store) (r : DEnv) (f : D → Store → RS) : thenS (.ok d m) r f = f d m := (rfl)
@[simp] theorem thenT_ok (d : Bool) (m : Store) (r : DEnv) (f : Bool → Store → RS) : thenT (.ok d m) r f = f d m := (rfl)
@[simp] theorem thenS_ex (k : Nat) (fs : List (Str × D)) (m : Store) (r : DEnv) (f : D → Store → RS) : thenS (.ex k fs m) r f = .ex k fs r m := (rfl)
@[simp] theorem thenT_ex (k : Nat) (fs : List (Str × D)) (m : Store) (r : DEnv) (f : Bool → Store → RS) : thenT (.ex k fs m) r f = .ex k fs r m := (rfl)
theorem tE_thenS {f : DE} {g : D → Store → RS} (n : Now K C H c m) (er : ER c r σ) (h : SW C W c (thenS (f r m) r g) De) {R : VK}
    (k : ∀ c' d m' v, Now K C c'.H c' m' → Ext c c' → ER c' r σ → Rep c' d v → SW C W c' (g d m') De → R v c'.H) : tE K C W f σ H R := by
  refine ⟨c, m, r, n, er, ?_⟩
  cases e : f r m with
  | ok d m' => rw [e] at h; exact fun c' v x s q => k c' d m' v (n.next x s) x (er.mono x n.s.wok) q (SW.ext h x)
  | ex j fs m' => rw [e] at h; exact fun c' dd vs x s a b => h c' σ x (er.mono x n.s.wok) dd vs s a b
  | bad => rw [e] at h; exact h
theorem tT_thenT {f : DT} {g : Bool → Store → RS} (n : Now K C H c m) (er : ER c r σ) (h : SW C W c (thenT (f r m) r g) De) {R : Bool → Hp → Prop}
    (k : ∀ c' d m', Now K C c'.H c' m' → Ext c c' → ER c' r σ → SW C W c' (g d m') De → R d c'.H) : tT K C W f σ H R := by
  refine ⟨c, m, r, n, er, ?_⟩
  cases e : f r m with
  | ok d m' => rw [e] at h; exact fun c' v x s q => by subst q; exact k c' d m' (n.next x s) x (er.mono x n.s.wok) (SW.ext h x)
  | ex j fs m' => rw [e] at h; exact fun c' dd vs x s a b => h c' σ x (er.mono x n.s.wok) dd vs s a b
  | bad => rw [e] at h; exact h

/-! ### blocks -/
def sNil : DS := fun r m => .nx r m
def thenN (o : RS) (f : DS) : RS := match o with
  | .nx r m => f r m
  | o => o
def sCons (f g : DS) : DS := fun r m => thenN (f r m) g
@[simp] theorem thenN_nx (r : DEnv) (m : Store) (f : DS) : thenN (.nx r m) f = f r m := (rfl)
@[simp] theorem thenN_rt (d : D) (m : Store) (f : DS) : thenN (.rt d m) f = .rt d m := (rfl)
@[simp] theorem thenN_bk (r : DEnv) (m : Store) (f : DS) : thenN (.bk r m) f = .bk r m := (rfl)
@[simp] theorem thenN_ct (r : DEnv) (m : Store) (f : DS) : thenN (.ct r m) f = .ct r m := (rfl)
@[simp] theorem thenN_ex (k : Nat) (fs : List (Str × D)) (r : DEnv) (m : Store) (f : DS) : thenN (.ex k fs r m) f = .ex k fs r m := (rfl)
@[simp] theorem thenN_bad (f : DS) : thenN .bad f = .bad := (rfl)
def sIf (t : DT) (a b : DS) : DS := fun r m => thenT (t r m) r fun d m => if d = true then a r m else b r m
def sSet (i : Nat) (f : DE) : DS := fun r m => thenS (f r m) r fun d m => .nx (r.set i (some d)) m
def sRet (f : DE) : DS := fun r m => thenS (f r m) r fun d m => .rt d m
def sRetN : DS := fun _ m => .rt .non m
def sExpr (f : DE) : DS := fun r m => thenS (f r m) r fun _ m => .nx r m
def sBk : DS := fun r m => .bk r m
def sCt : DS := fun r m => .ct r m
def sNever : DS := fun _ _ => .bad
end
section
variable {X : Cx} {C : CE} {W : WX} {st : Stmt} {rest : List Stmt} {f g : DS} {pos : Pos}
theorem ds_nil : PSs X [] (tS X.K C W sNil) := PSs.imp pss_nil fun D σ H ⟨c, m, r, n, er, w⟩ => by
  have := w c σ (Ext.refl c) n.s er
  rw [n.H] at this; exact this
theorem ds_cons (h1 : PS X st (tS X.K C W f)) (h2 : PSs X rest (tS X.K C W g)) : PSs X (st :: rest) (tS X.K C W (sCons f g)) :=
  PSs.imp (pss_cons h1 h2) fun D σ H ⟨c, m, r, n, er, w⟩ => by
    refine ⟨c, m, r, n, er, ?_⟩
    have w : SW C W c (thenN (f r m) g) D := w
    cases e : f r m with
    | nx r' m' =>
      rw [e] at w
      exact fun c' σ' x s q => ⟨c', m', r', n.next x s, q, SW.ext w x⟩
    | bk r' m' => rw [e] at w; exact w
    | ct r' m' => rw [e] at w; exact w
    | rt d m' => rw [e] at w; exact w
    | ex k fs r' m' => rw [e] at w; exact w
    | bad => rw [e] at w; exact w
theorem ds_one (h1 : PS X st (tS X.K C W f)) : PSs X [st] (tS X.K C W f) := pss_one h1
theorem ds_never : PS X st (tS X.K C W sNever) := PS.imp (ps_never (X := X) (st := st)) fun D σ H ⟨_, _, _, _, _, w⟩ => w
theorem dss_never {sts : List Stmt} : PSs X sts (tS X.K C W sNever) := PSs.imp (pss_never (X := X) (sts := sts)) fun D σ H ⟨_, _, _, _, _, w⟩ => w
theorem ds_if {t : Expr} {a b : List Stmt} {ft : DT} (ht : PT X t (tT X.K C W ft)) (ha : PSs X a (tS X.K C W f)) (hb : PSs X b (tS X.K C W g)) : PS X (.If t a b pos) (tS X.K C W (sIf ft f g)) :=
  PS.imp (ps_if ht ha hb) fun D σ H ⟨c, m, r, n, er, w⟩ => tT_thenT n er w fun c1 d m1 n1 x1 er1 w1 => by
    cases d with
    | true => exact ⟨c1, m1, r, n1, er1, w1⟩
    | false => exact ⟨c1, m1, r, n1, er1, w1⟩
theorem ds_set {i : Nat} {x : Str} {e : Expr} {fe : DE} {pos' : Pos} (hN : X.N.Nodup) (he : PE X e (tE X.K C W fe)) (hi : X.N[i]? = some x := by rfl) (hx : Loc X.env.scope x := by first | exact Or.inl rfl | exact Or.inr rfl) (hs : swapsWith e (some (.Name x pos')) pos.line X.env = pure false := by rfl)
    (hf : X.fn x = true ∨ X.env.scope.names.lookup x = some .local := by first | exact .inl rfl | exact .inr rfl) : PS X (.Assign [.Name x pos'] e pos) (tS X.K C W (sSet i fe)) :=
  PS.imp (ps_set hN hi hx he hs hf) fun D σ H ⟨c, m, r, n, er, w⟩ => tE_thenS n er w fun c1 d m1 v n1 x1 er1 q w1 => w1 c1 _ (Ext.refl _) n1.s (er1.set i q)
theorem ds_ret {e : Expr} {fe : DE} (he : PE X e (tE X.K C W fe)) : PS X (.Return (some e) pos) (tS X.K C W (sRet fe)) :=
  PS.imp (ps_ret he) fun D σ H ⟨c, m, r, n, er, w⟩ => tE_thenS n er w fun c1 d m1 v n1 x1 er1 q w1 => w1 c1 v (Ext.refl _) n1.s q
theorem ds_retN : PS X (.Return none pos) (tS X.K C W sRetN) := PS.imp ps_retN fun D σ H ⟨c, m, r, n, er, w⟩ => by
  have := w c _ (Ext.refl c) n.s .non
  rw [n.H] at this; exact this
theorem ds_expr {e : Expr} {fe : DE} (he : PE X e (tE X.K C W fe)) (hs : swapsWith e none pos.line X.env = pure false := by rfl) : PS X (.Expr e pos) (tS X.K C W (sExpr fe)) :=
  PS.imp (ps_expr he hs) fun D σ H ⟨c, m, r, n, er, w⟩ => tE_thenS n er w fun c1 d m1 v n1 x1 er1 q w1 => w1 c1 _ (Ext.refl _) n1.s er1
theorem ds_pass : PS X (.Pass pos) (tS X.K C W sNil) := PS.imp ps_pass fun D σ H ⟨c, m, r, n, er, w⟩ => by
  have := w c σ (Ext.refl c) n.s er
  rw [n.H] at this; exact this
theorem ds_break : PS X (.Break pos) (tS X.K C W sBk) := PS.imp ps_break fun D σ H ⟨c, m, r, n, er, w⟩ => by
  have := w c σ (Ext.refl c) n.s er
  rw [n.H] at this; exact this
theorem ds_continue : PS X (.Continue pos) (tS X.K C W sCt) := PS.imp ps_continue fun D σ H ⟨c, m, r, n, er, w⟩ => by
  have := w c σ (Ext.refl c) n.s er
  rw [n.H] at this; exact this
end

/-! ### while -/
def whileN (t : DT) (b : DS) : Nat → DS
  | 0 => fun _ _ => .bad
  | n + 1 => fun r m => thenT (t r m) r fun d m => if d = true then (match b r m with
    | .nx r m => whileN t b n r m
    | .ct r m => whileN t b n r m
    | .bk r m => .nx r m
    | o => o) else .nx r m
def fuel : Nat := 4611686018427387904
def sWhile (t : DT) (b : DS) : DS := fun r m => whileN t b fuel r m
theorem whileN_mono (t : DT) (b : DS) : ∀ (n k : Nat) (r : DEnv) (m : Store), n ≤ k → whileN t b n r m ≠ .bad → whileN t b k r m = whileN t b n r m
  | 0, _, _, _, _, h => absurd rfl h
  | n + 1, 0, _, _, h, _ => by omega
  | n + 1, k + 1, r, m, hk, h => by
    unfold whileN at h ⊢
    cases e : t r m with
    | ok d m1 =>
      rw [e] at h
      simp only [thenT_ok] at h ⊢
      cases d with
      | false => rfl
      | true =>
        simp only [if_pos] at h ⊢
        cases e2 : b r m1 with
        | nx r2 m2 => rw [e2] at h; exact whileN_mono t b n k r2 m2 (by omega) h
        | ct r2 m2 => rw [e2] at h; exact whileN_mono t b n k r2 m2 (by omega) h
        | bk r2 m2 => rfl
        | rt d m2 => rfl
        | ex a fs r2 m2 => rfl
        | bad => rfl
    | ex a fs m1 => rfl
    | bad => rfl
theorem sWhile_of {t : DT} {b : DS} {r : DEnv} {m : Store} {o : RS} (n : Nat) (hn : n ≤ 1000000) (h : whileN t b n r m = o) (ho : o ≠ .bad) : sWhile t b r m = o := by
  subst h
  exact whileN_mono t b n fuel r m (Nat.le_trans hn (by decide)) ho
section
variable {X : Cx} {C : CE} {W : WX} {pos : Pos}
theorem ds_while {t : Expr} {body : List Stmt} {ft : DT} {f : DS} (hp : PassesOwn (model X.prog X.w) X.A X.env X.xe) (ht : PT X t (tT X.K C W ft)) (hb : PSs X body (tS X.K C W f)) : PS X (.While t body [] pos) (tS X.K C W (sWhile ft f)) :=
  PS.imp (ps_while hp ht hb) fun D σ H ⟨c, m, r, n, er, w⟩ => by
    refine ⟨fun k σ H => ∃ c' m' r', Now X.K C H c' m' ∧ ER c' r' σ ∧ SW C W c' (whileN ft f k r' m') D, ⟨fuel, c, m, r, n, er, w⟩, ?_⟩
    rintro k σ H ⟨c, m, r, n, er, w⟩
    cases k with
    | zero => exact False.elim w
    | succ k =>
      unfold whileN at w
      refine tT_thenT n er w fun c1 d m1 n1 x1 er1 w1 => ?_
      cases d with
      | false => exact w1 c1 σ (Ext.refl _) n1.s er1
      | true =>
        simp only [if_pos] at w1 ⊢
        refine ⟨fun σ' H' => ∃ c' m' r', Now X.K C H' c' m' ∧ ER c' r' σ' ∧ SW C W c' (whileN ft f k r' m') D, fun σ' H' h => ⟨k, Nat.lt_succ_self _, h⟩, c1, m1, r, n1, er1, ?_⟩
        cases e : f r m1 with
        | nx r2 m2 => rw [e] at w1; exact fun c' σ' x s q => ⟨c', m2, r2, n1.next x s, q, SW.ext w1 x⟩
        | ct r2 m2 => rw [e] at w1; exact fun c' σ' x s q => ⟨c', m2, r2, n1.next x s, q, SW.ext w1 x⟩
        | bk r2 m2 => rw [e] at w1; exact w1
        | rt d m2 => rw [e] at w1; exact w1
        | ex a fs r2 m2 => rw [e] at w1; exact w1
        | bad => rw [e] at w1; exact w1
end

/-! ### what is walked -/
/-- J walks the items xs from the state c on -/
def WalkD (c : RC) (xs : List D) (J : It) : Prop := ∀ c' m', Ext0 c c' → SRep c' m' → ∀ i,
  (∀ d, xs[i]? = some d → J.go i c'.H ∧ ∀ x H', J.yld i c'.H x H' → ∃ c2, c2.H = H' ∧ Ext c' c2 ∧ SRep c2 m' ∧ Rep c2 d x) ∧ (xs.length ≤ i → J.stop i c'.H)
def tI (K : PySem.W.Frag) (C : CE) (W : WX) (f : DA) : TI := fun σ H R => ∃ c m r, Now K C H c m ∧ ER c r σ ∧ RW C WalkD c (f r m) R (fun cls d H' => W cls d σ H')
abbrev DG := D → DEnv → Option DEnv
def tG (K : PySem.W.Frag) (C : CE) (g : DG) : TG := fun v σ H Q => ∃ c m r d r', Now K C H c m ∧ ER c r σ ∧ Rep c d v ∧ g d r = some r' ∧ ∀ c' σ', Ext c c' → SRep c' m → ER c' r' σ' → Q σ' c'.H
def forN (g : DG) (b : DS) : List D → DS
  | [] => fun r m => .nx r m
  | x :: xs => fun r m => match g x r with
    | none => .bad
    | some r => match b r m with
      | .nx r m => forN g b xs r m
      | .ct r m => forN g b xs r m
      | .bk r m => .nx r m
      | o => o
def thenA (x : Res (List D)) (r : DEnv) (f : List D → Store → RS) : RS := match x with
  | .ok d m => f d m
  | .ex k fs m => .ex k fs r m
  | .bad => .bad
@[simp] theorem thenA_ok (d : List D) (m : Store) (r : DEnv) (f : List D → Store → RS) : thenA (.ok d m) r f = f d m := (rfl)
@[simp] theorem thenA_ex (k : Nat) (fs : List (Str × D)) (m : Store) (r : DEnv) (f : List D → Store → RS) : thenA (.ex k fs m) r f = .ex k fs r m := (rfl)
def sFor (it : DA) (g : DG) (b : DS) : DS := fun r m => thenA (it r m) r fun xs m => forN g b xs r m
def gName (i : Nat) : DG := fun d r => some (r.set i (some d))
theorem PG.imp {X : Cx} {e : Expr} {t t' : TG} (h : PG X e t) (i : ∀ v σ H Q, t' v σ H Q → t v σ H Q) : PG X e t' := ⟨fun pins s σ H v u Q I r q => h.run pins s σ H v u Q I r (i _ _ _ _ q)⟩
theorem PI.imp {X : Cx} {tg e : Expr} {t t' : TI} (h : PI X tg e t) (i : ∀ σ H Q, t' σ H Q → t σ H Q) : PI X tg e t' := ⟨fun pins s σ H Q I q => h.run pins s σ H Q I (i _ _ _ q)⟩
section
variable {X : Cx} {C : CE} {W : WX} {pos : Pos}
theorem dg_name {i : Nat} {x : Str} (hN : X.N.Nodup) (hi : X.N[i]? = some x := by rfl) (hx : Loc X.env.scope x := by first | exact Or.inl rfl | exact Or.inr rfl) (hf : X.fn x = true ∨ X.env.scope.names.lookup x = some .local := by first | exact .inl rfl | exact .inr rfl) : PG X (.Name x pos) (tG X.K C (gName i)) :=
  PG.imp (pg_name hN hi hx hf) fun v σ H Q ⟨c, m, r, d, r', n, er, q, e, w⟩ => by
    cases e
    have := w c _ (Ext.refl c) n.s (er.set i q)
    rw [n.H] at this; exact this
theorem ds_for {tg iter : Expr} {body : List Stmt} {fi : DA} {g : DG} {f : DS} (hp : PassesOwn (model X.prog X.w) X.A X.env X.xe) (hc : X.calm = true) (hi : PI X tg iter (tI X.K C W fi)) (hg : PG X tg (tG X.K C g)) (hb : PSs X body (tS X.K C W f))
    (hs : ∀ x, foldedSetIterable iter X.env x = pure x := by intro _; rfl) : PS X (.For tg iter body [] pos) (tS X.K C W (sFor fi g f)) :=
  PS.imp (ps_for hp hc hi hg hb hs) fun D σ H ⟨c, m, r, n, er, w⟩ => by
    refine ⟨c, m, r, n, er, ?_⟩
    have w : SW C W c (thenA (fi r m) r fun xs m => forN g f xs r m) D := w
    cases e : fi r m with
    | bad => rw [e] at w; exact w
    | ex j fs m' => rw [e] at w; exact fun c' dd vs x s a b => w c' σ x (er.mono x n.s.wok) dd vs s a b
    | ok xs m1 =>
      rw [e] at w
      simp only [thenA_ok] at w
      intro c1 J x1 s1 wk
      have er1 := er.mono x1 n.s.wok
      have w1 := SW.ext w x1
      have n1 := n.next x1 s1
      refine ⟨fun i k σ H => k = xs.length - i ∧ i ≤ xs.length ∧ ∃ c' m' r', Ext c1 c' ∧ Now X.K C H c' m' ∧ ER c' r' σ ∧ SW C W c' (forN g f (xs.drop i) r' m') D, ⟨xs.length, by simp, Nat.zero_le _, c1, m1, r, Ext.refl _, n1, er1, by simpa using w1⟩, ?_⟩
      rintro i k σ H ⟨rfl, hi, c2, m2, r2, x2, n2, er2, w2⟩
      obtain ⟨hH⟩ : Nonempty (c2.H = H) := ⟨n2.H⟩
      subst hH
      obtain ⟨go, stop⟩ := wk c2 m2 x2.toExt0 n2.s i
      by_cases hlt : i < xs.length
      · have hx : xs[i]? = some xs[i] := by simp [hlt]
        obtain ⟨g1, y1⟩ := go _ hx
        refine .inr ⟨g1, fun σ' H' => ∃ c' m' r', Ext c1 c' ∧ Now X.K C H' c' m' ∧ ER c' r' σ' ∧ SW C W c' (forN g f (xs.drop (i + 1)) r' m') D, fun σ' H' h => ⟨xs.length - (i + 1), by omega, rfl, hlt, h⟩, fun x H' yy => ?_⟩
        obtain ⟨c3, e3, x3, s3, q3⟩ := y1 x H' yy
        subst e3
        rw [List.drop_eq_getElem_cons hlt] at w2
        unfold forN at w2
        cases eg : g xs[i] r2 with
        | none => rw [eg] at w2; exact False.elim w2
        | some r3 =>
          rw [eg] at w2
          refine ⟨c3, m2, r2, xs[i], r3, n2.next x3 s3, er2.mono x3 n2.s.wok, q3, eg, fun c4 σ4 x4 s4 er4 => ⟨c4, m2, r3, (n2.next x3 s3).next x4 s4, er4, ?_⟩⟩
          have xx : Ext c2 c4 := x3.trans x4
          cases eb : f r3 m2 with
          | nx r5 m5 => simp only [eb] at w2; exact fun c' σ' x s q => ⟨c', m5, r5, (x2.trans xx).trans x, ((n2.next x3 s3).next x4 s4).next x s, q, SW.ext w2 (xx.trans x)⟩
          | ct r5 m5 => simp only [eb] at w2; exact fun c' σ' x s q => ⟨c', m5, r5, (x2.trans xx).trans x, ((n2.next x3 s3).next x4 s4).next x s, q, SW.ext w2 (xx.trans x)⟩
          | bk r5 m5 => simp only [eb] at w2; exact SW.ext (C := C) (W := W) (De := D) (o := .nx r5 m5) w2 xx
          | rt d m5 => simp only [eb] at w2; exact SW.ext (C := C) (W := W) (De := D) (o := .rt d m5) w2 xx
          | ex a fs r5 m5 => simp only [eb] at w2; exact SW.ext (C := C) (W := W) (De := D) (o := .ex a fs r5 m5) w2 xx
          | bad => simp only [eb] at w2; exact w2
      · have e : i = xs.length := by omega
        subst e
        refine .inl ⟨stop (Nat.le_refl _), ?_⟩
        rw [List.drop_length] at w2
        exact w2 c2 σ (Ext.refl _) n2.s er2
end

/-! ### a def by its body -/
/-- the outcome of a def's body -/
def runB (f : DS) (r : DEnv) (m : Store) : Res D := match f r m with
  | .nx _ m => .ok .non m
  | .rt d m => .ok d m
  | .ex k fs _ m => .ex k fs m
  | _ => .bad
def startD (n : Nat) (ds : List D) : DEnv := ds.map some ++ List.replicate (n - ds.length) none
theorem er_start {c : RC} {ds : List D} {vs : List V} {N : List Str} (h : Reps c ds vs) : ER c (startD N.length ds) (L2.start N vs) := by
  have hl := h.length
  refine ⟨by simp [startD, L2.start, hl], fun i d hd => ?_⟩
  unfold startD at hd
  by_cases hi : i < ds.length
  · rw [List.getElem?_append_left (by simpa using hi), List.getElem?_map] at hd
    cases e : ds[i]? with
    | none => rw [e] at hd; simp at hd
    | some d' =>
      rw [e] at hd
      simp at hd; subst hd
      obtain ⟨v, hv, q⟩ := Paired.get h e
      refine ⟨v, ?_, q⟩
      unfold L2.start
      rw [List.getElem?_append_left (by simp; omega), List.getElem?_map, hv]; rfl
  · rw [List.getElem?_append_right (by simpa using hi), List.getElem?_replicate] at hd
    split at hd <;> cases hd
section
variable {P : Program} {w : World} {K : PySem.W.Frag} {mg : Str → Option Value} {base : Heap} {C : CE}
/-- the context of a def's body -/
abbrev cxD (P : Program) (w : World) (K : PySem.W.Frag) (mg : Str → Option Value) (base : Heap) (N : List Str) (qual : Str) (scope : Scope) (f : Addr) (cdv : Value) (A : Around) (outer : List Env) (s : Shared) (H : Hp) (E : XK) : Cx :=
  cxOf (L2.CX P w) P w K mg base N qual scope f cdv A outer s H E
/-- THE RULE: a def keeps the promise G, its body's denotation -/
theorem fnD {x qual : Str} {params : Arguments} {body : List Stmt} {scope : Scope} {dvs : List V} {kws : List (Str × V)} {f : Addr} {fd : FuncData} {N ps : List Str} {k : Nat} {S : DS} {G : List D → Store → Res D} (F : FunD K x qual params body scope dvs kws f fd) (Sc : FnScope N ps scope)
    (hG : ∀ ds m, G ds m = if ds.length = ps.length then runB S (startD N.length ds) m else .bad)
    (hbody : ∀ cdv A outer s H E, Room k (cxD P w K mg base N qual scope f cdv A outer s H E).A → ∀ W : WX, Takes (cxD P w K mg base N qual scope f cdv A outer s H E) W →
      PassesOwn (model P w) (cxD P w K mg base N qual scope f cdv A outer s H E).A (cxD P w K mg base N qual scope f cdv A outer s H E).env (cxD P w K mg base N qual scope f cdv A outer s H E).xe → PSs (cxD P w K mg base N qual scope f cdv A outer s H E) body (tS K C W S)) :
    FnOk P w K mg base (L2.CX P w) (k + 1) f fd ps (spG K C G) := by
  refine F.ok Sc (spG_len rfl fun ds m h => by rw [hG, if_neg h]) fun cdv A outer s H vs Q E hr h => ?_
  refine ⟨_, hbody cdv A outer s H E hr (fun cls d _ H => E cls d H) (takes_of rfl rfl rfl rfl) (passes_of rfl), ?_⟩
  have hl := spG_len rfl (fun ds m h => by rw [hG, if_neg h]) vs H Q E h
  obtain ⟨c, m, ds, nw, q, w⟩ := h
  have hl : ds.length = ps.length := by rw [← hl]; exact q.length.symm
  refine ⟨c, m, startD N.length ds, nw, er_start q, ?_⟩
  rw [hG, if_pos hl] at w
  unfold runB at w
  show SW C (fun cls d _ H => E cls d H) c (S (startD N.length ds) m) _
  cases e : S (startD N.length ds) m with
  | nx r' m' => rw [e] at w; exact fun c' σ' x s _ => w c' _ x s .non
  | rt d m' => rw [e] at w; exact fun c' v x s q => w c' v x s q
  | ex a fs r' m' => rw [e] at w; exact fun c' σ' x _ dd vs s h1 h2 => w c' dd vs x s h1 h2
  | bk r' m' => rw [e] at w; exact False.elim w
  | ct r' m' => rw [e] at w; exact False.elim w
  | bad => rw [e] at w; exact False.elim w
end
end DL
/-! DL4: cells: made, frozen, given up; calls of one's own defs, classes. -/
namespace DL
open PySem PySem.Spec PyProof.Rows L2

mutual
/-- no cell in it -/
def pureD : D → Bool
  | .lst xs => pureL xs
  | .tup xs => pureL xs
  | .dic xs => pureK xs
  | .dit xs => pureT xs
  | .obj _ xs => pureF xs
  | .loc _ => false
  | _ => true
def pureL : List D → Bool
  | [] => true
  | d :: ds => pureD d && pureL ds
def pureK : List (Key × D) → Bool
  | [] => true
  | (_, d) :: ds => pureD d && pureK ds
def pureT : List (List Key × D) → Bool
  | [] => true
  | (_, d) :: ds => pureD d && pureT ds
def pureF : List (Str × D) → Bool
  | [] => true
  | (_, d) :: ds => pureD d && pureF ds
end
theorem pureL_at : ∀ {xs : List D} {i : Nat} {d : D}, pureL xs = true → xs[i]? = some d → pureD d = true
  | [], _, _, _, h => by simp at h
  | x :: xs, 0, d, p, h => by simp at h; subst h; simp [pureL] at p; exact p.1
  | x :: xs, i + 1, d, p, h => by simp [pureL] at p; exact pureL_at p.2 (i := i) (by simpa using h)
theorem pureK_at : ∀ {xs : List (Key × D)} {i : Nat} {d : Key × D}, pureK xs = true → xs[i]? = some d → pureD d.2 = true
  | [], _, _, _, h => by simp at h
  | x :: xs, 0, d, p, h => by simp at h; subst h; simp [pureK] at p; exact p.1
  | x :: xs, i + 1, d, p, h => by simp [pureK] at p; exact pureK_at p.2 (i := i) (by simpa using h)
theorem pureT_at : ∀ {xs : List (List Key × D)} {i : Nat} {d : List Key × D}, pureT xs = true → xs[i]? = some d → pureD d.2 = true
  | [], _, _, _, h => by simp at h
  | x :: xs, 0, d, p, h => by simp at h; subst h; simp [pureT] at p; exact p.1
  | x :: xs, i + 1, d, p, h => by simp [pureT] at p; exact pureT_at p.2 (i := i) (by simpa using h)
theorem pureF_at : ∀ {xs : List (Str × D)} {i : Nat} {d : Str × D}, pureF xs = true → xs[i]? = some d → pureD d.2 = true
  | [], _, _, _, h => by simp at h
  | x :: xs, 0, d, p, h => by simp at h; subst h; simp [pureF] at p; exact p.1
  | x :: xs, i + 1, d, p, h => by simp [pureF] at p; exact pureF_at p.2 (i := i) (by simpa using h)
theorem pureL_of : ∀ {xs : List D}, (∀ d ∈ xs, pureD d = true) → pureL xs = true
  | [], _ => rfl
  | x :: xs, h => by simp [pureL, h x List.mem_cons_self, pureL_of fun d hd => h d (List.mem_cons_of_mem _ hd)]
theorem pureL_iff {xs : List D} : pureL xs = true ↔ ∀ d ∈ xs, pureD d = true := ⟨fun h d hd => by
  obtain ⟨i, hi⟩ := List.mem_iff_getElem?.mp hd
  exact pureL_at h hi, pureL_of⟩
/-- the same with other cells, where there is no cell in it -/
theorem Rep.pure {c c' : RC} (hK : c'.K = c.K) (hC : c'.C = c.C) (hH : c'.H = c.H) (hW : ∀ a, c'.W a → c.W a) {d : D} {v : V} (h : Rep c d v) : pureD d = true → Rep c' d v := by
  induction h with
  | non => exact fun _ => .non
  | bl b => exact fun _ => .bl b
  | int i => exact fun _ => .int i
  | str s => exact fun _ => .str s
  | adr a => exact fun _ => .adr a
  | lst w s l h ih => exact fun p => .lst (fun z => w (hW _ z)) (by rw [hH]; exact s) l fun i d v a b => ih i d v a b (pureL_at (by simpa [pureD] using p) a)
  | tup s l h ih => exact fun p => .tup (by rw [hH, hK]; exact s) l fun i d v a b => ih i d v a b (pureL_at (by simpa [pureD] using p) a)
  | dic w s l h ih => exact fun p => .dic (fun z => w (hW _ z)) (by rw [hH]; exact s) l fun i d v a b => ih i d v a b (pureK_at (by simpa [pureD] using p) a)
  | dit w s l h ih => exact fun p => .dit (fun z => w (hW _ z)) (by rw [hH]; exact s) l fun i d v a b => ih i d v a b (pureT_at (by simpa [pureD] using p) a)
  | scr s => exact fun p => .scr (s.imp (fun q => ⟨fun z => q.1 (hW _ z), by rw [hH]; exact q.2⟩) fun q => by rw [hK]; exact q)
  | set w s => exact fun p => .set (fun z => w (hW _ z)) (by rw [hH, hC]; exact s)
  | obj w s l h ih => exact fun p => .obj (fun z => w (hW _ z)) (by rw [hH, hC]; exact s) l fun i d v a b => ih i d v a b (pureF_at (by simpa [pureD] using p) a)
  | loc e => exact fun p => by simp [pureD] at p

section
variable {K : PySem.W.Frag} {C : CE} {c c' c1 c2 : RC} {m m' : Store}
/-! ### a cell made -/
def RC.cell (c : RC) (p : Addr) (H' : Hp) : RC := { c with L := c.L ++ [p], W := fun a => c.W a ∨ a = p, H := H' }
theorem cell_ext {p : Addr} {H' : Hp} (s : SRep c m) (hp : c.H p = none) (hk : ∀ b u, c.H b = some u → H' b = some u) : Ext c (c.cell p H') :=
  ⟨⟨rfl, rfl, ⟨[p], rfl⟩, fun b u h _ => .inl (hk b u h), fun b h => by
    rcases h with h | h
    · exact .inl h
    · subst h; exact .inr hp⟩, rfl, fun b h => by
    obtain ⟨u, e, _⟩ := s.tmp b h
    exact (hk b u e).trans e.symm⟩
theorem cell_rep {p : Addr} {H' : Hp} {d : D} (s : SRep c m) (hp : c.H p = none) (hk : ∀ b u, c.H b = some u → H' b = some u) (hd : CellOk (c.cell p H') p d) : SRep (c.cell p H') (m ++ [some d]) := by
  have x := cell_ext s hp hk
  have len : c.L.length = m.length := s.len
  have hL : p ∉ c.L := fun z => by
    obtain ⟨n, hn⟩ := List.mem_iff_getElem?.mp z
    obtain ⟨u, e⟩ := s.there n p hn
    rw [hp] at e; cases e
  have hpn : ∃ u, H' p = some u := by
    obtain ⟨u, e, _⟩ := hd.mut
    exact ⟨u, e⟩
  refine ⟨by simp [RC.cell, s.len], ?_, fun a => ⟨fun h => ?_, fun h => ?_⟩, fun n a d' h1 h2 => ?_, fun n a h1 => ?_, fun a h => ?_, fun n a h1 => ?_⟩
  · show (c.L ++ [p]).Nodup
    rw [List.nodup_append]
    refine ⟨s.nd, by simp, fun a ha b hb => ?_⟩
    simp at hb; subst hb
    rintro rfl; exact hL ha
  · rcases h with h | h
    · rcases (s.live a).mp h with ⟨n, d', h1, h2⟩ | h
      · exact .inl ⟨n, d', by show (c.L ++ [p])[n]? = _; rw [List.getElem?_append_left (List.getElem?_eq_some_iff.mp h1).1]; exact h1, by rw [List.getElem?_append_left (List.getElem?_eq_some_iff.mp h2).1]; exact h2⟩
      · exact .inr h
    · subst h
      exact .inl ⟨m.length, d, by show (c.L ++ [a])[_]? = _; rw [← len]; simp, by simp⟩
  · rcases h with ⟨n, d', h1, h2⟩ | h
    case inr => exact .inl ((s.live a).mpr (.inr h))
    by_cases hn : n < m.length
    · have h1' : (c.L ++ [p])[n]? = some a := h1
      rw [List.getElem?_append_left (by omega)] at h1'
      rw [List.getElem?_append_left hn] at h2
      exact .inl ((s.live a).mpr (.inl ⟨n, d', h1', h2⟩))
    · have hl := (List.getElem?_eq_some_iff.mp h2).1
      simp at hl
      have e : n = m.length := by omega
      subst e
      have h1' : (c.L ++ [p])[m.length]? = some a := h1
      rw [← len] at h1'
      simp at h1'
      exact .inr h1'.symm
  · by_cases hn : n < m.length
    · have h1' : (c.L ++ [p])[n]? = some a := h1
      rw [List.getElem?_append_left (by omega)] at h1'
      rw [List.getElem?_append_left hn] at h2
      have q := s.cell n a d' h1' h2
      obtain ⟨u, e, _⟩ := q.mut
      exact q.mono x s.wok ((hk a u e).trans e.symm)
    · have hl := (List.getElem?_eq_some_iff.mp h2).1
      simp at hl
      have e : n = m.length := by omega
      subst e
      have h1' : (c.L ++ [p])[m.length]? = some a := h1
      rw [← len] at h1'
      simp at h1'
      simp at h2
      subst h1' h2
      exact hd
  · have h1' : (c.L ++ [p])[n]? = some a := h1
    by_cases hn : n < c.L.length
    · rw [List.getElem?_append_left hn] at h1'
      obtain ⟨u, e⟩ := s.there n a h1'
      exact ⟨u, hk a u e⟩
    · have hl := (List.getElem?_eq_some_iff.mp h1').1
      simp at hl
      have e : n = c.L.length := by omega
      subst e
      simp at h1'
      subst h1'
      exact hpn
  · obtain ⟨u, e, q⟩ := s.tmp a h
    exact ⟨u, hk a u e, q⟩
  · have h1' : (c.L ++ [p])[n]? = some a := h1
    by_cases hn : n < c.L.length
    · rw [List.getElem?_append_left hn] at h1'
      exact s.apart n a h1'
    · have hl := (List.getElem?_eq_some_iff.mp h1').1
      simp at hl
      have e : n = c.L.length := by omega
      subst e
      simp at h1'
      subst h1'
      intro z
      obtain ⟨u, e, _⟩ := s.tmp _ z
      rw [hp] at e; cases e
/-! ### a cell frozen: it is owned no longer, what stands there is a plain thing -/
def RC.thaw (c : RC) (p : Addr) : RC := { c with W := fun a => c.W a ∧ a ≠ p }
theorem thaw_ext {p : Addr} : Ext c (c.thaw p) := ⟨⟨rfl, rfl, ⟨[], by simp [RC.thaw]⟩, fun _ _ h _ => .inl h, fun _ h => .inl h.1⟩, rfl, fun _ _ => rfl⟩
theorem thaw_rep {p : Addr} {n : Nat} (s : SRep c m) (hn : c.L[n]? = some p) : SRep (c.thaw p) (m.set n none) := by
  refine ⟨by simp [RC.thaw, s.len], s.nd, fun a => ⟨fun ⟨h, ne⟩ => ?_, fun h => ?_⟩, fun j a d h1 h2 => ?_, s.there, s.tmp, s.apart⟩
  · rcases (s.live a).mp h with ⟨j, d, h1, h2⟩ | h
    · refine .inl ⟨j, d, h1, ?_⟩
      rw [List.getElem?_set_ne]
      · exact h2
      · rintro rfl; rw [hn] at h1; cases h1; exact ne rfl
    · exact .inr h
  · rcases h with ⟨j, d, h1, h2⟩ | h
    case inr => exact ⟨(s.live a).mpr (.inr h), fun z => s.apart n p hn (by rw [← z]; exact h)⟩
    by_cases e : j = n
    · subst e
      by_cases hl : j < m.length
      · rw [List.getElem?_set_self hl] at h2; cases h2
      · rw [List.getElem?_eq_none (by simp; omega)] at h2; cases h2
    · rw [List.getElem?_set_ne (Ne.symm e)] at h2
      refine ⟨(s.live a).mpr (.inl ⟨j, d, h1, h2⟩), ?_⟩
      rintro rfl
      have h1' : c.L[j]? = some a := h1
      have i1 := (List.getElem?_eq_some_iff.mp h1').1
      have i2 := (List.getElem?_eq_some_iff.mp hn).1
      exact e ((List.getElem_inj s.nd).mp ((List.getElem?_eq_some_iff.mp h1').2.trans (List.getElem?_eq_some_iff.mp hn).2.symm))
  · by_cases e : j = n
    · subst e
      by_cases hl : j < m.length
      · rw [List.getElem?_set_self hl] at h2; cases h2
      · rw [List.getElem?_eq_none (by simp; omega)] at h2; cases h2
    · rw [List.getElem?_set_ne (Ne.symm e)] at h2
      exact (s.cell j a d h1 h2).mono thaw_ext s.wok rfl
theorem cell_frozen {p : Addr} {n : Nat} {d : D} (s : SRep c m) (hn : c.L[n]? = some p) (hd : m[n]? = some (some d)) : Rep (c.thaw p) d (.ref p) := by
  have q := (s.cell n p d hn hd).mono (thaw_ext (p := p)) s.wok rfl
  have w : ¬ (c.thaw p).W p := fun h => h.2 rfl
  cases d with
  | lst xs => obtain ⟨vs, e, r⟩ := q; exact .lst' w e r
  | dic xs => obtain ⟨vs, e, r⟩ := q; exact .dic' w (.inl e) r
  | dit xs => obtain ⟨vs, e, r⟩ := q; exact .dit' w (.inl e) r
  | obj k xs => obtain ⟨dx, vs, e, r⟩ := q; exact .obj' w e r
  | _ => exact False.elim q

/-! ### cells given up: back to the store of an earlier state -/
theorem back_W (s : SRep c m) (x : Ext c c2) (s2 : SRep c2 m') (hm : m'.take m.length = m) {a : Addr} (h : c.W a) : c2.W a := by
  obtain ⟨ml, hl⟩ := x.L
  rcases (s.live _).mp h with ⟨n, d, g1, g2⟩ | h
  · refine (s2.live _).mpr (.inl ⟨n, d, ?_, ?_⟩)
    · rw [hl, List.getElem?_append_left (List.getElem?_eq_some_iff.mp g1).1]; exact g1
    · have := (List.getElem?_eq_some_iff.mp g2).1
      rw [← hm, List.getElem?_take_of_lt this] at g2; exact g2
  · exact (s2.live _).mpr (.inr (by rw [x.T]; exact h))
theorem back_ok (s : SRep c m) (x : Ext c c2) (s2 : SRep c2 m') (hm : m'.take m.length = m) : Ext c { c2 with L := c.L, W := c.W } ∧ SRep { c2 with L := c.L, W := c.W } m := by
  have x2 : Ext c { c2 with L := c.L, W := c.W } := ⟨⟨x.K, x.C, ⟨[], by simp⟩, x.H, fun b h => .inl h⟩, x.T, x.TH⟩
  refine ⟨x2, s.len, s.nd, fun a => by rw [show (RC.T { c2 with L := c.L, W := c.W }) = c.T from x.T]; exact s.live a, fun n a d h1 h2 => ?_, fun n a h1 => ?_, s2.tmp, fun n a h1 => by rw [show (RC.T { c2 with L := c.L, W := c.W }) = c.T from x.T]; exact s.apart n a h1⟩
  case refine_2 =>
    have h1 : c.L[n]? = some a := h1
    obtain ⟨ml, hl⟩ := x.L
    exact s2.there n a (by rw [hl, List.getElem?_append_left (List.getElem?_eq_some_iff.mp h1).1]; exact h1)
  have h1 : c.L[n]? = some a := h1
  obtain ⟨ml, hl⟩ := x.L
  have q0 := s.cell n a d h1 h2
  have hn := (List.getElem?_eq_some_iff.mp h2).1
  have e2 : m'[n]? = some (some d) := by
    rw [← hm] at h2
    rw [List.getElem?_take_of_lt hn] at h2
    exact h2
  have e1 : c2.L[n]? = some a := by
    rw [hl, List.getElem?_append_left (List.getElem?_eq_some_iff.mp h1).1]
    exact h1
  have q := s2.cell n a d e1 e2
  -- the contents: trees that stood in c
  have wk : ∀ {d : D} {u v : V}, Rep c d u → Rep c2 d v → Rep { c2 with L := c.L, W := c.W } d v := by
    intro d u v h1 h2
    induction h2 generalizing u with
    | non => exact .non
    | bl b => exact .bl b
    | int i => exact .int i
    | str z => exact .str z
    | adr z => exact .adr z
    | lst w z l h ih =>
      obtain ⟨a1, vs1, _, _, _, r1⟩ := h1.lst_inv
      refine .lst (fun q => w ?_) z l fun i d v hd hv => ?_
      · exact back_W s x s2 hm q
      · obtain ⟨y, _, ry⟩ := Paired.get r1 hd
        exact ih i d v hd hv ry
    | tup z l h ih =>
      obtain ⟨a1, vs1, _, _, r1⟩ := h1.tup_inv
      refine .tup z l fun i d v hd hv => ?_
      obtain ⟨y, _, ry⟩ := Paired.get r1 hd
      exact ih i d v hd hv ry
    | dic w z l h ih =>
      obtain ⟨a1, vs1, _, _, _, r1⟩ := h1.dic_inv
      refine .dic (fun q => w ?_) z l fun i d v hd hv => ?_
      · exact back_W s x s2 hm q
      · obtain ⟨y, _, ry⟩ := Paired.get r1 hd
        exact ih i d v hd hv ry.2
    | dit w z l h ih =>
      obtain ⟨a1, vs1, _, _, _, r1⟩ := h1.dit_inv
      refine .dit (fun q => w ?_) z l fun i d v hd hv => ?_
      · exact back_W s x s2 hm q
      · obtain ⟨y, _, ry⟩ := Paired.get r1 hd
        exact ih i d v hd hv ry.2
    | obj w z l h ih =>
      obtain ⟨a1, dx1, vs1, _, _, _, r1⟩ := h1.obj_inv
      refine .obj (fun q => w ?_) z l fun i d v hd hv => ?_
      · exact back_W s x s2 hm q
      · obtain ⟨y, _, ry⟩ := Paired.get r1 hd
        exact ih i d v hd hv ry.2
    | scr z =>
      rcases z with z | z
      · exact .scr (.inl ⟨fun q => z.1 (back_W s x s2 hm q), z.2⟩)
      · exact .scr (.inr z)
    | set w z =>
      refine .set (fun q => ?_) z
      cases h1 with
      | set w1 s1 => exact w (back_W s x s2 hm q)
    | loc z =>
      cases h1 with
      | loc z1 =>
        refine .loc ?_
        show c.L[_]? = _
        rw [hl, List.getElem?_append_left (List.getElem?_eq_some_iff.mp z1).1] at z
        exact z
  have wks : ∀ {ds : List D} {us vs : List V}, Reps c ds us → Reps c2 ds vs → Reps { c2 with L := c.L, W := c.W } ds vs := by
    intro ds us vs a b
    exact paired_of b.length fun i d v hd hv => by
      obtain ⟨u, _, ru⟩ := Paired.get a hd
      exact wk ru ((paired_at b).2 i d v hd hv)
  have wkk : ∀ {κ : Type} {ds : List (κ × D)} {us vs : List (κ × V)}, RepsK c ds us → RepsK c2 ds vs → RepsK { c2 with L := c.L, W := c.W } ds vs := by
    intro κ ds us vs a b
    exact paired_of (paired_at b).1 fun i d v hd hv => by
      obtain ⟨u, _, ru⟩ := Paired.get a hd
      exact ⟨((paired_at b).2 i d v hd hv).1, wk ru.2 ((paired_at b).2 i d v hd hv).2⟩
  cases d with
  | lst xs => obtain ⟨vs, e, r⟩ := q; obtain ⟨_, _, r0⟩ := q0; exact ⟨vs, e, wks r0 r⟩
  | dic xs => obtain ⟨vs, e, r⟩ := q; obtain ⟨_, _, r0⟩ := q0; exact ⟨vs, e, wkk r0 r⟩
  | dit xs => obtain ⟨vs, e, r⟩ := q; obtain ⟨_, _, r0⟩ := q0; exact ⟨vs, e, wkk r0 r⟩
  | obj k xs => obtain ⟨dx, vs, e, r⟩ := q; obtain ⟨_, _, _, r0⟩ := q0; exact ⟨dx, vs, e, wkk r0 r⟩
  | _ => exact False.elim q
open Classical in
/-- a result whose cells are given up: nothing in it is a cell, the earlier cells are as they were -/
noncomputable def popR (m : Store) (x : Res D) : Res D := match x with
  | .ok d m' => if pureD d = true ∧ m'.take m.length = m then .ok d m else .bad
  | .ex k fs m' => if pureF fs = true ∧ m'.take m.length = m then .ex k fs m else .bad
  | .bad => .bad
theorem popR_ok {d : D} {m' : Store} (h : pureD d = true) (hm : m'.take m.length = m) : popR m (.ok d m') = .ok d m := if_pos ⟨h, hm⟩
@[simp] theorem popR_same {d : D} (h : pureD d = true) : popR m (.ok d m) = .ok d m := popR_ok h (by simp)
@[simp] theorem popR_tail {d : D} {t : Store} (h : pureD d = true) : popR m (.ok d (m ++ t)) = .ok d m := popR_ok h (by simp)
@[simp] theorem popR_extail {k : Nat} {fs : List (Str × D)} {t : Store} (h : pureF fs = true) : popR m (.ex k fs (m ++ t)) = .ex k fs m := if_pos ⟨h, by simp⟩
@[simp] theorem popR_exsame {k : Nat} {fs : List (Str × D)} (h : pureF fs = true) : popR m (.ex k fs m) = .ex k fs m := if_pos ⟨h, by simp⟩
theorem RW.pop {x : Res D} {Q : VK} {E : XK} (s : SRep c m) (h : RW C Rep c (popR m x) Q E) : RW C Rep c x Q E := by
  cases x with
  | ok d m' =>
    unfold popR at h
    simp only at h
    split at h
    · rename_i hh
      intro c2 v x s2 q
      obtain ⟨x3, s3⟩ := back_ok s x s2 hh.2
      exact h { c2 with L := c.L, W := c.W } v x3 s3 (Rep.pure (c := c2) (c' := { c2 with L := c.L, W := c.W }) rfl rfl rfl (fun a ha => by
        exact back_W s x s2 hh.2 ha) q hh.1)
    · exact False.elim h
  | ex k fs m' =>
    unfold popR at h
    simp only at h
    split at h
    · rename_i hh
      intro c2 dd vs x s2 hx q
      obtain ⟨x3, s3⟩ := back_ok s x s2 hh.2
      refine h { c2 with L := c.L, W := c.W } dd vs x3 s3 hx (paired_of (paired_at q).1 fun i p r hp hr => ⟨((paired_at q).2 i p r hp hr).1, ?_⟩)
      exact Rep.pure (c := c2) (c' := { c2 with L := c.L, W := c.W }) rfl rfl rfl (fun a ha => by
        exact back_W s x s2 hh.2 ha) ((paired_at q).2 i p r hp hr).2 (pureF_at hh.1 hp)
    · exact False.elim h
  | bad => exact h
end
end DL
/-! DL5: calls of one's own defs, methods, classes; attributes. -/
namespace DL
open PySem PySem.Spec PyProof.Rows L2

/-- a def that is called with positional values alone -/
abbrev FnG (P : Program) (w : World) (K : PySem.W.Frag) (mg : Str → Option Value) (base : Heap) (k : Nat) (f : Addr) (C : CE) (G : List D → Store → Res D) : Prop := FnR P w K mg base (L2.CX P w) k f (spG K C G)
/-- .. with n positional values and keywords ks -/
def FnGK (P : Program) (w : World) (K : PySem.W.Frag) (mg : Str → Option Value) (base : Heap) (k : Nat) (f : Addr) (n : Nat) (ks : List Str) (C : CE) (G : List D → List D → Store → Res D) : Prop :=
  ∀ (A : Around) (outer : List Env) (s : Shared) (H : Hp) (us ws : List Value) (vs zs : List V) (Q : VK) (E : XK), Room k A → Env0 P w K mg base A outer s H → Vals vs us → Vals zs ws → vs.length = n → zs.length = ks.length →
    (∃ c m ds es, Now K C H c m ∧ Reps c ds vs ∧ Reps c es zs ∧ RW C Rep c (G ds es m) Q E) → codeAny (model P w) A (.call (.ref f) ⟨us, ks.zip ws⟩) (CR (L2.CX P w) outer P w H s Q E) s
section
variable {P : Program} {w : World} {K : PySem.W.Frag} {mg : Str → Option Value} {base : Heap} {j k : Nat} {f : Addr} {C : CE} {G : List D → Store → Res D}
theorem FnG.mono (F : FnG P w K mg base j f C G) (h : j ≤ k) : FnG P w K mg base k f C G := FnR.mono F h
theorem FnG.of {fd : FuncData} {ps : List Str} (F : FnOk P w K mg base (L2.CX P w) k f fd ps (spG K C G)) (hb : Binds K fd ps []) : FnG P w K mg base k f C G := by
  have := F.raw hb (dvs := []) .nil
  exact FnR.imp this fun vs H Q E h => by rw [List.append_nil]; exact h
/-- cells given up at the end -/
theorem FnG.pop (F : FnG P w K mg base k f C G) : FnG P w K mg base k f C fun ds m => popR m (G ds m) := FnR.imp F fun vs H Q E ⟨c, m, ds, n, r, w⟩ => ⟨c, m, ds, n, r, RW.pop n.s w⟩
theorem FnG.imp {G' : List D → Store → Res D} (F : FnG P w K mg base k f C G) (h : ∀ ds m, G' ds m = .bad ∨ G' ds m = G ds m) : FnG P w K mg base k f C G' := FnR.imp F fun vs H Q E ⟨c, m, ds, n, r, w⟩ => ⟨c, m, ds, n, r, by
  rcases h ds m with e | e
  · rw [e] at w; exact False.elim w
  · rw [e] at w; exact w⟩
theorem FnGK.mono {n : Nat} {ks : List Str} {G : List D → List D → Store → Res D} (F : FnGK P w K mg base j f n ks C G) (h : j ≤ k) : FnGK P w K mg base k f n ks C G := fun A outer s H us ws vs zs Q E hr => F A outer s H us ws vs zs Q E (hr.mono h)
theorem FnGK.of {fd : FuncData} {ps ks : List Str} {n : Nat} {g : List Value → List Value → List Value} {gV : List V → List V → List V} {gD : List D → List D → List D} (F : FnOk P w K mg base (L2.CX P w) k f fd ps (spG K C G)) (hb : KBn K fd ps n ks g gV)
    (hg : ∀ c ds vs es zs, Reps c ds vs → Reps c es zs → Reps c (gD ds es) (gV vs zs)) : FnGK P w K mg base k f n ks C fun ds es m => G (gD ds es) m := fun A outer s H us ws vs zs Q E hr e0 r rz l1 l2 ⟨c, m, ds, es, n1, q1, q2, w⟩ => by
  have X : K.In s.heap := e0.mod.kin.keeps fun b o e => (e0.bs b o e).1
  exact F.run A outer s H ⟨us, ks.zip ws⟩ (g us ws) (gV vs zs) Q E hr e0 (hb.to s us ws X (r.length.symm.trans l1) (rz.length.symm.trans l2)) (hb.rel r rz) ⟨c, m, gD ds es, n1, hg c ds vs es zs q1 q2, w⟩
end
section
variable {X : Cx} {C : CE} {W : WX} {k n : Nat} {f Cl : Addr} {sp : Sp} {E : XK} {x m : Str} {p pos apos : Pos} {e o : Expr} {es : List Expr} {kws : List Keyword} {ta : TE} {t tk : TA} {ks : List Str}
/-! ### the calls, what is raised wished for at the slots -/
theorem run_fnG {pins : List (Addr × Obj)} {σ : L2.St} {H : Hp} {s : Shared} {Q : VK} {us : List Value} {vs : List V} (F : FnR X.prog X.w X.K X.mg X.base (L2.CX X.prog X.w) k f sp) (hr : Room k X.A) (hx : PassesAt (L2.CX X.prog X.w) X σ E)
    (I : Inv X pins σ H s) (r : Vals vs us) (h : sp vs H Q E) : wpAny (model X.prog X.w) X.A (call (.ref f) us) (EP X pins σ Q) X.xe s := by
  refine wpAny_call (codeAny_mono (F X.A X.stack s H us vs Q E hr I.env0 r h) fun r s' hq => ?_)
  cases r with
  | error e => exact hx pins H s e s' I hq
  | ok fl =>
    cases fl with
    | ret u => exact I.after hq
    | next => exact False.elim hq
    | brk => exact False.elim hq
    | cont => exact False.elim hq
theorem run_codeG {pins : List (Addr × Obj)} {σ : L2.St} {H : Hp} {s : Shared} {Q : VK} {us : List Value} {vs : List V} (F : FnR X.prog X.w X.K X.mg X.base (L2.CX X.prog X.w) k f sp) (hr : Room k X.A) (hx : PassesAt (L2.CX X.prog X.w) X σ E)
    (I : Inv X pins σ H s) (r : Vals vs us) (h : sp vs H Q E) : codeAny (model X.prog X.w) X.A (.call (.ref f) ⟨us, []⟩) (fun r s' => match r with | .ok (.ret v) => EP X pins σ Q v s' | .ok _ => False | .error e => X.xe e s') s := by
  refine codeAny_mono (F X.A X.stack s H us vs Q E hr I.env0 r h) fun r s' hq => ?_
  cases r with
  | error e => exact hx pins H s e s' I hq
  | ok fl =>
    cases fl with
    | ret u => exact I.after hq
    | next => exact False.elim hq
    | brk => exact False.elim hq
    | cont => exact False.elim hq
def eCall (G : List D → Store → Res D) (g : DA) : DE := fun r m => (g r m).bind G
/-- f(e, ..) -/
theorem de_call {G : List D → Store → Res D} {g : DA} (tk : Takes X W) (hr : Room k X.A) (F : FnG X.prog X.w X.K X.mg X.base k f C G) (hm : X.mg x = some (.ref f)) (hk : PySem.W.keepIn X.K (.ref f) = true) (ha : PA X (e :: es) (tA X.K C W g))
    (hg : Gl X x := by rfl) (hdb : (x == ("__debug__" : Str)) = false := by decide) (he : starEach (e :: es) X.env = (false, eval e X.env) :: starEach es X.env := by rfl) (hpl : (backTo pos (starEach es X.env)).any (·.1) = false := by rfl) :
    PE X (.Call (.Name x p) (e :: es) [] pos) (tE X.K C W (eCall G g)) := by
  refine ⟨fun pins s σ H Q I ⟨c, m, r, n, er, w⟩ => ?_⟩
  refine wpAny_Call_Name_kw (ld_glob I hg hm ?_ hdb)
  refine PySem.W.callWith_K (h₀ := X.base) I.ok.mod.kin hk (thn (ha.run pos pins s σ H (fun vs H1 => spG X.K C G vs H1 Q (WE W σ)) I (tA_bind n er w fun c1 d m1 v n1 x1 er1 q w1 => ⟨c1, m1, d, n1, q, w1⟩)) fun us s1 ⟨vs, H1, I1, r, q⟩ => ⟨I1.kIn, ?_⟩) he hpl
  exact run_fnG F hr (passAt tk σ) I1 r q
theorem de_call0 {G : List D → Store → Res D} (tk : Takes X W) (hr : Room k X.A) (F : FnG X.prog X.w X.K X.mg X.base k f C G) (hm : X.mg x = some (.ref f)) (hk : PySem.W.keepIn X.K (.ref f) = true)
    (hg : Gl X x := by rfl) (hdb : (x == ("__debug__" : Str)) = false := by decide) : PE X (.Call (.Name x p) [] [] pos) (tE X.K C W (eCall G aNil)) := by
  refine ⟨fun pins s σ H Q I ⟨c, m, r, n, er, w⟩ => ?_⟩
  refine wpAny_Call_Name_kw (ld_glob I hg hm ?_ hdb)
  exact PySem.W.callWith_K0 I.kIn hk (run_fnG (us := []) (vs := []) F hr (passAt tk σ) I .nil ⟨c, m, [], n, .nil, w⟩)

/-! keywords -/
structure PKD (X : Cx) (C : CE) (W : WX) (kws : List Keyword) (g : DA) : Prop where
  h : PK X kws (tA X.K C W g)
theorem dk_nil : PKD X C W [] aNil := ⟨⟨fun pos pins s σ H Q I ⟨c, m, r, n, er, w⟩ => pk_nil.run pos pins s σ H Q I (by
  have := RW.now (v := ([] : List V)) w n.s .nil
  rw [n.H] at this; exact this)⟩⟩
theorem dk_cons {nm : Option Str} {kpos : Pos} {fe : DE} {g : DA} (ha : PE X e (tE X.K C W fe)) (hr : PKD X C W kws g) : PKD X C W (⟨nm, e, kpos⟩ :: kws) (aCons fe g) :=
  ⟨⟨fun pos pins s σ H Q I ⟨c, m, r, n, er, w⟩ => (pk_cons ha hr.h).run pos pins s σ H Q I (tE_bind n er w fun c1 d m1 v n1 x1 er1 q w1 => tA_bind n1 er1 w1 fun c2 ds m2 vs n2 x2 er2 q2 w2 => RW.now w2 n2.s (.cons (q.mono x2 n1.s.wok) q2))⟩⟩
def eCallK (n m : Nat) (G : List D → List D → Store → Res D) (g gk : DA) : DE := fun r s => (g r s).bind fun ds s => (gk r s).bind fun es s => if ds.length = n ∧ es.length = m then G ds es s else .bad
/-- f(e, .., k = v, ..) -/
theorem de_callK {G : List D → List D → Store → Res D} {g gk : DA} (tk : Takes X W) (hr : Room k X.A) (F : FnGK X.prog X.w X.K X.mg X.base k f n ks C G) (hm : X.mg x = some (.ref f)) (hk : PySem.W.keepIn X.K (.ref f) = true) (ha : PA X (e :: es) (tA X.K C W g)) (hkw : PKD X C W kws gk)
    (hg : Gl X x := by rfl) (hall : (backToKw pos (keywordEach kws X.env)).all (·.1.isSome) = true := by rfl) (hks : (backToKw pos (keywordEach kws X.env)).filterMap (·.1) = ks := by rfl) (hdb : (x == ("__debug__" : Str)) = false := by decide) (he : starEach (e :: es) X.env = (false, eval e X.env) :: starEach es X.env := by rfl)
    (hpl : ((backTo pos (starEach (e :: es) X.env)).any (·.1) || (backToKw pos (keywordEach kws X.env)).any (·.1.isNone)) = false := by rfl) :
    PE X (.Call (.Name x p) (e :: es) kws pos) (tE X.K C W (eCallK n ks.length G g gk)) := by
  refine ⟨fun pins s σ H Q I ⟨c, m, r, nw, er, w⟩ => ?_⟩
  refine wpAny_Call_Name_kw (ld_glob I hg hm ?_ hdb)
  refine PySem.W.callWith_KW (h₀ := X.base) I.ok.mod.kin hk hall (thn (ha.run pos pins s σ H (fun vs H1 => tA X.K C W gk σ H1 fun zs H2 => vs.length = n ∧ zs.length = ks.length ∧ ∃ c m ds es, Now X.K C H2 c m ∧ Reps c ds vs ∧ Reps c es zs ∧ RW C Rep c (G ds es m) Q (WE W σ)) I
    (tA_bind nw er w fun c1 d m1 v n1 x1 er1 q w1 => tA_bind n1 er1 w1 fun c2 d2 m2 v2 n2 x2 er2 q2 w2 => ?_)) fun us s1 ⟨vs, H1, I1, r, q⟩ => ?_) hpl he
  · split at w2
    · rename_i h
      exact ⟨q.length.trans h.1, q2.length.trans h.2, c2, m2, d, d2, n2, q.mono x2 n1.s.wok, q2, w2⟩
    · exact False.elim w2
  · refine thn (hkw.h.run pos pins s1 σ H1 _ I1 q) fun ws s2 ⟨zs, H2, I2, rz, l1, l2, q2⟩ => ⟨I2.kIn, ?_⟩
    rw [hks]
    refine wpAny_call (codeAny_mono (F X.A X.stack s2 H2 us ws vs zs Q (WE W σ) hr I2.env0 r rz l1 l2 q2) fun r s' hq => ?_)
    cases r with
    | error e => exact passAt tk σ pins H2 s2 e s' I2 hq
    | ok fl =>
      cases fl with
      | ret u => exact I2.after hq
      | next => exact False.elim hq
      | brk => exact False.elim hq
      | cont => exact False.elim hq

/-! ### attributes -/
def fldD (j : Nat) (f : Str) : D → Store → Option D
  | .obj k fs, _ => if k = j then fs.lookup f else none
  | .loc n, m => match m[n]? with
    | some (some (.obj k fs)) => if k = j then fs.lookup f else none
    | _ => none
  | _, _ => none
def eFld (j : Nat) (f : Str) (fe : DE) : DE := fun r m => (fe r m).bind fun d m => ofO m (fldD j f d m)
/-- an instance as it stands: an immutable one, or a cell -/
def objD (j : Nat) : D → Store → Option (List (Str × D))
  | .obj k fs, _ => if k = j then some fs else none
  | .loc n, m => match m[n]? with
    | some (some (.obj k fs)) => if k = j then some fs else none
    | _ => none
  | _, _ => none
theorem objD_rep {K : PySem.W.Frag} {H : Hp} {c : RC} {mm : Store} {j : Nat} {d : D} {v : V} {fs : List (Str × D)} (n : Now K C H c mm) (q : Rep c d v) (h : objD j d mm = some fs) : ∃ a dx fvs, v = .ref a ∧ c.H a = some (.ins (C j) dx fvs) ∧ RepsK c fs fvs := by
  cases d with
  | obj k fs' =>
    simp only [objD] at h
    split at h
    · rename_i e
      cases h; subst e
      obtain ⟨a, dx, vs, e1, _, e2, r⟩ := q.obj_inv
      rw [n.C] at e2
      exact ⟨a, dx, vs, e1, e2, r⟩
    · cases h
  | loc i =>
    simp only [objD] at h
    split at h
    · rename_i k fs' e
      split at h
      · rename_i ek
        cases h; subst ek
        cases q with
        | loc eL =>
          obtain ⟨dx, vs, e2, r⟩ := n.s.cell _ _ _ eL e
          rw [n.C] at e2
          exact ⟨_, dx, vs, rfl, e2, r⟩
      · cases h
    · cases h
  | _ => simp [objD] at h
theorem fldD_eq (j : Nat) (f : Str) (d : D) (m : Store) : fldD j f d m = (objD j d m).bind fun fs => fs.lookup f := by
  cases d <;> simp only [fldD, objD, Option.bind_none] <;> split <;> try rfl
  split <;> rfl
theorem de_fld {j : Nat} {f : Str} {fe : DE} (cl : Cls X.K (C j)) (na : NoAttr X.K (C j) f) (he : PE X e (tE X.K C W fe)) (hb : attributeBase e f X.env (eval e X.env) = eval e X.env := by rfl) : PE X (.Attribute e f pos) (tE X.K C W (eFld j f fe)) :=
  PE.imp (pe_fld he hb) fun σ H Q ⟨c, m, r, n, er, w⟩ => tE_bind n er w fun c1 d m1 v n1 x1 er1 q w1 => by
    rw [fldD_eq] at w1
    cases e1 : objD j d m1 with
    | none => rw [e1] at w1; exact False.elim w1
    | some fs =>
      rw [e1] at w1
      obtain ⟨a, dx, fvs, e2, e3, r3⟩ := objD_rep n1 q e1
      cases e4 : fs.lookup f with
      | none => simp only [Option.bind_some, e4] at w1; exact False.elim w1
      | some d2 =>
        simp only [Option.bind_some, e4] at w1
        obtain ⟨v2, e5, q2⟩ := RepsK.lookup r3 e4
        exact ⟨a, C j, dx, fvs, v2, e2, e3, cl, na, e5, RW.now w1 n1.s q2⟩
/-- o.m(e, ..) of an instance of the j-th class -/
def eMeth (j : Nat) (nm : Str) (G : List D → Store → Res D) (fo : DE) (g : DA) : DE := fun r m => (fo r m).bind fun d m => match objD j d m with
  | some fs => if fs.lookup nm = none then (g r m).bind fun ds m => G (d :: ds) m else .bad
  | none => .bad
theorem de_meth {j : Nat} {G : List D → Store → Res D} {fo : DE} {g : DA} {pl : Sem Bool} (tk : Takes X W) (hr : Room k X.A) (c : Cls X.K (C j)) (hm : Meth X.K (C j) m f) (F : FnG X.prog X.w X.K X.mg X.base k f C G) (he : PE X o (tE X.K C W fo)) (ha : PA X (e :: es) (tA X.K C W g))
    (hst : starEach (e :: es) X.env = (false, eval e X.env) :: starEach es X.env := by rfl) (hpl : (backTo pos (starEach es X.env)).any (·.1) = false := by rfl)
    (ht : eval (.Call (.Attribute o m apos) (e :: es) [] pos) X.env = (do
      let ov ← eval o X.env
      standAt apos.atName
      let (f, first) ← holding [ov] (getMethod ov m pl)
      callWith pos f first (backTo pos (starEach (e :: es) X.env)) (backToKw pos (keywordEach [] X.env))) := by rfl) :
    PE X (.Call (.Attribute o m apos) (e :: es) [] pos) (tE X.K C W (eMeth j m G fo g)) := by
  refine ⟨fun pins s σ H Q I ⟨c0, m0, r0, n0, er0, w0⟩ => ?_⟩
  refine PySem.W.methodCall_KW (pl := pl) (thn (he.run pins s σ H (fun x H1 => ∃ a dx fs, x = .ref a ∧ H1 a = some (.ins (C j) dx fs) ∧ fs.lookup m = none ∧ tA X.K C W g σ H1 fun vs H2 => spG X.K C G (x :: vs) H2 Q (WE W σ)) I
    (tE_bind n0 er0 w0 fun c1 d m1 v n1 x1 er1 q w1 => ?_)) fun u s1 ⟨x, H1, I1, rx, a, dx, fs, ex, ea, l, q⟩ => ?_) ht
  · cases e1 : objD j d m1 with
    | none => simp only [e1] at w1; exact False.elim w1
    | some fs =>
      simp only [e1] at w1
      obtain ⟨a, dx, fvs, e2, e3, r3⟩ := objD_rep n1 q e1
      split at w1
      · rename_i hl
        refine ⟨a, dx, fvs, e2, e3, RepsK.lookup_none r3 hl, tA_bind n1 er1 w1 fun c2 d2 m2 v2 n2 x2 er2 q2 w2 => ?_⟩
        exact ⟨c2, m2, d :: d2, n2, .cons (q.mono x2 n1.s.wok) q2, w2⟩
      · exact False.elim w1
  · subst ex
    obtain rfl : u = Value.ref a := rx
    refine getmeth_ok I1 ea c hm l ?_
    refine PySem.W.callWith_K (first := [.ref a]) (h₀ := X.base) I.ok.mod.kin hm.kp (thn (ha.run pos pins s1 σ H1 _ I1 q) fun us s2 ⟨vs, H2, I2, r, q2⟩ => ⟨I2.kIn, ?_⟩) hst hpl
    exact run_fnG (us := .ref a :: us) (vs := .ref a :: vs) F hr (passAt tk σ) I2 (.cons rfl r) q2
theorem de_meth0 {j : Nat} {G : List D → Store → Res D} {fo : DE} {pl : Sem Bool} (tk : Takes X W) (hr : Room k X.A) (c : Cls X.K (C j)) (hm : Meth X.K (C j) m f) (F : FnG X.prog X.w X.K X.mg X.base k f C G) (he : PE X o (tE X.K C W fo))
    (ht : eval (.Call (.Attribute o m apos) [] [] pos) X.env = (do
      let ov ← eval o X.env
      standAt apos.atName
      let (f, first) ← holding [ov] (getMethod ov m pl)
      callWith pos f first (backTo pos (starEach [] X.env)) (backToKw pos (keywordEach [] X.env))) := by rfl) :
    PE X (.Call (.Attribute o m apos) [] [] pos) (tE X.K C W (eMeth j m G fo aNil)) := by
  refine ⟨fun pins s σ H Q I ⟨c0, m0, r0, n0, er0, w0⟩ => ?_⟩
  refine PySem.W.methodCall_KW (pl := pl) (thn (he.run pins s σ H (fun x H1 => ∃ a dx fs, x = .ref a ∧ H1 a = some (.ins (C j) dx fs) ∧ fs.lookup m = none ∧ spG X.K C G [x] H1 Q (WE W σ)) I
    (tE_bind n0 er0 w0 fun c1 d m1 v n1 x1 er1 q w1 => ?_)) fun u s1 ⟨x, H1, I1, rx, a, dx, fs, ex, ea, l, q⟩ => ?_) ht
  · cases e1 : objD j d m1 with
    | none => simp only [e1] at w1; exact False.elim w1
    | some fs =>
      simp only [e1] at w1
      obtain ⟨a, dx, fvs, e2, e3, r3⟩ := objD_rep n1 q e1
      split at w1
      · rename_i hl
        exact ⟨a, dx, fvs, e2, e3, RepsK.lookup_none r3 hl, c1, m1, [d], n1, .cons q .nil, w1⟩
      · exact False.elim w1
  · subst ex
    obtain rfl : u = Value.ref a := rx
    refine getmeth_ok I1 ea c hm l ?_
    exact PySem.W.callWith_K0 (first := [.ref a]) I1.kIn hm.kp (run_fnG (us := [.ref a]) (vs := [.ref a]) F hr (passAt tk σ) I1 (.cons rfl .nil) q)

/-! ### an instance made -/
def frz (n : Nat) (m : Store) : Res D := match m[n]? with
  | some (some d) => .ok d (m.set n none)
  | _ => .bad
noncomputable def mkD (j : Nat) (G : List D → Store → Res D) (ds : List D) (m : Store) : Res D := popR m ((G (.loc m.length :: ds) (m ++ [some (.obj j [])])).bind fun d m' => match d with
  | .non => frz m.length m'
  | _ => .bad)
noncomputable def eMake (j : Nat) (G : List D → Store → Res D) (g : DA) : DE := fun r m => (g r m).bind (mkD j G)
/-- .. that stays a cell -/
def mkM (j : Nat) (G : List D → Store → Res D) (ds : List D) (m : Store) : Res D := (G (.loc m.length :: ds) (m ++ [some (.obj j [])])).bind fun d m' => match d with
  | .non => .ok (.loc m.length) m'
  | _ => .bad
/-- what the making wants, from the wish at the end -/
def MkW (C : CE) (j : Nat) (sp : List V → Hp → VK → XK → Prop) (vs : List V) (H : Hp) (Q : VK) (E : XK) : Prop := ∀ x dx, H x = none → H dx = none → dx ≠ x → sp (.ref x :: vs) (upd (upd H dx (.own x)) x (.ins (C j) dx [])) (fun v H2 => v = .non ∧ Q (.ref x) H2) E
theorem RW.bind2 {α β γ δ : Type} {rep : RC → α → β → Prop} {rep' : RC → γ → δ → Prop} {c : RC} {x : Res α} {ff : α → Store → Res γ} {Q : δ → Hp → Prop} {E : XK} (h : RW C rep' c (x.bind ff) Q E) {R : β → Hp → Prop}
    (k : ∀ c' d m' v, Ext c c' → SRep c' m' → rep c' d v → RW C rep' c' (ff d m') Q E → R v c'.H) : RW C rep c x R E :=
  RW.imp (RW.bind (rep := rep) h) fun v H' ⟨c', d, m', e, x, s, q, w⟩ => by subst e; exact k c' d m' v x s q w
theorem mkM_ok {K : PySem.W.Frag} {H : Hp} {c : RC} {mm : Store} {j : Nat} {G : List D → Store → Res D} {ds : List D} {vs : List V} {Q : VK} {E : XK} (n : Now K C H c mm) (q : Reps c ds vs) (w : RW C Rep c (mkM j G ds mm) Q E) : MkW C j (spG K C G) vs H Q E := by
  intro x dx hx hdx hne
  have hH := n.H
  subst hH
  have hk : ∀ b u, c.H b = some u → upd (upd c.H dx (.own x)) x (.ins (C j) dx []) b = some u := fun b u h => by
    rw [upd_ne (ne_of_none h hx), upd_ne (ne_of_none h hdx)]; exact h
  have ex := cell_ext n.s hx hk
  have s1 : SRep (c.cell x (upd (upd c.H dx (.own x)) x (.ins (C j) dx []))) (mm ++ [some (.obj j [])]) := cell_rep n.s hx hk ⟨dx, [], by show upd _ x _ x = _; rw [upd_same, ← n.C]; rfl, .nil⟩
  have len : c.L.length = mm.length := n.s.len
  have ql : Rep (c.cell x (upd (upd c.H dx (.own x)) x (.ins (C j) dx []))) (.loc mm.length) (.ref x) := .loc (by show (c.L ++ [x])[_]? = _; rw [← len]; simp)
  refine ⟨c.cell x (upd (upd c.H dx (.own x)) x (.ins (C j) dx [])), mm ++ [some (.obj j [])], .loc mm.length :: ds, ⟨n.K, n.C, rfl, s1⟩, .cons ql (q.mono ex n.s.wok), ?_⟩
  have w2 := RW.ext w ex
  unfold mkM at w2
  refine RW.bind2 (rep := Rep) w2 fun c' d m' v x2 s2 q2 w3 => ?_
  cases d with
  | non => cases q2; exact ⟨rfl, RW.now w3 s2 (ql.mono x2 s1.wok)⟩
  | _ => exact False.elim w3
theorem mkD_ok {K : PySem.W.Frag} {H : Hp} {c : RC} {mm : Store} {j : Nat} {G : List D → Store → Res D} {ds : List D} {vs : List V} {Q : VK} {E : XK} (n : Now K C H c mm) (q : Reps c ds vs) (w : RW C Rep c (mkD j G ds mm) Q E) : MkW C j (spG K C G) vs H Q E := by
  intro x dx hx hdx hne
  have hH := n.H
  subst hH
  have hk : ∀ b u, c.H b = some u → upd (upd c.H dx (.own x)) x (.ins (C j) dx []) b = some u := fun b u h => by
    rw [upd_ne (ne_of_none h hx), upd_ne (ne_of_none h hdx)]; exact h
  have ex := cell_ext n.s hx hk
  have s1 : SRep (c.cell x (upd (upd c.H dx (.own x)) x (.ins (C j) dx []))) (mm ++ [some (.obj j [])]) := cell_rep n.s hx hk ⟨dx, [], by show upd _ x _ x = _; rw [upd_same, ← n.C]; rfl, .nil⟩
  have len : c.L.length = mm.length := n.s.len
  have eL : (c.cell x (upd (upd c.H dx (.own x)) x (.ins (C j) dx []))).L[mm.length]? = some x := by show (c.L ++ [x])[_]? = _; rw [← len]; simp
  refine ⟨c.cell x (upd (upd c.H dx (.own x)) x (.ins (C j) dx [])), mm ++ [some (.obj j [])], .loc mm.length :: ds, ⟨n.K, n.C, rfl, s1⟩, .cons (.loc eL) (q.mono ex n.s.wok), ?_⟩
  have w2 := RW.ext (RW.pop n.s w) ex
  refine RW.bind2 (rep := Rep) w2 fun c' d m' v x2 s2 q2 w3 => ?_
  cases d with
  | non =>
    cases q2
    refine ⟨rfl, ?_⟩
    have w3 : RW C Rep c' (frz mm.length m') Q E := w3
    unfold frz at w3
    have eL2 : c'.L[mm.length]? = some x := by
      obtain ⟨ml, hl⟩ := x2.L
      rw [hl, List.getElem?_append_left (List.getElem?_eq_some_iff.mp eL).1]; exact eL
    split at w3
    · rename_i d2 hd
      have := w3 (c'.thaw x) (.ref x) thaw_ext (thaw_rep s2 eL2) (cell_frozen s2 eL2 hd)
      exact this
    · exact False.elim w3
  | _ => exact False.elim w3
theorem run_makeG {j : Nat} {fI : Addr} {pins : List (Addr × Obj)} {σ : L2.St} {H : Hp} {s : Shared} {Q : VK} {us : List Value} {vs : List V} (M : Mk X.K (C j) fI) (F : FnR X.prog X.w X.K X.mg X.base (L2.CX X.prog X.w) k fI sp) (hr : Room (k + 1) X.A) (hx : PassesAt (L2.CX X.prog X.w) X σ E)
    (I : Inv X pins σ H s) (r : Vals vs us) (h : MkW C j sp vs H Q E) : wpAny (model X.prog X.w) X.A (call (.ref (C j)) us) (EP X pins σ Q) X.xe s := by
  have hq := h (s.heap.objs.size + 1) s.heap.objs.size (I.hok.fresh (Nat.le_succ _)) (I.hok.fresh (Nat.le_refl _)) (Nat.ne_of_lt (Nat.lt_succ_self _))
  have I2 := Inv.made (C := C j) I
  refine wpAny_call (make_map (f := fI) I.kIn M.makes M.init (beq_iff_eq.mp M.fn) (codeAny_mono (F _ X.stack _ _ (Value.ref (s.heap.objs.size + 1) :: us) (V.ref (s.heap.objs.size + 1) :: vs) _ E (hr.make (C j) us []) (I2.env0.make (C j) us []) (.cons rfl r) hq) fun r s' hq' => ?_))
  cases r with
  | error e => exact hx pins _ _ e s' I2 hq'
  | ok fl =>
    cases fl with
    | ret u =>
      obtain ⟨v, H', I3, rv, ev, q3⟩ := I2.after hq'
      subst ev
      exact ⟨rv, ⟨V.ref (s.heap.objs.size + 1), H', I3, rfl, q3⟩⟩
    | next => exact False.elim hq'
    | brk => exact False.elim hq'
    | cont => exact False.elim hq'
/-- C(e, ..), by what the making gives -/
theorem de_makeG {j : Nat} {fI : Addr} {G : List D → Store → Res D} {B : List D → Store → Res D} {g : DA} (hB : ∀ {K : PySem.W.Frag} {H : Hp} {c : RC} {mm : Store} {ds : List D} {vs : List V} {Q : VK} {E : XK}, Now K C H c mm → Reps c ds vs → RW C Rep c (B ds mm) Q E → MkW C j (spG K C G) vs H Q E)
    (tk : Takes X W) (hr : Room (k + 1) X.A) (M : Mk X.K (C j) fI) (F : FnG X.prog X.w X.K X.mg X.base k fI C G) (hm : X.mg x = some (.ref (C j))) (ha : PA X (e :: es) (tA X.K C W g))
    (hg : Gl X x := by rfl) (hdb : (x == ("__debug__" : Str)) = false := by decide) (he : starEach (e :: es) X.env = (false, eval e X.env) :: starEach es X.env := by rfl) (hpl : (backTo pos (starEach es X.env)).any (·.1) = false := by rfl) :
    PE X (.Call (.Name x p) (e :: es) [] pos) (tE X.K C W (eCall B g)) := by
  refine ⟨fun pins s σ H Q I ⟨c, m, r, n, er, w⟩ => ?_⟩
  refine wpAny_Call_Name_kw (ld_glob I hg hm ?_ hdb)
  refine PySem.W.callWith_K (h₀ := X.base) I.ok.mod.kin M.kp (thn (ha.run pos pins s σ H (fun vs H1 => MkW C j (spG X.K C G) vs H1 Q (WE W σ)) I (tA_bind n er w fun c1 d m1 v n1 x1 er1 q w1 => hB n1 q w1)) fun us s1 ⟨vs, H1, I1, r, q⟩ => ⟨I1.kIn, ?_⟩) he hpl
  exact run_makeG M F hr (passAt tk σ) I1 r q
theorem de_make {j : Nat} {fI : Addr} {G : List D → Store → Res D} {g : DA} (tk : Takes X W) (hr : Room (k + 1) X.A) (M : Mk X.K (C j) fI) (F : FnG X.prog X.w X.K X.mg X.base k fI C G) (hm : X.mg x = some (.ref (C j))) (ha : PA X (e :: es) (tA X.K C W g))
    (hg : Gl X x := by rfl) (hdb : (x == ("__debug__" : Str)) = false := by decide) (he : starEach (e :: es) X.env = (false, eval e X.env) :: starEach es X.env := by rfl) (hpl : (backTo pos (starEach es X.env)).any (·.1) = false := by rfl) :
    PE X (.Call (.Name x p) (e :: es) [] pos) (tE X.K C W (eCall (mkD j G) g)) := de_makeG (fun n q w => mkD_ok n q w) tk hr M F hm ha hg hdb he hpl
theorem de_makeM {j : Nat} {fI : Addr} {G : List D → Store → Res D} {g : DA} (tk : Takes X W) (hr : Room (k + 1) X.A) (M : Mk X.K (C j) fI) (F : FnG X.prog X.w X.K X.mg X.base k fI C G) (hm : X.mg x = some (.ref (C j))) (ha : PA X (e :: es) (tA X.K C W g))
    (hg : Gl X x := by rfl) (hdb : (x == ("__debug__" : Str)) = false := by decide) (he : starEach (e :: es) X.env = (false, eval e X.env) :: starEach es X.env := by rfl) (hpl : (backTo pos (starEach es X.env)).any (·.1) = false := by rfl) :
    PE X (.Call (.Name x p) (e :: es) [] pos) (tE X.K C W (eCall (mkM j G) g)) := de_makeG (fun n q w => mkM_ok n q w) tk hr M F hm ha hg hdb he hpl

/-! ### a property -/
def eProp (j : Nat) (G : List D → Store → Res D) (fo : DE) : DE := fun r m => (fo r m).bind fun d m => match objD j d m with
  | some _ => (G [d] m).bind fun a m => .ok a m
  | none => .bad
def noEx (x : Res D) : Res D := match x with
  | .ok d m => .ok d m
  | _ => .bad
def eProp' (j : Nat) (G : List D → Store → Res D) (fo : DE) : DE := fun r m => (fo r m).bind fun d m => match objD j d m with
  | some _ => noEx (G [d] m)
  | none => .bad
theorem de_prop {j : Nat} {f p g : Addr} {nm : Str} {G : List D → Store → Res D} {fo : DE} {fd : FuncData} {ps : List Str} (hr : Room (k + 1) X.A) (cl : Cls X.K (C j)) (hp : PropOf X.K (C j) nm p g) (F : FnOk X.prog X.w X.K X.mg X.base (L2.CX X.prog X.w) k g fd ps (spG X.K C G)) (hb : Binds X.K fd ps [])
    (he : PE X e (tE X.K C W fo)) (hab : attributeBase e nm X.env (eval e X.env) = eval e X.env := by rfl) : PE X (.Attribute e nm pos) (tE X.K C W (eProp' j G fo)) :=
  PE.imp (pe_prop he cl hp F hr hb .nil (passL (X := X.nox)) hab) fun σ H Q ⟨c, m, r, n, er, w⟩ => tE_bind n er w fun c1 d m1 v n1 x1 er1 q w1 => by
    cases e1 : objD j d m1 with
    | none => simp only [e1] at w1; exact False.elim w1
    | some fs =>
      simp only [e1] at w1
      obtain ⟨a, dx, fvs, e2, e3, r3⟩ := objD_rep n1 q e1
      refine ⟨a, dx, fvs, e2, e3, c1, m1, [d], n1, .cons (by rw [← e2]; exact q) .nil, ?_⟩
      cases e4 : G [d] m1 with
      | ok d2 m2 => rw [e4] at w1; exact w1
      | ex j2 fs2 m2 => rw [e4] at w1; exact False.elim w1
      | bad => rw [e4] at w1; exact w1
end
end DL
/-! DL6: operators, subscripts, slices. -/
namespace DL
open PySem PySem.Spec PyProof.Rows L2

section
variable {X : Cx} {C : CE} {W : WX}
variable {K : PySem.W.Frag} {c : RC} {m : Store} {d : D} {Q : VK}
/-- the wish at a flat result, at a new object -/
theorem k_at {v : V} (n : Now K C c.H c m) (k : ∀ c' v, Ext c c' → SRep c' m → Rep c' d v → Q v c'.H) (r : Rep c d v) : Q v c.H := k c v (Ext.refl c) n.s r
theorem k_lst {xs : List D} {vs : List V} (n : Now K C c.H c m) (k : ∀ c' v, Ext c c' → SRep c' m → Rep c' (.lst xs) v → Q v c'.H) (r : Reps c xs vs) (p : Addr) (hp : c.H p = none) : Q (.ref p) (upd c.H p (.lst vs)) :=
  k (c.put p (.lst vs)) (.ref p) (RC.put_ext n.s hp) (RC.put_rep n.s hp) (.lst' (RC.put_notW n.s hp) upd_same (r.mono (RC.put_ext n.s hp) n.s.wok))
theorem k_tup {xs : List D} {vs : List V} (n : Now K C c.H c m) (k : ∀ c' v, Ext c c' → SRep c' m → Rep c' (.tup xs) v → Q v c'.H) (r : Reps c xs vs) (p : Addr) (hp : c.H p = none) : Q (.ref p) (upd c.H p (.tup vs)) :=
  k (c.put p (.tup vs)) (.ref p) (RC.put_ext n.s hp) (RC.put_rep n.s hp) (.tup' (.inl (.inl upd_same)) (r.mono (RC.put_ext n.s hp) n.s.wok))
theorem k_dic {xs : List (Key × D)} {vs : List (Key × V)} (n : Now K C c.H c m) (k : ∀ c' v, Ext c c' → SRep c' m → Rep c' (.dic xs) v → Q v c'.H) (r : RepsK c xs vs) (p : Addr) (hp : c.H p = none) : Q (.ref p) (upd c.H p (.dK vs)) :=
  k (c.put p (.dK vs)) (.ref p) (RC.put_ext n.s hp) (RC.put_rep n.s hp) (.dic' (RC.put_notW n.s hp) (.inl upd_same) (r.mono (RC.put_ext n.s hp) n.s.wok))
theorem k_dit {xs : List (List Key × D)} {vs : List (List Key × V)} (n : Now K C c.H c m) (k : ∀ c' v, Ext c c' → SRep c' m → Rep c' (.dit xs) v → Q v c'.H) (r : RepsK c xs vs) (p : Addr) (hp : c.H p = none) : Q (.ref p) (upd c.H p (.dT vs)) :=
  k (c.put p (.dT vs)) (.ref p) (RC.put_ext n.s hp) (RC.put_rep n.s hp) (.dit' (RC.put_notW n.s hp) (.inl upd_same) (r.mono (RC.put_ext n.s hp) n.s.wok))

/-! ### + -/
def dAdd : D → D → Option D
  | .int i, .int j => some (.int (i + j))
  | .str x, .str y => if x.length + y.length ≤ sizeLine then some (.str (x ++ y)) else none
  | .lst xs, .lst ys => if xs.length + ys.length ≤ sizeLine then some (.lst (xs ++ ys)) else none
  | .scr ns, .lst ys => if ns.length + ys.length ≤ sizeLine then some (.lst (ns.map .int ++ ys)) else none
  | .tup xs, .tup ys => if xs.length + ys.length ≤ sizeLine then some (.tup (xs ++ ys)) else none
  | _, _ => none
theorem ints_reps (c : RC) : ∀ ns : List Int, Reps c (ns.map .int) (ns.map V.int)
  | [] => .nil
  | i :: ns => .cons (.int i) (ints_reps c ns)
/-- lists that stand in any way -/
def rCatG (K : PySem.W.Frag) : R2 := fun x y H Q => ∃ l b xs zs, x = .ref l ∧ y = .ref b ∧ SqL K H l xs ∧ SqL K H b zs ∧ xs.length + zs.length ≤ sizeLine ∧ ∀ p, H p = none → Q (.ref p) (upd H p (.lst (xs ++ zs)))
theorem op_catG : OpR X (binaryOp .Add) (rCatG X.K) := by
  intro pins s σ H x y v u Q I rx ry h
  obtain ⟨l, b, xs, zs, rfl, rfl, hl, hb, hz, q⟩ := h
  cases rx
  cases ry
  obtain ⟨its, rv, ⟨⟨k1, k2, k3, k4⟩, n, e, c1, c2, c3⟩, _⟩ := I.list hl
  obtain ⟨its2, rv2, ⟨⟨j1, j2, j3, j4⟩, n2, e2, d1, d2, d3⟩, _⟩ := I.list hb
  dsimp only at c1 c2 c3 d1 d2 d3
  subst c1 c3 d1 d3
  have h1 := rv.length
  have h2 := rv2.length
  refine PySem.concat_meets ⟨_, e, rfl⟩ ⟨_, e2, rfl⟩ noFill_list_add seq_list_add PySem.F.slot_list_add PySem.F.entry_list_add (PySem.F.args_list_add_2 _ _) (PyProof.Rows.list_addW l b its.toArray its2.toArray n n2 k2 j2 k4 j4 (by rw [List.size_toArray, List.size_toArray]; omega)) ⟨e, e2, ?_⟩
  have ea : its.toArray ++ its2.toArray = (its ++ its2).toArray := by simp
  rw [ea]
  exact ⟨.ref _, _, I.lnew (t' := s.toks) (rv.append rv2) (by rw [List.length_append]; omega), rfl, q _ I.fresh⟩
def rAddD (K : PySem.W.Frag) : R2 := fun x y H Q => (∃ i j, x = .int i ∧ y = .int j ∧ Q (.int (i + j)) H) ∨ ((∃ i j, x = .str i ∧ y = .str j ∧ i.length + j.length ≤ sizeLine ∧ Q (.str (i ++ j)) H) ∨ (rCatG K x y H Q ∨ rCatA K x y H Q))
theorem op_addD : OpR X (binaryOp .Add) (rAddD X.K) := OpR.or op_add (OpR.or op_add_str (OpR.or op_catG op_catA))
theorem od_add : OpD X C (rAddD X.K) dAdd := by
  intro c m a b d x y Q n qa qb e k
  unfold dAdd at e
  split at e
  · cases e; exact .inl ⟨_, _, qa.int_inv, qb.int_inv, k_at n k (.int _)⟩
  · split at e
    · rename_i h; cases e; exact .inr (.inl ⟨_, _, qa.str_inv, qb.str_inv, h, k_at n k (.str _)⟩)
    · cases e
  · split at e
    · rename_i h; cases e
      obtain ⟨p, vs, rfl, hp, r⟩ := qa.lst_inv
      obtain ⟨q, ws, rfl, hq, r2⟩ := qb.lst_inv
      exact .inr (.inr (.inl ⟨p, q, vs, ws, rfl, rfl, .inl (.inl hp), .inl (.inl hq), by rw [r.length, r2.length]; exact h, fun l hl => k_lst n k (Paired.append r r2) l hl⟩))
    · cases e
  · split at e
    · rename_i h; cases e
      obtain ⟨p, rfl, hp⟩ := qa.scr_inv
      obtain ⟨q, ws, rfl, hq, r2⟩ := qb.lst_inv
      rw [n.K] at hp
      exact .inr (.inr (.inl ⟨p, q, _, ws, rfl, rfl, hp, .inl (.inl hq), by rw [List.length_map, r2.length]; exact h, fun l hl => k_lst n k (Paired.append (ints_reps c _) r2) l hl⟩))
    · cases e
  · split at e
    · rename_i h; cases e
      obtain ⟨p, vs, rfl, hp, r⟩ := qa.tup_inv
      obtain ⟨q, ws, rfl, hq, r2⟩ := qb.tup_inv
      rw [n.K] at hp hq
      refine .inr (.inr (.inr ⟨p, q, vs, ws, rfl, rfl, hp, hq, by rw [r.length, r2.length]; exact h, fun e => ?_, fun _ e => ?_, fun _ _ l hl => k_tup n k (Paired.append r r2) l hl⟩))
      · subst e; cases r
        exact k_at n k (.tup' (by rw [n.K]; exact hq) r2)
      · subst e; cases r2
        rw [List.append_nil] at k
        exact k_at n k (.tup' (by rw [n.K]; exact hp) r)
    · cases e
  · cases e
/-! ### -, *, %, //, ** -/
def dSub : D → D → Option D
  | .int i, .int j => some (.int (i - j))
  | _, _ => none
theorem od_sub : OpD X C (rI0 fun i j => .int (i - j)) dSub := by
  intro c m a b d x y Q n qa qb e k
  unfold dSub at e
  split at e
  · cases e; exact ⟨_, _, qa.int_inv, qb.int_inv, k_at n k (.int _)⟩
  · cases e
/-- a size that the model's products take -/
def smallI (i : Int) : Bool := i.natAbs.log2 < 400000
def dMul : D → D → Option D
  | .int i, .int j => if smallI i && smallI j then some (.int (i * j)) else none
  | .lst xs, .int j => if -(2 ^ 63) ≤ j ∧ j < 2 ^ 63 ∧ xs.length * j.toNat ≤ sizeLine then some (.lst (List.replicate j.toNat xs).flatten) else none
  | _, _ => none
def rMulD : R2 := fun x y H Q => rI CMulW (fun i j => .int (i * j)) x y H Q ∨ rRep x y H Q
theorem op_mulD : OpR X (binaryOp .Mult) rMulD := OpR.or op_mulW op_rep
theorem Paired.flatRep {α β : Type} {F : α → β → Prop} {xs : List α} {ys : List β} (h : Paired F xs ys) : ∀ n : Nat, Paired F (List.replicate n xs).flatten (List.replicate n ys).flatten
  | 0 => .nil
  | n + 1 => by simpa [List.replicate_succ] using Paired.append h (Paired.flatRep h n)
theorem od_mul : OpD X C rMulD dMul := by
  intro c m a b d x y Q n qa qb e k
  unfold dMul at e
  split at e
  · split at e
    · rename_i h
      cases e
      simp only [Bool.and_eq_true, smallI, decide_eq_true_eq] at h
      exact .inl ⟨_, _, qa.int_inv, qb.int_inv, by unfold CMulW; omega, k_at n k (.int _)⟩
    · cases e
  · split at e
    · rename_i h
      cases e
      obtain ⟨p, vs, rfl, hp, r⟩ := qa.lst_inv
      exact .inr ⟨p, _, vs, rfl, qb.int_inv, hp, h.1, h.2.1, by rw [r.length]; exact h.2.2, fun l hl => k_lst n k (Paired.flatRep r _) l hl⟩
    · cases e
  · cases e
def dMod : D → D → Option D
  | .int i, .int j => if 0 < j then some (.int (i % j)) else none
  | _, _ => none
theorem od_mod : OpD X C (rI (fun _ j => 0 < j) fun i j => .int (i % j)) dMod := by
  intro c m a b d x y Q n qa qb e k
  unfold dMod at e
  split at e
  · split at e
    · rename_i h; cases e; exact ⟨_, _, qa.int_inv, qb.int_inv, h, k_at n k (.int _)⟩
    · cases e
  · cases e
def dDiv : D → D → Option D
  | .int i, .int j => if 0 < j ∧ j.natAbs.log2 < 9000 then some (.int (i / j)) else none
  | _, _ => none
theorem od_div : OpD X C (rI CDivW fun i j => .int (i / j)) dDiv := by
  intro c m a b d x y Q n qa qb e k
  unfold dDiv at e
  split at e
  · split at e
    · rename_i h; cases e; exact ⟨_, _, qa.int_inv, qb.int_inv, h, k_at n k (.int _)⟩
    · cases e
  · cases e
def dPow : D → D → Option D
  | .int i, .int j => if 0 ≤ j ∧ j ≤ 1000000 ∧ i.natAbs < 2 ^ 64 then some (.int (i ^ j.toNat)) else none
  | _, _ => none
theorem od_pow : OpD X C (rI CPow fun i j => .int (i ^ j.toNat)) dPow := by
  intro c m a b d x y Q n qa qb e k
  unfold dPow at e
  split at e
  · split at e
    · rename_i h; cases e; exact ⟨_, _, qa.int_inv, qb.int_inv, h, k_at n k (.int _)⟩
    · cases e
  · cases e
section
variable {a b : Expr} {fa fb : DE} {pos : Pos}
theorem de_add (ha : PE X a (tE X.K C W fa)) (hb : PE X b (tE X.K C W fb)) : PE X (.BinOp a .Add b pos) (tE X.K C W (eBin dAdd fa fb)) := de_bin op_addD od_add ha hb
theorem de_sub (ha : PE X a (tE X.K C W fa)) (hb : PE X b (tE X.K C W fb)) : PE X (.BinOp a .Sub b pos) (tE X.K C W (eBin dSub fa fb)) := de_bin op_sub od_sub ha hb
theorem de_mul (ha : PE X a (tE X.K C W fa)) (hb : PE X b (tE X.K C W fb)) : PE X (.BinOp a .Mult b pos) (tE X.K C W (eBin dMul fa fb)) := de_bin op_mulD od_mul ha hb
theorem de_mod (ha : PE X a (tE X.K C W fa)) (hb : PE X b (tE X.K C W fb)) : PE X (.BinOp a .Mod b pos) (tE X.K C W (eBin dMod fa fb)) := de_bin op_mod od_mod ha hb
theorem de_div (ha : PE X a (tE X.K C W fa)) (hb : PE X b (tE X.K C W fb)) : PE X (.BinOp a .FloorDiv b pos) (tE X.K C W (eBin dDiv fa fb)) := de_bin op_fdivW od_div ha hb
theorem de_pow (ha : PE X a (tE X.K C W fa)) (hb : PE X b (tE X.K C W fb)) : PE X (.BinOp a .Pow b pos) (tE X.K C W (eBin dPow fa fb)) := de_bin op_pow od_pow ha hb
end
def eNeg (fa : DE) : DE := fun r m => (fa r m).bind fun a m => match vw m a with | .int i => .ok (.int (-i)) m | _ => .bad
theorem de_neg {a : Expr} {fa : DE} {pos : Pos} (ha : PE X a (tE X.K C W fa)) : PE X (.UnaryOp .USub a pos) (tE X.K C W (eNeg fa)) :=
  PE.imp (pe_un un_neg ha) fun σ H Q ⟨c, m, r, n, er, w⟩ => tE_bind n er w fun c1 d m1 v n1 x1 er1 q w1 => by
    have s := q.sees n1.s
    split at w1
    · rename_i i e
      rw [e] at s
      exact ⟨i, s.int_inv, RW.now w1 n1.s (.int _)⟩
    · exact False.elim w1

/-! ### comparisons -/
mutual
def toPy : D → Option PyData
  | .non => some .none
  | .bl b => some (.bool b)
  | .int i => some (.int i)
  | .str x => some (.str x)
  | .lst xs => match toPyL xs with | some l => some (.list l) | none => none
  | .tup xs => match toPyL xs with | some l => some (.tuple l) | none => none
  | .scr ns => some (.list (ns.map .int))
  | _ => none
def toPyL : List D → Option (List PyData)
  | [] => some []
  | d :: ds => match toPy d, toPyL ds with | some e, some l => some (e :: l) | _, _ => none
end
theorem dpAll_ints (c : RC) : ∀ ns : List Int, DpAll c.K c.H (ns.map V.int) (ns.map .int)
  | [] => .nil
  | i :: ns => .cons (.int i) (dpAll_ints c ns)
theorem Rep.dp {c : RC} {d : D} {v : V} (h : Rep c d v) : ∀ {e : PyData}, toPy d = some e → Dp c.K c.H v e := by
  induction h with
  | non => intro e h; simp [toPy] at h; subst h; exact .non
  | bl b => intro e h; simp [toPy] at h; subst h; exact .bl b
  | int b => intro e h; simp [toPy] at h; subst h; exact .int b
  | str b => intro e h; simp [toPy] at h; subst h; exact .str b
  | adr a => intro e h; simp [toPy] at h
  | @lst a xs vs w s l h ih =>
    intro e he
    simp only [toPy] at he
    split at he
    · rename_i pl hpl
      cases he
      refine .lst (.inl (.inl s)) ?_
      clear s
      induction xs generalizing vs pl with
      | nil => simp [toPyL] at hpl; subst hpl; cases vs with | nil => exact .nil | cons _ _ => simp at l
      | cons x xs ihx =>
        cases vs with
        | nil => simp at l
        | cons v vs =>
          simp only [toPyL] at hpl
          split at hpl
          · rename_i e1 l1 h1 h2
            cases hpl
            exact .cons (ih 0 x v rfl rfl h1) (ihx (by simpa using l) (fun i d v a b => h (i + 1) d v (by simpa using a) (by simpa using b)) (fun i d v a b => ih (i + 1) d v (by simpa using a) (by simpa using b)) _ h2)
          · cases hpl
    · cases he
  | @tup a xs vs s l h ih =>
    intro e he
    simp only [toPy] at he
    split at he
    · rename_i pl hpl
      cases he
      refine .tup s ?_
      clear s
      induction xs generalizing vs pl with
      | nil => simp [toPyL] at hpl; subst hpl; cases vs with | nil => exact .nil | cons _ _ => simp at l
      | cons x xs ihx =>
        cases vs with
        | nil => simp at l
        | cons v vs =>
          simp only [toPyL] at hpl
          split at hpl
          · rename_i e1 l1 h1 h2
            cases hpl
            exact .cons (ih 0 x v rfl rfl h1) (ihx (by simpa using l) (fun i d v a b => h (i + 1) d v (by simpa using a) (by simpa using b)) (fun i d v a b => ih (i + 1) d v (by simpa using a) (by simpa using b)) _ h2)
          · cases hpl
    · cases he
  | dic w s l h ih => intro e h; simp [toPy] at h
  | dit w s l h ih => intro e h; simp [toPy] at h
  | @scr a ns s => intro e h; simp [toPy] at h; subst h; exact .lst (sqL_of s) (dpAll_ints c ns)
  | set w s => intro e h; simp [toPy] at h
  | obj w s l h ih => intro e h; simp [toPy] at h
  | loc e => intro e h; simp [toPy] at h
theorem Reps.dp {c : RC} : ∀ {xs : List D} {vs : List V} {l : List PyData}, Reps c xs vs → toPyL xs = some l → DpAll c.K c.H vs l
  | [], _, l, .nil, h => by simp [toPyL] at h; subst h; exact .nil
  | x :: xs, v :: vs, l, .cons r t, h => by
    simp only [toPyL] at h
    split at h
    · rename_i e1 l1 h1 h2
      cases h
      exact .cons (r.dp h1) (Reps.dp t h2)
    · cases h
theorem Sees.dp {c : RC} {d : D} {v : V} (h : Sees c d v) {e : PyData} (he : toPy d = some e) : Dp c.K c.H v e := by
  cases d with
  | non => rw [h.non_inv]; simp [toPy] at he; subst he; exact .non
  | bl b => rw [h.bl_inv]; simp [toPy] at he; subst he; exact .bl b
  | int b => rw [h.int_inv]; simp [toPy] at he; subst he; exact .int b
  | str b => rw [h.str_inv]; simp [toPy] at he; subst he; exact .str b
  | lst xs =>
    obtain ⟨a, vs, rfl, s, r⟩ := h.lst_inv
    simp only [toPy] at he
    split at he
    · rename_i l hl; cases he; exact .lst (.inl (.inl s)) (r.dp hl)
    · cases he
  | tup xs =>
    obtain ⟨a, vs, rfl, s, r⟩ := h.tup_inv
    simp only [toPy] at he
    split at he
    · rename_i l hl; cases he; exact .tup s (r.dp hl)
    · cases he
  | scr ns =>
    obtain ⟨a, rfl, s⟩ := h.scr_inv
    simp [toPy] at he; subst he
    exact .lst s (dpAll_ints c ns)
  | _ => simp [toPy] at he
/-- == of data -/
def eqDat (a b : D) : Option Bool := match flatD a, flatD b with
  | some x, some y => if scal x y = true then some (decide (x = y)) else none
  | _, _ => match toPy a, toPy b with
    | some d, some e => if SeqAt.shaped d = true ∧ SeqAt.shaped e = true then some (PyData.eqv d e) else none
    | _, _ => none
/-- a dict and an empty one -/
def noneD : D → D → Option Bool
  | .dic ks, .dic [] => some ks.isEmpty
  | _, _ => none
def dEq (a b : D) : Option D := match noneD a b with
  | some k => some (.bl k)
  | none => match eqDat a b with | some k => some (.bl k) | none => none
def dNe (a b : D) : Option D := match noneD a b with
  | some k => some (.bl (!k))
  | none => match eqDat a b with | some k => some (.bl (!k)) | none => none
def rEq0 (neg : Bool) : R2 := fun x y H Q => ∃ a b ks, x = .ref a ∧ y = .ref b ∧ Rd H a (.dK ks) ∧ Rd H b (.dK []) ∧ Q (.bl (if neg then !ks.isEmpty else ks.isEmpty)) H
theorem op_eq0 (hu : X.A.units < cLine) : OpR X (compareOp .Eq) (rEq0 false) := by
  intro pins s σ H x y v u Q I rx ry h
  obtain ⟨a, b, ks, rfl, rfl, ea, eb, q⟩ := h
  obtain rfl : v = Value.ref a := rx
  obtain rfl : u = Value.ref b := ry
  obtain ⟨_, ya, va, ra, da⟩ := dk_rd I.hok ea
  obtain ⟨_, yb, vb, rb, db⟩ := dk_rd I.hok eb
  have hl : vb.length = 0 := by rw [← rb.length]; rfl
  have hk : va.length = ks.length := ra.length.symm
  refine PySem.W.keq_eq (knd := mixKind X.prog X.w) (r := true) ya yb da db hu (fun e => ?_) (fin_bl I q ?_)
  · have : va = [] := List.eq_nil_of_length_eq_zero (e.trans hl)
    subst this; exact .nil
  · rw [hl, hk]; cases ks <;> simp
theorem op_ne0 (hu : X.A.units < cLine) : OpR X (compareOp .NotEq) (rEq0 true) := by
  intro pins s σ H x y v u Q I rx ry h
  obtain ⟨a, b, ks, rfl, rfl, ea, eb, q⟩ := h
  obtain rfl : v = Value.ref a := rx
  obtain rfl : u = Value.ref b := ry
  obtain ⟨_, ya, va, ra, da⟩ := dk_rd I.hok ea
  obtain ⟨_, yb, vb, rb, db⟩ := dk_rd I.hok eb
  have hl : vb.length = 0 := by rw [← rb.length]; rfl
  have hk : va.length = ks.length := ra.length.symm
  refine PySem.W.keq_ne (knd := mixKind X.prog X.w) (r := true) ya yb da db hu (fun e => ?_) (fin_bl I q ?_)
  · have : va = [] := List.eq_nil_of_length_eq_zero (e.trans hl)
    subst this; exact .nil
  · rw [hl, hk]; cases ks <;> simp
theorem noneD_ok {c : RC} {a b : D} {x y : V} {k neg : Bool} {Q : VK} (qa : Sees c a x) (qb : Sees c b y) (h : noneD a b = some k) (q : Q (.bl (if neg then !k else k)) c.H) : rEq0 neg x y c.H Q := by
  unfold noneD at h
  split at h
  · cases h
    obtain ⟨p, vs, rfl, hp, rp⟩ := qa.dic_inv
    obtain ⟨p2, vs2, rfl, hp2, rp2⟩ := qb.dic_inv
    cases rp2
    have e : ∀ {ks : List (Key × D)} {vs : List (Key × V)}, RepsK c ks vs → ks.isEmpty = vs.isEmpty := fun r => by cases r <;> rfl
    rw [e rp] at q
    exact ⟨p, p2, vs, rfl, rfl, hp, hp2, q⟩
  · cases h
def rEqDD (K : PySem.W.Frag) : R2 := fun x y H Q => rEq0 false x y H Q ∨ (rEq x y H Q ∨ rEqD K x y H Q)
def rNeDD (K : PySem.W.Frag) : R2 := fun x y H Q => rEq0 true x y H Q ∨ (rNe x y H Q ∨ rNeD K x y H Q)
theorem op_eqDD (hu : X.A.units + 64 < cLine) : OpR X (compareOp .Eq) (rEqDD X.K) := OpR.or (op_eq0 (by omega)) (OpR.or op_eq (op_eqD hu))
theorem op_neDD (hu : X.A.units + 64 < cLine) : OpR X (compareOp .NotEq) (rNeDD X.K) := OpR.or (op_ne0 (by omega)) (OpR.or op_ne (op_neD hu))
theorem od_eq : OpD X C (rEqDD X.K) dEq := by
  intro c m a b d x y Q n qa qb e k
  unfold dEq at e
  split at e
  · rename_i k0 h0
    cases e
    exact .inl (noneD_ok (neg := false) qa qb h0 (k_at n k (.bl _)))
  refine .inr ?_
  split at e
  · rename_i kk h
    cases e
    unfold eqDat at h
    split at h
    · rename_i u v h1 h2
      split at h
      · rename_i hs
        cases h
        rw [qa.flat_inv h1, qb.flat_inv h2]
        exact .inl ⟨hs, k_at n k (.bl _)⟩
      · cases h
    · split at h
      · rename_i d1 e1 h1 h2
        split at h
        · rename_i hs
          cases h
          have z1 := qa.dp h1
          have z2 := qb.dp h2
          rw [n.K] at z1 z2
          exact .inr ⟨d1, e1, z1, z2, hs.1, hs.2, k_at n k (.bl _)⟩
        · cases h
      · cases h
  · cases e
theorem od_ne : OpD X C (rNeDD X.K) dNe := by
  intro c m a b d x y Q n qa qb e k
  unfold dNe at e
  split at e
  · rename_i k0 h0
    cases e
    exact .inl (noneD_ok (neg := true) qa qb h0 (k_at n k (.bl _)))
  refine .inr ?_
  split at e
  · rename_i kk h
    cases e
    unfold eqDat at h
    split at h
    · rename_i u v h1 h2
      split at h
      · rename_i hs
        cases h
        rw [qa.flat_inv h1, qb.flat_inv h2]
        exact .inl ⟨hs, k_at n k (.bl _)⟩
      · cases h
    · split at h
      · rename_i d1 e1 h1 h2
        split at h
        · rename_i hs
          cases h
          have z1 := qa.dp h1
          have z2 := qb.dp h2
          rw [n.K] at z1 z2
          exact .inr ⟨d1, e1, z1, z2, hs.1, hs.2, k_at n k (.bl _)⟩
        · cases h
      · cases h
  · cases e
def dCmp (p : Int → Int → Bool) : D → D → Option D
  | .int i, .int j => some (.bl (p i j))
  | _, _ => none
theorem od_cmp {p : Int → Int → Bool} : OpD X C (rI0 fun i j => .bl (p i j)) (dCmp p) := by
  intro c m a b d x y Q n qa qb e k
  unfold dCmp at e
  split at e
  · cases e; exact ⟨_, _, qa.int_inv, qb.int_inv, k_at n k (.bl _)⟩
  · cases e
abbrev dLt := dCmp fun i j => decide (i < j)
abbrev dLe := dCmp fun i j => decide (i ≤ j)
abbrev dGt := dCmp fun i j => decide (j < i)
abbrev dGe := dCmp fun i j => decide (j ≤ i)
def isNonD : D → Bool
  | .non => true
  | _ => false
def dIs : D → D → Option D
  | a, .non => match a with | .loc _ => none | a => some (.bl (isNonD a))
  | _, _ => none
def dIsNot : D → D → Option D
  | a, .non => match a with | .loc _ => none | a => some (.bl (!isNonD a))
  | _, _ => none
theorem Sees.isNon {c : RC} {d : D} {v : V} (h : Sees c d v) (hl : ∀ n, d ≠ .loc n) : decide (v = V.non) = isNonD d := by
  cases h with
  | @flat d v h => cases d <;> simp [flatD] at h <;> subst h <;> simp [isNonD]
  | loc n v => exact absurd rfl (hl n)
  | _ => simp [isNonD]
theorem od_is : OpD X C (fun x y H Q => y = .non ∧ Q (.bl (decide (x = .non))) H) dIs := by
  intro c m a b d x y Q n qa qb e k
  unfold dIs at e
  split at e
  · split at e
    · cases e
    · rename_i hl; cases e
      exact ⟨qb.non_inv, by rw [qa.isNon (fun n z => hl n z)]; exact k_at n k (.bl _)⟩
  · cases e
theorem od_isNot : OpD X C (fun x y H Q => y = .non ∧ Q (.bl (!decide (x = .non))) H) dIsNot := by
  intro c m a b d x y Q n qa qb e k
  unfold dIsNot at e
  split at e
  · split at e
    · cases e
    · rename_i hl; cases e
      exact ⟨qb.non_inv, by rw [qa.isNon (fun n z => hl n z)]; exact k_at n k (.bl _)⟩
  · cases e
/-! in, not in -/
def keyD : D → Option Key
  | .int i => some (.inl i)
  | .str x => some (.inr x)
  | _ => none
def valD {κ : Type} [DecidableEq κ] (kvs : List (κ × D)) (k : κ) : Option D := (kvs.find? fun kv => decide (kv.1 = k)).map (·.2)
theorem keyD_inv {c : RC} {d : D} {v : V} {k : Key} (h : Sees c d v) (e : keyD d = some k) : v = kV k := by
  cases d <;> simp [keyD] at e
  · subst e; exact h.int_inv
  · subst e; exact h.str_inv
theorem valD_rep {c : RC} {κ : Type} [DecidableEq κ] {k : κ} : ∀ {xs : List (κ × D)} {vs : List (κ × V)}, RepsK c xs vs → (valD xs k = none ∧ valV vs k = none) ∨ ∃ d v, valD xs k = some d ∧ valV vs k = some v ∧ Rep c d v
  | _, _, .nil => .inl ⟨rfl, rfl⟩
  | (a, x) :: xs, (b, y) :: vs, .cons r t => by
    obtain ⟨r1, r2⟩ := r
    simp only at r1; subst r1
    unfold valD valV
    simp only [List.find?_cons]
    by_cases e : a = k
    · simp only [e, decide_true]
      exact .inr ⟨x, y, rfl, rfl, r2⟩
    · simp only [e, decide_false]
      exact valD_rep t
theorem valD_isSome {c : RC} {κ : Type} [DecidableEq κ] {k : κ} {xs : List (κ × D)} {vs : List (κ × V)} (r : RepsK c xs vs) : (valV vs k).isSome = (valD xs k).isSome := by
  rcases valD_rep (k := k) r with ⟨h1, h2⟩ | ⟨d, v, h1, h2, _⟩ <;> rw [h1, h2] <;> rfl
def flatsD : List D → Option (List V)
  | [] => some []
  | d :: ds => match flatD d, flatsD ds with | some v, some l => some (v :: l) | _, _ => none
theorem flatsD_inv {c : RC} : ∀ {xs : List D} {vs : List V} {l : List V}, Reps c xs vs → flatsD xs = some l → vs = l ∧ l.all flatV = true
  | [], _, l, .nil, h => by simp [flatsD] at h; subst h; exact ⟨rfl, rfl⟩
  | x :: xs, v :: vs, l, .cons r t, h => by
    simp only [flatsD] at h
    split at h
    · rename_i e1 l1 h1 h2
      cases h
      obtain ⟨h3, h4⟩ := flatsD_inv t h2
      have h5 := (r.sees0).flat_inv h1
      subst h3 h5
      refine ⟨rfl, ?_⟩
      simp only [List.all_cons, Bool.and_eq_true]
      refine ⟨?_, h4⟩
      cases x <;> simp [flatD] at h1 <;> subst h1 <;> rfl
    · cases h
theorem flatD_flatV {d : D} {v : V} (h : flatD d = some v) : flatV v = true := by cases d <;> simp [flatD] at h <;> subst h <;> rfl
/-- is it in there -/
def inD (a : D) : D → Option Bool
  | .str z => match a with
    | .str s => if s.cps.size = 1 then some (decide (s.cps.getD 0 0 ∈ z.cps.toList)) else none
    | _ => none
  | .lst ys => match flatD a, flatsD ys with
    | some v, some l => some (inV v l)
    | _, _ => match toPy a, toPy (.lst ys) with
      | some d, some (.list ds) => if SeqAt.shaped d = true ∧ SeqAt.shaped (.list ds) = true then some (ds.any fun z => PyData.eqv z d) else none
      | _, _ => none
  | .tup ys => match flatD a, flatsD ys with
    | some v, some l => some (inV v l)
    | _, _ => none
  | .dic kvs => match keyD a with
    | some k => some (valD kvs k).isSome
    | none => none
  | _ => none
def inS : D → D → Option Bool
  | .str x, .set ks => some (decide (x ∈ ks))
  | _, _ => none
def dIn (a b : D) : Option D := match inD a b with | some k => some (.bl k) | none => none
def dNotIn (a b : D) : Option D := match inD a b with | some k => some (.bl (!k)) | none => none
def rInG (K : PySem.W.Frag) (neg : Bool) : R2 := fun x y H Q =>
  (∃ (c : Nat) (z : Str), x = .str ⟨#[c]⟩ ∧ y = .str z ∧ Q (.bl (if neg then !decide (c ∈ z.cps.toList) else decide (c ∈ z.cps.toList))) H) ∨ (rIn K neg x y H Q ∨
    ((if neg then rNotInD K x y H Q else rInD K x y H Q) ∨ ∃ a o, y = .ref a ∧ DGet H a x o ∧ Q (.bl (if neg then !o.isSome else o.isSome)) H))
theorem op_inG (hu : X.A.units + 65 < cLine) : OpR X (compareOp .In) (rInG X.K false) :=
  OpR.or op_in_sign (OpR.or op_in_seq (OpR.or (op_inD hu) fun pins s σ H x y v u Q I rx ry ⟨a, o, e, g, q⟩ => by
    subst e
    obtain rfl : u = Value.ref a := ry
    exact d_in (by omega) I g rx fun s3 I3 => ⟨.bl o.isSome, H, I3, rfl, q⟩))
theorem op_notInG (hu : X.A.units + 65 < cLine) : OpR X (compareOp .NotIn) (rInG X.K true) :=
  OpR.or op_notIn_sign (OpR.or op_notIn_seq (OpR.or (op_notInD hu) fun pins s σ H x y v u Q I rx ry ⟨a, o, e, g, q⟩ => by
    subst e
    obtain rfl : u = Value.ref a := ry
    exact d_notIn (by omega) I g rx fun s3 I3 => ⟨.bl (!o.isSome), H, I3, rfl, q⟩))
theorem inD_ok {K : PySem.W.Frag} {C : CE} {c : RC} {m : Store} {a b : D} {x y : V} {k neg : Bool} {Q : VK} (n : Now K C c.H c m) (qa : Sees c a x) (qb : Sees c b y) (e : inD a b = some k) (q : Q (.bl (if neg then !k else k)) c.H) : rInG K neg x y c.H Q := by
  unfold inD at e
  split at e
  · split at e
    · rename_i z _ s
      split at e
      · rename_i h
        cases e
        refine .inl ⟨s.cps.getD 0 0, z, ?_, qb.str_inv, q⟩
        rw [qa.str_inv]
        obtain ⟨⟨l⟩⟩ := s
        match l, h with
        | [u], _ => rfl
      · cases e
    · cases e
  · split at e
    · rename_i v l h1 h2
      cases e
      obtain ⟨p, vs, rfl, hp, r⟩ := qb.lst_inv
      obtain ⟨h3, h4⟩ := flatsD_inv r h2
      subst h3
      rw [qa.flat_inv h1]
      exact .inr (.inl ⟨p, vs, rfl, .inl (.inl (.inl hp)), flatD_flatV h1, h4, q⟩)
    · split at e
      · rename_i d ds h1 h2
        split at e
        · rename_i h3
          cases e
          have z1 := qa.dp h1
          have z2 := qb.dp h2
          rw [n.K] at z1 z2
          refine .inr (.inr (.inl ?_))
          cases neg with
          | true => exact ⟨d, ds, z1, z2, h3.1, h3.2, q⟩
          | false => exact ⟨d, ds, z1, z2, h3.1, h3.2, q⟩
        · cases e
      · cases e
  · split at e
    · rename_i v l h1 h2
      cases e
      obtain ⟨p, vs, rfl, hp, r⟩ := qb.tup_inv
      rw [n.K] at hp
      obtain ⟨h3, h4⟩ := flatsD_inv r h2
      subst h3
      rw [qa.flat_inv h1]
      exact .inr (.inl ⟨p, vs, rfl, .inr hp, flatD_flatV h1, h4, q⟩)
    · cases e
  · split at e
    · rename_i k h1
      cases e
      obtain ⟨p, vs, rfl, hp, r⟩ := qb.dic_inv
      refine .inr (.inr (.inr ⟨p, _, rfl, .inl ⟨vs, k, hp, keyD_inv qa h1, rfl⟩, ?_⟩))
      rw [valD_isSome r]
      exact q
    · cases e
  · cases e
theorem od_in : OpD X C (rInG X.K false) dIn := by
  intro c m a b d x y Q n qa qb e k
  unfold dIn at e
  split at e
  · rename_i kk h; cases e; exact inD_ok (neg := false) n qa qb h (k_at n k (.bl _))
  · cases e
theorem od_notIn : OpD X C (rInG X.K true) dNotIn := by
  intro c m a b d x y Q n qa qb e k
  unfold dNotIn at e
  split at e
  · rename_i kk h; cases e; exact inD_ok (neg := true) n qa qb h (k_at n k (.bl _))
  · cases e
end
end DL
/-! DL7: subscripts, slices, changes of cells, methods of built-in types. -/
namespace DL
open PySem PySem.Spec PyProof.Rows L2

section
variable {X : Cx} {C : CE} {W : WX}
/-! ### x[i] -/
def rIxDic : R2 := fun x y H Q => ∃ a v, x = .ref a ∧ DGet H a y (some v) ∧ Q v H
theorem ix_dic (hu : X.A.units + 1 < cLine) : IxR X rIxDic := by
  intro value slice pins s σ H x y v u Q I rx ry h hs
  obtain ⟨a, w, rfl, g, q⟩ := h
  cases rx
  have hT := dict_typeIs I g
  have h2 : wpAny (model X.prog X.w) X.A (getItem (.ref a) u) (EP X pins σ Q) X.xe s := d_getItem hu I g ry fun w' s3 I3 rw' => ⟨w, H, I3, rw', q⟩
  unfold subscriptTail
  refine wpAny_bind ?_
  rw [getitemInPython_of_ne hT.not_modules]
  refine wpAny_bind (wpAny_specialOf hT PySem.F.slot_dict_getitem.lookup ?_)
  have fin : wpAny (model X.prog X.w) X.A (subscripted slice false (.ref a) u) (fun r s₃ => wpAny (model X.prog X.w) X.A (letTemporaryGo value (.ref a) r >>= fun _ => pure r) (EP X pins σ Q) X.xe s₃) X.xe s := by
    rw [hs]
    exact wpAny_operating (wpAny_mono h2 (fun r s₃ h₃ => wpAny_bind (wpAny_letTemporaryGo (wpAny_pure h₃))) fun _ _ x => x)
  first
    | exact wpAny_pure (wpAny_bind fin)
    | exact wpAny_bind (wpAny_pure (wpAny_bind fin))
    | exact wpAny_bind fin
def dIx : D → D → Option D
  | .lst xs, .int i => atI xs i
  | .tup xs, .int i => atI xs i
  | .str z, .int i => if z.length ≤ sizeLine then (atI z.cps.toList i).map fun c => .str ⟨#[c]⟩ else none
  | .dic kvs, k => match keyD k with | some k => valD kvs k | none => none
  | _, _ => none
theorem atI_rep {c : RC} {xs : List D} {vs : List V} {i : Int} {d : D} (r : Reps c xs vs) (h : atI xs i = some d) : ∃ v, atI vs i = some v ∧ Rep c d v := by
  unfold atI at h ⊢
  rw [r.length]
  cases e : ixN xs.length i with
  | none => rw [e] at h; cases h
  | some j =>
    rw [e] at h
    exact Paired.get r h
def rIxD (K : PySem.W.Frag) : R2 := fun x y H Q => rIx K x y H Q ∨ rIxDic x y H Q
theorem od_ix : OpD X C (rIxD X.K) dIx := by
  intro c m a b d x y Q n qa qb e k
  unfold dIx at e
  split at e
  · obtain ⟨p, vs, rfl, hp, r⟩ := qa.lst_inv
    obtain ⟨v, h1, h2⟩ := atI_rep r e
    exact .inl (.inl ⟨p, vs, _, v, rfl, qb.int_inv, .inl (.inl hp), h1, k_at n k h2⟩)
  · obtain ⟨p, vs, rfl, hp, r⟩ := qa.tup_inv
    rw [n.K] at hp
    obtain ⟨v, h1, h2⟩ := atI_rep r e
    exact .inl (.inr (.inl ⟨p, vs, _, v, rfl, qb.int_inv, hp, h1, k_at n k h2⟩))
  · split at e
    · rename_i z i hz
      obtain ⟨cc, h1, h2⟩ := Option.map_eq_some_iff.mp e
      subst h2
      exact .inl (.inr (.inr ⟨z, i, cc, qa.str_inv, qb.int_inv, hz, h1, k_at n k (.str _)⟩))
    · cases e
  · split at e
    · rename_i kk hk
      obtain ⟨p, vs, rfl, hp, r⟩ := qa.dic_inv
      rcases valD_rep (k := kk) r with ⟨h1, h2⟩ | ⟨d', v, h1, h2, h3⟩
      · rw [h1] at e; cases e
      · rw [h1] at e; cases e
        exact .inr ⟨p, v, rfl, .inl ⟨vs, kk, hp, keyD_inv qb hk, h2.symm⟩, k_at n k h3⟩
    · cases e
  · cases e
section
variable {a b e o : Expr} {es : List Expr} {fa fb fe fo : DE} {pos apos cpos p2 : Pos}
theorem de_ix (hu : X.A.units + 1 < cLine) (ha : PE X a (tE X.K C W fa)) (hb : PE X b (tE X.K C W fb)) (hs : PlainIx b := by intro _ _; rfl) : PE X (.Subscript a b pos) (tE X.K C W (eBin dIx fa fb)) :=
  PE.imp (pe_ix (ix_seq.or (ix_dic hu)) ha hb hs) fun σ H Q h => eBin_tE (a := a) (b := b) od_ix h
/-- o[i] of an own class -/
theorem de_ixo {j k : Nat} {f : Addr} {G : List D → Store → Res D} (tk : Takes X W) (hr : Room (k + 1) X.A) (c : Cls X.K (C j)) (hm : PySem.W.findIn X.K (.ref (C j)) "__getitem__" = some (some (.ref f))) (hf : PySem.W.fnIn X.K f = true) (hfn : PySem.W.isFn X.K (.ref f) = true)
    (F : FnG X.prog X.w X.K X.mg X.base k f C G) (ha : PE X a (tE X.K C W fa)) (hb : PE X b (tE X.K C W fb))
    (hsl : ∀ x i, subscripted b true (.ref x) i = runValue (.builtin "lifetime.subscript" ⟨[.ref x, i], []⟩) := by intro _ _; with_unfolding_all rfl) :
    PE X (.Subscript a b pos) (tE X.K C W (fun r m => (fa r m).bind fun d m => (fb r m).bind fun i m => match objD j d m with | some _ => noEx (G [d, i] m) | none => .bad)) := by
  refine ⟨fun pins s σ H Q I ⟨c0, m0, r0, n0, er0, w0⟩ => ?_⟩
  refine Subscript_ (thn (ha.run pins s σ H (fun x H1 => tE X.K C W fb σ H1 fun y H2 => ∃ a dx fs, x = .ref a ∧ H2 a = some (.ins (C j) dx fs) ∧ spG X.K C G [x, y] H2 Q E0) I
    (tE_bind n0 er0 w0 fun c1 d m1 v n1 x1 er1 q w1 => tE_bind n1 er1 w1 fun c2 d2 m2 v2 n2 x2 er2 q2 w2 => ?_)) fun v s1 ⟨x, H1, I1, r1, q1⟩ => thn (hb.run pins s1 σ H1 _ I1 q1) fun u s2 ⟨y, H2, I2, r2, a, dx, fs, ex, ea, q2⟩ => ?_)
  · cases e1 : objD j d m2 with
    | none => simp only [e1] at w2; exact False.elim w2
    | some fs =>
      simp only [e1] at w2
      have q' := q.mono x2 n1.s.wok
      obtain ⟨a, dx, fvs, e2, e3, r3⟩ := objD_rep n2 q' e1
      refine ⟨a, dx, fvs, e2, e3, c2, m2, [d, d2], n2, .cons q' (.cons q2 .nil), ?_⟩
      cases e4 : G [d, d2] m2 with
      | ok d2 m2 => rw [e4] at w2; exact w2
      | ex j2 fs2 m2 => rw [e4] at w2; exact False.elim w2
      | bad => rw [e4] at w2; exact w2
  · subst ex
    obtain rfl : v = Value.ref a := r1
    obtain ⟨m, Fr⟩ := I2.fr
    obtain ⟨mA, O, _⟩ := ins_get I2.hok ea
    obtain ⟨od, J, _⟩ := O.look
    have hx : PassesAt (L2.CX X.prog X.w) X σ E0 := fun pins H s e s' I c => passL (X := X) pins σ H s e s' I c
    refine PySem.W.sub_K Fr I2.ok.mod.kin J hm hf hfn ?_ (hsl _ _)
    refine wpAny_call (codeAny_mono (F X.A.in1 X.stack s2 H2 [.ref a, u] [.ref a, y] Q E0 hr.in1 I2.env0.in1 (.cons rfl (.cons r2 .nil)) q2) fun r s' hq => ?_)
    cases r with
    | error e => exact hx pins H2 s2 e s' I2 hq
    | ok fl =>
      cases fl with
      | ret u => exact I2.after hq
      | next => exact False.elim hq
      | brk => exact False.elim hq
      | cont => exact False.elim hq
/-- x in o of an own class -/
theorem od_ino {j k : Nat} {f : Addr} {G : List D → Store → Res D} (hr : Room k X.A) (c : Cls X.K (C j)) (hm : PySem.W.findIn X.K (.ref (C j)) "__contains__" = some (some (.ref f))) (hfn : PySem.W.isFn X.K (.ref f) = true)
    (F : FnG X.prog X.w X.K X.mg X.base k f C G) : OpR X (compareOp .In) (fun x y H Q => ∃ a dx fs, y = .ref a ∧ H a = some (.ins (C j) dx fs) ∧ spG X.K C G [y, x] H (fun v H' => ∃ b, v = .bl b ∧ Q (.bl b) H') E0) := by
  intro pins s σ H x y v u Q I rx ry ⟨a, dx, fs, ey, ea, q⟩
  subst ey
  obtain rfl : u = Value.ref a := ry
  obtain ⟨m, Fr⟩ := I.fr
  obtain ⟨mA, O, _⟩ := ins_get I.hok ea
  obtain ⟨od, J, _⟩ := O.look
  refine PySem.W.in_K Fr I.ok.mod.kin J hm hfn ?_
  refine wpAny_call (codeAny_mono (F X.A X.stack s H [.ref a, v] [.ref a, x] _ E0 hr I.env0 (.cons rfl (.cons rx .nil)) q) fun r s' hq => ?_)
  cases r with
  | error e => exact passL (X := X) pins σ H s e s' I hq
  | ok fl =>
    cases fl with
    | ret u =>
      obtain ⟨w, H', I', rw', b, e, q'⟩ := I.after hq
      subst e
      cases rw'
      exact wpAny_truthy_bool ⟨.bl b, H', I', rfl, q'⟩
    | next => exact False.elim hq
    | brk => exact False.elim hq
    | cont => exact False.elim hq
theorem od_notIno {j k : Nat} {f : Addr} {G : List D → Store → Res D} (hr : Room k X.A) (c : Cls X.K (C j)) (hm : PySem.W.findIn X.K (.ref (C j)) "__contains__" = some (some (.ref f))) (hfn : PySem.W.isFn X.K (.ref f) = true)
    (F : FnG X.prog X.w X.K X.mg X.base k f C G) : OpR X (compareOp .NotIn) (fun x y H Q => ∃ a dx fs, y = .ref a ∧ H a = some (.ins (C j) dx fs) ∧ spG X.K C G [y, x] H (fun v H' => ∃ b, v = .bl b ∧ Q (.bl (!b)) H') E0) := by
  intro pins s σ H x y v u Q I rx ry ⟨a, dx, fs, ey, ea, q⟩
  subst ey
  obtain rfl : u = Value.ref a := ry
  obtain ⟨m, Fr⟩ := I.fr
  obtain ⟨mA, O, _⟩ := ins_get I.hok ea
  obtain ⟨od, J, _⟩ := O.look
  refine PySem.W.notIn_K Fr I.ok.mod.kin J hm hfn ?_
  refine wpAny_call (codeAny_mono (F X.A X.stack s H [.ref a, v] [.ref a, x] _ E0 hr I.env0 (.cons rfl (.cons rx .nil)) q) fun r s' hq => ?_)
  cases r with
  | error e => exact passL (X := X) pins σ H s e s' I hq
  | ok fl =>
    cases fl with
    | ret u =>
      obtain ⟨w, H', I', rw', b, e, q'⟩ := I.after hq
      subst e
      cases rw'
      exact wpAny_truthy_bool ⟨.bl (!b), H', I', rfl, q'⟩
    | next => exact False.elim hq
    | brk => exact False.elim hq
    | cont => exact False.elim hq
/-- x in o: the def's answer, negated or not -/
def eIno (neg : Bool) (j : Nat) (G : List D → Store → Res D) (fa fb : DE) : DE := fun r m => (fa r m).bind fun x m => (fb r m).bind fun d m => match objD j d m with
  | some _ => (noEx (G [d, x] m)).bind fun b m => match b with | .bl b => .ok (.bl (if neg then !b else b)) m | _ => .bad
  | none => .bad
theorem eIno_tE {neg : Bool} {j : Nat} {G : List D → Store → Res D} {σ : L2.St} {H : Hp} {Q : VK} (h : tE X.K C W (eIno neg j G fa fb) σ H Q) :
    tOp (fun x y H Q => ∃ a dx fs, y = .ref a ∧ H a = some (.ins (C j) dx fs) ∧ spG X.K C G [y, x] H (fun v H' => ∃ b, v = .bl b ∧ Q (.bl (if neg then !b else b)) H') E0) (tE X.K C W fa) (tE X.K C W fb) σ H Q := by
  obtain ⟨c, m, r, n, er, w⟩ := h
  refine tE_bind n er w fun c1 dx m1 vx n1 x1 er1 qx w1 => tE_bind n1 er1 w1 fun c2 d m2 vd n2 x2 er2 qd w2 => ?_
  cases e1 : objD j d m2 with
  | none => simp only [e1] at w2; exact False.elim w2
  | some fs =>
    simp only [e1] at w2
    obtain ⟨a, dxx, fvs, e2, e3, r3⟩ := objD_rep n2 qd e1
    refine ⟨a, dxx, fvs, e2, e3, c2, m2, [d, dx], n2, .cons qd (.cons (qx.mono x2 n1.s.wok) .nil), ?_⟩
    cases e4 : G [d, dx] m2 with
    | ok b m3 =>
      rw [e4] at w2
      simp only [noEx, bind_ok] at w2
      intro c' v x s q
      cases b with
      | bl b => cases q; exact ⟨b, rfl, RW.now (RW.ext w2 x) s (.bl _)⟩
      | _ => exact False.elim w2
    | ex j2 fs2 m2 => rw [e4] at w2; exact False.elim w2
    | bad => rw [e4] at w2; exact False.elim w2
theorem de_ino {j k : Nat} {f : Addr} {G : List D → Store → Res D} (hr : Room k X.A) (c : Cls X.K (C j)) (hm : PySem.W.findIn X.K (.ref (C j)) "__contains__" = some (some (.ref f))) (hfn : PySem.W.isFn X.K (.ref f) = true)
    (F : FnG X.prog X.w X.K X.mg X.base k f C G) (ha : PE X a (tE X.K C W fa)) (hb : PE X b (tE X.K C W fb)) (hm2 : behindInMarks .In b = false := by rfl) : PE X (.Compare a [.In] [b] pos) (tE X.K C W (eIno false j G fa fb)) :=
  PE.imp (pe_cmpR (od_ino hr c hm hfn F) ha hb hm2) fun σ H Q h => eIno_tE h
theorem de_notIno {j k : Nat} {f : Addr} {G : List D → Store → Res D} (hr : Room k X.A) (c : Cls X.K (C j)) (hm : PySem.W.findIn X.K (.ref (C j)) "__contains__" = some (some (.ref f))) (hfn : PySem.W.isFn X.K (.ref f) = true)
    (F : FnG X.prog X.w X.K X.mg X.base k f C G) (ha : PE X a (tE X.K C W fa)) (hb : PE X b (tE X.K C W fb)) (hm2 : behindInMarks .NotIn b = false := by rfl) : PE X (.Compare a [.NotIn] [b] pos) (tE X.K C W (eIno true j G fa fb)) :=
  PE.imp (pe_cmpR (od_notIno hr c hm hfn F) ha hb hm2) fun σ H Q h => eIno_tE h
/-- a comparison of one's own as a test -/
theorem dt_of_cmp {op : CmpOp} {f : DE} (h : PE X (.Compare a [op] [b] pos) (tE X.K C W f)) (hp : ∀ {ρ : R2} {ta tb : TE}, True := by intros; trivial) (he : PT X (.Compare a [op] [b] pos) (tTest (tE X.K C W f))) : PT X (.Compare a [op] [b] pos) (tT X.K C W (eTest f)) :=
  PT.imp he fun σ H Q ⟨c, m, r, n, er, w⟩ => tE_bind n er w fun c1 d m1 v n1 x1 er1 q w1 => by
    cases e2 : blOf d with
    | none => rw [e2] at w1; exact False.elim w1
    | some b =>
      rw [e2] at w1
      exact ⟨b, blOf_rep e2 q, RW.now w1 n1.s rfl⟩
theorem dt_ino {neg : Bool} {op : CmpOp} {j : Nat} {G : List D → Store → Res D} (ho : OpR X (compareOp op) (fun x y H Q => ∃ a dx fs, y = .ref a ∧ H a = some (.ins (C j) dx fs) ∧ spG X.K C G [y, x] H (fun v H' => ∃ b, v = .bl b ∧ Q (.bl (if neg then !b else b)) H') E0))
    (ha : PE X a (tE X.K C W fa)) (hb : PE X b (tE X.K C W fb)) (hm2 : behindInMarks op b = false := by rfl) : PT X (.Compare a [op] [b] pos) (tT X.K C W (eTest (eIno neg j G fa fb))) :=
  PT.imp (pt_cmpR ho ha hb hm2) fun σ H Q ⟨c, m, r, n, er, w⟩ => by
    refine eIno_tE (W := W) ⟨c, m, r, n, er, ?_⟩
    refine RW.imp (RW.bind (rep := Rep) w) fun v H' ⟨c', d, m', e, x, s, q, w1⟩ => ?_
    subst e
    cases e2 : blOf d with
    | none => rw [e2] at w1; exact False.elim w1
    | some b =>
      rw [e2] at w1
      exact ⟨b, blOf_rep e2 q, RW.now w1 s rfl⟩

/-! ### slices -/
def cutD {α : Type} (xs : List α) (lo hi : Option Int) : List α := (xs.drop (HT.sIx xs.length 0 lo)).take (HT.sIx xs.length xs.length hi - HT.sIx xs.length 0 lo)
theorem cutD_rep {c : RC} {xs : List D} {vs : List V} (r : Reps c xs vs) (lo hi : Option Int) : Reps c (cutD xs lo hi) (cutV vs lo hi) := by
  unfold cutD cutV
  rw [r.length]
  exact Paired.take _ (Paired.drop _ r)
def dSl (lo hi : Option Int) : D → Option D
  | .lst xs => some (.lst (cutD xs lo hi))
  | .tup xs => some (.tup (cutD xs lo hi))
  | .str z => if z.length ≤ sizeLine then some (.str (cutS z lo hi)) else none
  | _ => none
abbrev DPt := DEnv → Store → Res (Option Int)
def tP (K : PySem.W.Frag) (C : CE) (W : WX) (f : DPt) : TO := fun σ H Q => ∃ c m r, Now K C H c m ∧ ER c r σ ∧ RW C (fun _ (a b : Option Int) => a = b) c (f r m) Q (fun cls d H' => W cls d σ H')
def pNone : DPt := fun _ m => .ok none m
def pSome (f : DE) : DPt := fun r m => (f r m).bind fun d m => match d with | .int i => .ok (some i) m | _ => .bad
structure POD (X : Cx) (C : CE) (W : WX) (e : Option Expr) (f : DPt) : Prop where
  h : PO X e (tP X.K C W f)
theorem PO.imp {e : Option Expr} {t t' : TO} (h : PO X e t) (i : ∀ σ H Q, t' σ H Q → t σ H Q) : PO X e t' := ⟨fun pins s σ H Q I q => h.run pins s σ H Q I (i _ _ _ q)⟩
theorem dp_none : POD X C W none pNone := ⟨PO.imp po_none fun σ H Q ⟨c, m, r, n, er, w⟩ => by
  have := RW.now (v := (none : Option Int)) w n.s rfl
  rw [n.H] at this; exact this⟩
theorem dp_some (h : PE X e (tE X.K C W fe)) : POD X C W (some e) (pSome fe) := ⟨PO.imp (po_some h) fun σ H Q ⟨c, m, r, n, er, w⟩ => tE_bind n er w fun c1 d m1 v n1 x1 er1 q w1 => by
  cases d with
  | int i => cases q; exact ⟨i, rfl, RW.now w1 n1.s rfl⟩
  | _ => exact False.elim w1⟩
def eSl (fa : DE) (pl ph : DPt) : DE := fun r m => (fa r m).bind fun d m => (pl r m).bind fun lo m => (ph r m).bind fun hi m => ofO m (dSl lo hi (vw m d))
theorem tP_bind {K : PySem.W.Frag} {c : RC} {m : Store} {r : DEnv} {σ : L2.St} {H : Hp} {γ δ : Type} {rep' : RC → γ → δ → Prop} {f : DPt} {g : Option Int → Store → Res γ} {Q : δ → Hp → Prop} (n : Now K C H c m) (er : ER c r σ) (h : RW C rep' c ((f r m).bind g) Q (fun cls d H' => W cls d σ H')) {R : Option Int → Hp → Prop}
    (k : ∀ c' d m', Now K C c'.H c' m' → Ext c c' → ER c' r σ → RW C rep' c' (g d m') Q (fun cls d H' => W cls d σ H') → R d c'.H) : tP K C W f σ H R :=
  ⟨c, m, r, n, er, RW.imp (RW.bind (rep := fun _ (a b : Option Int) => a = b) h) fun v H' ⟨c', d, m', e, x, s, q, w⟩ => by
    subst e
    subst q
    exact k c' d m' (n.next x s) x (er.mono x n.s.wok) w⟩
def rSlD (K : PySem.W.Frag) : V → Option Int → Option Int → Hp → VK → Prop := fun x lo hi H Q => rSlL K x lo hi H Q ∨ (rSlA K x lo hi H Q ∨ rSlS x lo hi H Q)
theorem de_sl {lo hi : Option Expr} {pl ph : DPt} (ha : PE X a (tE X.K C W fa)) (hl : POD X C W lo pl) (hh : POD X C W hi ph) : PE X (.Subscript a (.Slice lo hi none p2) pos) (tE X.K C W (eSl fa pl ph)) :=
  PE.imp (pe_slice (r := rSlD X.K) (sl_list.or (sl_tupA.or sl_str)) ha hl.h hh.h) fun σ H Q ⟨c, m, r, n, er, w⟩ =>
    tE_bind n er w fun c1 d m1 v n1 x1 er1 q w1 => tP_bind n1 er1 w1 fun c2 l m2 n2 x2 er2 w2 => tP_bind n2 er2 w2 fun c3 h m3 n3 x3 er3 w3 => by
      have qs := ((q.mono x2 n1.s.wok).mono x3 n2.s.wok).sees n3.s
      cases e : dSl l h (vw m3 d) with
      | none => rw [e] at w3; exact False.elim w3
      | some d3 =>
        rw [e] at w3
        have k : ∀ c' v, Ext c3 c' → SRep c' m3 → Rep c' d3 v → Q v c'.H := fun c' v x s q => RW.at w3 x s q
        unfold dSl at e
        split at e
        · rename_i xs he
          cases e
          rw [he] at qs
          obtain ⟨p, vs, rfl, hp, r⟩ := qs.lst_inv
          exact .inl ⟨p, vs, rfl, .inl (.inl hp), fun l hl => k_lst n3 k (cutD_rep r _ _) l hl⟩
        · rename_i xs he
          cases e
          rw [he] at qs
          obtain ⟨p, vs, rfl, hp, r⟩ := qs.tup_inv
          rw [n3.K] at hp
          refine .inr (.inl ⟨p, vs, rfl, hp, fun hw => ?_, fun _ l hl => k_tup n3 k (cutD_rep r _ _) l hl⟩)
          have : cutD xs l h = xs := by
            unfold cutD
            rw [r.length] at hw
            rw [hw.1, hw.2]
            simp
          rw [this] at k
          exact k_at n3 k (.tup' (by rw [n3.K]; exact hp) r)
        · rename_i z he
          rw [he] at qs
          split at e
          · rename_i hz
            cases e
            exact .inr (.inr ⟨z, qs.str_inv, hz, k_at n3 k (.str _)⟩)
          · cases e
        · cases e
def eRev (fa : DE) : DE := fun r m => (fa r m).bind fun d m => match vw m d with | .lst xs => .ok (.lst xs.reverse) m | _ => .bad
theorem de_rev {k : Nat} {p1 p2 p3 : Pos} (ha : PE X a (tE X.K C W fa)) : PE X (.Subscript a (.Slice none none (some (.UnaryOp .USub (.Constant (.int 1) k p1) p2)) p3) pos) (tE X.K C W (eRev fa)) :=
  PE.imp (pe_revL ha) fun σ H Q ⟨c, m, r, n, er, w⟩ => tE_bind n er w fun c1 d m1 v n1 x1 er1 q w1 => by
    have qs := q.sees n1.s
    split at w1
    · rename_i xs he
      rw [he] at qs
      obtain ⟨p, vs, rfl, hp, r⟩ := qs.lst_inv
      exact ⟨p, vs, rfl, .inl (.inl hp), fun l hl => k_lst n1 (fun c' v x s q => RW.at w1 x s q) (Paired.reverse r) l hl⟩
    · exact False.elim w1
end

/-! ### a cell changed -/
theorem upd_ext {c : RC} {m : Store} {i : Nat} {a : Addr} {d0 : D} {o : HO} (s : SRep c m) (h1 : c.L[i]? = some a) (h2 : m[i]? = some (some d0)) : Ext c { c with H := upd c.H a o } := by
  have wa : c.W a := (s.live a).mpr (.inl ⟨i, d0, h1, h2⟩)
  exact ⟨⟨rfl, rfl, ⟨[], by simp⟩, fun b u h w => by
    refine .inl ?_; show upd c.H a o b = _
    rw [upd_ne (fun z => by subst z; exact w wa)]; exact h, fun b h => .inl h⟩, rfl, fun b h => upd_ne (fun z => s.apart i a h1 (by rw [← z]; exact h))⟩
theorem cell_put {c : RC} {m : Store} {i : Nat} {a : Addr} {d0 d : D} {o : HO} (s : SRep c m) (h1 : c.L[i]? = some a) (h2 : m[i]? = some (some d0)) (hd : CellOk { c with H := upd c.H a o } a d) :
    Ext c { c with H := upd c.H a o } ∧ SRep { c with H := upd c.H a o } (m.set i (some d)) := by
  have wa : c.W a := (s.live a).mpr (.inl ⟨i, d0, h1, h2⟩)
  have x : Ext c { c with H := upd c.H a o } := upd_ext s h1 h2
  have hi := (List.getElem?_eq_some_iff.mp h2).1
  refine ⟨x, by simp [s.len], s.nd, fun b => ?_, fun n b d' g1 g2 => ?_, fun n b g1 => ?_, fun b h => ?_, s.apart⟩
  · rw [show (RC.W { c with H := upd c.H a o } b) = c.W b from rfl, s.live b]
    refine or_congr ?_ Iff.rfl
    constructor
    · rintro ⟨n, d', g1, g2⟩
      by_cases e : n = i
      · subst e
        exact ⟨n, d, g1, by rw [List.getElem?_set_self hi]⟩
      · exact ⟨n, d', g1, by rw [List.getElem?_set_ne (Ne.symm e)]; exact g2⟩
    · rintro ⟨n, d', g1, g2⟩
      by_cases e : n = i
      · subst e
        exact ⟨n, d0, g1, h2⟩
      · exact ⟨n, d', g1, by rw [List.getElem?_set_ne (Ne.symm e)] at g2; exact g2⟩
  · by_cases e : n = i
    · subst e
      rw [List.getElem?_set_self hi] at g2
      cases g2
      have g1 : c.L[n]? = some b := g1
      rw [h1] at g1; cases g1
      exact hd
    · rw [List.getElem?_set_ne (Ne.symm e)] at g2
      have g1 : c.L[n]? = some b := g1
      refine (s.cell n b d' g1 g2).mono x s.wok ?_
      show upd c.H a o b = _
      rw [upd_ne]
      rintro rfl
      exact e ((List.getElem_inj s.nd).mp ((List.getElem?_eq_some_iff.mp g1).2.trans (List.getElem?_eq_some_iff.mp h1).2.symm))
  · obtain ⟨u, e⟩ := s.there n b g1
    show ∃ u, upd c.H a o b = some u
    by_cases q : b = a
    · subst q; exact ⟨o, upd_same⟩
    · exact ⟨u, by rw [upd_ne q]; exact e⟩
  · obtain ⟨u, e, q⟩ := s.tmp b h
    exact ⟨u, (upd_ne (fun z => s.apart i a h1 (by rw [← z]; exact h))).trans e, q⟩
/-- the list in a cell -/
def lstAt (m : Store) : D → Option (Nat × List D)
  | .loc n => match m[n]? with
    | some (some (.lst xs)) => some (n, xs)
    | _ => none
  | _ => none
theorem lstAt_rep {c : RC} {m : Store} {d : D} {v : V} {n : Nat} {xs : List D} (s : SRep c m) (q : Rep c d v) (h : lstAt m d = some (n, xs)) : ∃ a vs, v = .ref a ∧ c.L[n]? = some a ∧ m[n]? = some (some (.lst xs)) ∧ c.H a = some (.lst vs) ∧ Reps c xs vs := by
  cases d with
  | loc i =>
    simp only [lstAt] at h
    split at h
    · rename_i xs' e
      cases h
      cases q with
      | loc eL =>
        obtain ⟨vs, e2, r⟩ := s.cell _ _ _ eL e
        exact ⟨_, vs, rfl, eL, e, e2, r⟩
    · cases h
  | _ => simp [lstAt] at h
theorem lst_put {K : PySem.W.Frag} {c : RC} {m : Store} {i : Nat} {a : Addr} {xs ys : List D} {ws : List V} {Q : Hp → Prop} (n : Now K C c.H c m) (h1 : c.L[i]? = some a) (h2 : m[i]? = some (some (.lst xs))) (r : Reps c ys ws)
    (k : ∀ c', Ext c c' → SRep c' (m.set i (some (.lst ys))) → Q c'.H) : Q (upd c.H a (.lst ws)) := by
  have x0 : Ext c { c with H := upd c.H a (.lst ws) } := upd_ext n.s h1 h2
  obtain ⟨x, s⟩ := cell_put (o := .lst ws) (d := .lst ys) n.s h1 h2 ⟨ws, upd_same, r.mono x0 n.s.wok⟩
  exact k _ x s
section
variable {a b e o : Expr} {es : List Expr} {fa fb fe fo : DE} {g : DA} {pos apos cpos p2 : Pos}
/-- x.append(e) -/
def appD (d y : D) (m : Store) : Res D := match lstAt m d with
  | some (n, xs) => if xs.length < sizeLine then .ok .non (m.set n (some (.lst (xs ++ [y])))) else .bad
  | none => .bad
def extD (d y : D) (m : Store) : Res D := match lstAt m d, vw m y with
  | some (n, xs), .lst ys => if xs.length + ys.length ≤ sizeLine then .ok .non (m.set n (some (.lst (xs ++ ys)))) else .bad
  | _, _ => .bad
/-- the receiver is a list's cell ahead of the argument, too -/
def eOnL (k : D → D → Store → Res D) (fo fe : DE) : DE := fun r m => (fo r m).bind fun d m => match lstAt m d with
  | some _ => (fe r m).bind fun y m => k d y m
  | none => .bad
theorem lst_tyV {c : RC} {m : Store} {d : D} {v : V} {n : Nat} {xs : List D} {K : PySem.W.Frag} (s : SRep c m) (q : Rep c d v) (h : lstAt m d = some (n, xs)) : tyV K "list" v c.H := by
  obtain ⟨a, vs, rfl, _, _, e, _⟩ := lstAt_rep s q h
  exact .inl ⟨rfl, vs, .inl (.inl e)⟩
theorem de_append (ho : PE X o (tE X.K C W fo)) (he : PE X e (tE X.K C W fe)) (hbase : attributeBase o "append" X.env (eval o X.env) = eval o X.env := by rfl)
    (hfew : ((backTo cpos (starEach (e :: []) X.env)).all (fun x => !x.1) && (backToKw cpos (keywordEach [] X.env)).all (fun x => x.1.isSome)
      && decide ((e :: []).length + ([] : List Keyword).length + (if ([] : List Keyword).isEmpty then 0 else 1) < 30)) = true := by rfl)
    (hline : (apos.endLine == cpos.line) = true := by rfl) (hs : starEach (e :: []) X.env = (false, eval e X.env) :: starEach [] X.env := by rfl) (hplain : (backTo cpos (starEach [] X.env)).any (·.1) = false := by rfl) :
    PE X (.Call (.Attribute o "append" apos) [e] [] cpos) (tE X.K C W (eOnL appD fo fe)) :=
  PE.imp (pe_bm PySem.F.plainAttrs_list PySem.F.slot_list_append PySem.F.type_list_append mt_append ho (pa_cons he pa_nil hs) hbase hfew hline hs hplain) fun σ H Q ⟨c, m, r, n, er, w⟩ => tE_bind n er w fun c1 d m1 v n1 x1 er1 q w1 => by
    cases e1 : lstAt m1 d with
    | none => simp only [e1] at w1; exact False.elim w1
    | some z =>
      simp only [e1] at w1
      refine ⟨lst_tyV n1.s q e1, tE_bind n1 er1 w1 fun c2 y m2 vy n2 x2 er2 qy w2 => ?_⟩
      unfold appD at w2
      cases e2 : lstAt m2 d with
      | none => simp only [e2] at w2; exact False.elim w2
      | some z2 =>
        obtain ⟨i, xs⟩ := z2
        simp only [e2] at w2
        split at w2
        · rename_i hl
          obtain ⟨a, vs, rfl, g1, g2, g3, r3⟩ := lstAt_rep n2.s (q.mono x2 n1.s.wok) e2
          refine ⟨a, vs, vy, rfl, rfl, g3, by rw [r3.length]; exact hl, ?_⟩
          exact lst_put n2 g1 g2 (Paired.append r3 (.cons qy .nil)) fun c' x s => RW.at w2 x s .non
        · exact False.elim w2
/-- x.pop() -/
def ePop (fo : DE) : DE := fun r m => (fo r m).bind fun d m => match lstAt m d with
  | some (n, xs) => match xs[xs.length - 1]? with
    | some y => .ok y (m.set n (some (.lst xs.dropLast)))
    | none => .bad
  | none => .bad
theorem Paired.dropLast {α β : Type} {F : α → β → Prop} {xs : List α} {ys : List β} (h : Paired F xs ys) : Paired F xs.dropLast ys.dropLast := by
  rw [List.dropLast_eq_take, List.dropLast_eq_take, (paired_at h).1]
  exact Paired.take _ h
theorem de_pop (ho : PE X o (tE X.K C W fo)) (hbase : attributeBase o "pop" X.env (eval o X.env) = eval o X.env := by rfl) (hline : (apos.endLine == cpos.line) = true := by rfl) :
    PE X (.Call (.Attribute o "pop" apos) [] [] cpos) (tE X.K C W (ePop fo)) :=
  PE.imp (pe_bm0 PySem.F.plainAttrs_list PySem.F.slot_list_pop PySem.F.type_list_pop mt_pop ho hbase hline) fun σ H Q ⟨c, m, r, n, er, w⟩ => tE_bind n er w fun c1 d m1 v n1 x1 er1 q w1 => by
    cases e1 : lstAt m1 d with
    | none => simp only [e1] at w1; exact False.elim w1
    | some z =>
      obtain ⟨i, xs⟩ := z
      simp only [e1] at w1
      refine ⟨lst_tyV n1.s q e1, ?_⟩
      obtain ⟨a, vs, rfl, g1, g2, g3, r3⟩ := lstAt_rep n1.s q e1
      cases e2 : xs[xs.length - 1]? with
      | none => simp only [e2] at w1; exact False.elim w1
      | some y =>
        simp only [e2] at w1
        obtain ⟨vy, h3, h4⟩ := Paired.get r3 e2
        refine ⟨a, vs, vy, rfl, rfl, g3, by rw [r3.length]; exact h3, ?_⟩
        exact lst_put n1 g1 g2 (Paired.dropLast r3) fun c' x s => RW.at w1 x s (h4.mono x n1.s.wok)
/-- x.extend(e) -/
theorem de_extend (ho : PE X o (tE X.K C W fo)) (he : PE X e (tE X.K C W fe)) (hbase : attributeBase o "extend" X.env (eval o X.env) = eval o X.env := by rfl)
    (hfew : ((backTo cpos (starEach (e :: []) X.env)).all (fun x => !x.1) && (backToKw cpos (keywordEach [] X.env)).all (fun x => x.1.isSome)
      && decide ((e :: []).length + ([] : List Keyword).length + (if ([] : List Keyword).isEmpty then 0 else 1) < 30)) = true := by rfl)
    (hline : (apos.endLine == cpos.line) = true := by rfl) (hs : starEach (e :: []) X.env = (false, eval e X.env) :: starEach [] X.env := by rfl) (hplain : (backTo cpos (starEach [] X.env)).any (·.1) = false := by rfl) :
    PE X (.Call (.Attribute o "extend" apos) [e] [] cpos) (tE X.K C W (eOnL extD fo fe)) :=
  PE.imp (pe_bm PySem.F.plainAttrs_list PySem.F.slot_list_extend PySem.F.type_list_extend mt_extend ho (pa_cons he pa_nil hs) hbase hfew hline hs hplain) fun σ H Q ⟨c, m, r, n, er, w⟩ => tE_bind n er w fun c1 d m1 v n1 x1 er1 q w1 => by
    cases e1 : lstAt m1 d with
    | none => simp only [e1] at w1; exact False.elim w1
    | some z =>
      simp only [e1] at w1
      refine ⟨lst_tyV n1.s q e1, tE_bind n1 er1 w1 fun c2 y m2 vy n2 x2 er2 qy w2 => ?_⟩
      have qs := qy.sees n2.s
      unfold extD at w2
      split at w2
      · rename_i i xs ys h1 h2
        split at w2
        · rename_i hl
          obtain ⟨a, vs, rfl, g1, g2, g3, r3⟩ := lstAt_rep n2.s (q.mono x2 n1.s.wok) h1
          rw [h2] at qs
          obtain ⟨b, us, rfl, h5, r5⟩ := qs.lst_inv
          refine ⟨a, b, vs, us, rfl, rfl, g3, h5, by rw [r3.length, r5.length]; exact hl, ?_⟩
          exact lst_put n2 g1 g2 (Paired.append r3 r5) fun c' x s => RW.at w2 x s .non
        · exact False.elim w2
      · exact False.elim w2
end
end
end DL
/-! DL8: built-in functions, methods of texts. -/
namespace DL
open PySem PySem.Spec PyProof.Rows L2

abbrev SeesL (c : RC) (ds : List D) (vs : List V) : Prop := Paired (Sees c) ds vs
theorem Reps.seesL {c : RC} {m : Store} (s : SRep c m) : ∀ {ds : List D} {vs : List V}, Reps c ds vs → SeesL c (ds.map (vw m)) vs
  | _, _, .nil => .nil
  | _, _, .cons r t => .cons (r.sees s) (Reps.seesL s t)
section
variable {X : Cx} {C : CE} {W : WX}
theorem CallR.or {f : Value} {r r' : List V → Hp → VK → Prop} (h : CallR X f r) (h' : CallR X f r') : CallR X f (fun xs H Q => r xs H Q ∨ r' xs H Q) := by
  intro pins s σ H xs us Q I rv q
  rcases q with q | q
  · exact h pins s σ H xs us Q I rv q
  · exact h' pins s σ H xs us Q I rv q
def CdD (X : Cx) (C : CE) (ρ : List V → Hp → VK → Prop) (fn : List D → Option D) : Prop :=
  ∀ (c : RC) (m : Store) (ds : List D) (vs : List V) (d : D) (Q : VK), Now X.K C c.H c m → SeesL c ds vs → fn ds = some d → (∀ c' v, Ext c c' → SRep c' m → Rep c' d v → Q v c'.H) → ρ vs c.H Q
def eCB (fn : List D → Option D) (g : DA) : DE := fun r m => (g r m).bind fun ds m => ofO m (fn (ds.map (vw m)))
theorem eCB_tE {ρ : List V → Hp → VK → Prop} {fn : List D → Option D} {g : DA} {σ : L2.St} {H : Hp} {Q : VK} (hd : CdD X C ρ fn) (h : tE X.K C W (eCB fn g) σ H Q) : tCB ρ (tA X.K C W g) σ H Q := by
  obtain ⟨c, m, r, n, er, w⟩ := h
  refine tA_bind n er w fun c1 ds m1 vs n1 x1 er1 q w1 => ?_
  cases e : fn (ds.map (vw m1)) with
  | none => rw [e] at w1; exact False.elim w1
  | some d =>
    rw [e] at w1
    exact hd c1 m1 _ vs d Q n1 (q.seesL n1.s) e fun c' v x s q => RW.at w1 x s q
section
variable {x : Str} {p pos : Pos} {e : Expr} {es : List Expr} {g : DA} {id T : String} {ρ : List V → Hp → VK → Prop} {fn : List D → Option D}
theorem de_cb (hc : CallR X (.builtin id) ρ) (hd : CdD X C ρ fn) (hm : X.mg x = none) (ha : PA X (e :: es) (tA X.K C W g)) (hv : bootBuiltins x = some (.builtin id) := by decide +kernel) (hg : Gl X x := by rfl) (hn : x ≠ "__name__" := by decide) (hdb : (x == ("__debug__" : Str)) = false := by decide)
    (he : starEach (e :: es) X.env = (false, eval e X.env) :: starEach es X.env := by rfl) (hpl : (backTo pos (starEach es X.env)).any (·.1) = false := by rfl) : PE X (.Call (.Name x p) (e :: es) [] pos) (tE X.K C W (eCB fn g)) :=
  PE.imp (pe_callB hc hg hm hv ha hn hdb he hpl) fun σ H Q h => eCB_tE hd h
theorem de_ct (hc : CallR X (.type T) ρ) (hd : CdD X C ρ fn) (hm : X.mg x = none) (ha : PA X (e :: es) (tA X.K C W g)) (hv : bootBuiltins x = some (.type T) := by decide +kernel) (hg : Gl X x := by rfl) (hn : x ≠ "__name__" := by decide) (hdb : (x == ("__debug__" : Str)) = false := by decide)
    (he : starEach (e :: es) X.env = (false, eval e X.env) :: starEach es X.env := by rfl) (hpl : (backTo pos (starEach es X.env)).any (·.1) = false := by rfl) : PE X (.Call (.Name x p) (e :: es) [] pos) (tE X.K C W (eCB fn g)) :=
  PE.imp (pe_callTy hc hg hm hv ha hn hdb he hpl) fun σ H Q h => eCB_tE hd h
end
theorem seesL1 {c : RC} {d : D} {vs : List V} (h : SeesL c [d] vs) : ∃ v, vs = [v] ∧ Sees c d v := by
  cases h with | cons r t => cases t; exact ⟨_, rfl, r⟩
theorem seesL2 {c : RC} {d d2 : D} {vs : List V} (h : SeesL c [d, d2] vs) : ∃ v w, vs = [v, w] ∧ Sees c d v ∧ Sees c d2 w := by
  cases h with | cons r t => cases t with | cons r2 t => cases t; exact ⟨_, _, rfl, r, r2⟩
/-! len -/
def fLen : List D → Option D
  | [.lst xs] => some (.int xs.length)
  | [.tup xs] => some (.int xs.length)
  | [.str z] => if z.length ≤ sizeLine then some (.int z.length) else none
  | [.dic kvs] => some (.int kvs.length)
  | _ => none
theorem call_lenDr : CallR X (.builtin "len") (fun xs H Q => ∃ a kvs, xs = [V.ref a] ∧ Rd H a (.dK kvs) ∧ Q (.int kvs.length) H) := by
  intro pins s σ H xs us Q I r h
  obtain ⟨a, kvs, rfl, ha, q⟩ := h
  obtain ⟨u, rfl, ru⟩ := vals1 r
  cases ru
  exact d_len I ha fun t s' I' => ⟨.int kvs.length, H, I', ⟨t, rfl⟩, q⟩
def rLenD (K : PySem.W.Frag) : List V → Hp → VK → Prop := fun xs H Q => (∃ p ys, xs = [.ref p] ∧ (SqL K H p ys ∨ SqT K H p ys) ∧ Q (.int ys.length) H) ∨ ((∃ z, xs = [.str z] ∧ z.length ≤ sizeLine ∧ Q (.int z.length) H) ∨ ∃ a kvs, xs = [V.ref a] ∧ Rd H a (.dK kvs) ∧ Q (.int kvs.length) H)
theorem cr_lenD : CallR X (.builtin "len") (rLenD X.K) := CallR.or call_len_seq (CallR.or call_len_str call_lenDr)
theorem cd_len : CdD X C (rLenD X.K) fLen := by
  intro c m ds vs d Q n qs e k
  unfold fLen at e
  split at e
  · cases e
    obtain ⟨v, rfl, q⟩ := seesL1 qs
    obtain ⟨a, ws, rfl, h, r⟩ := q.lst_inv
    exact .inl ⟨a, ws, rfl, .inl (.inl (.inl h)), by rw [r.length]; exact k_at n k (.int _)⟩
  · cases e
    obtain ⟨v, rfl, q⟩ := seesL1 qs
    obtain ⟨a, ws, rfl, h, r⟩ := q.tup_inv
    rw [n.K] at h
    exact .inl ⟨a, ws, rfl, .inr h, by rw [r.length]; exact k_at n k (.int _)⟩
  · split at e
    · rename_i h
      cases e
      obtain ⟨v, rfl, q⟩ := seesL1 qs
      rw [q.str_inv]
      exact .inr (.inl ⟨_, rfl, h, k_at n k (.int _)⟩)
    · cases e
  · rename_i kvs
    cases e
    obtain ⟨v, rfl, q⟩ := seesL1 qs
    obtain ⟨a, ws, rfl, h, r⟩ := q.dic_inv
    exact .inr (.inr ⟨a, ws, rfl, h, by rw [← (paired_at r).1] at k; exact k_at n k (.int _)⟩)
  · cases e
/-! all, any, sum, max, min -/
def blsD : List D → Option (List Bool)
  | [] => some []
  | .bl b :: ds => match blsD ds with | some l => some (b :: l) | none => none
  | _ => none
def intsD : List D → Option (List Int)
  | [] => some []
  | .int b :: ds => match intsD ds with | some l => some (b :: l) | none => none
  | _ => none
def strsD : List D → Option (List Str)
  | [] => some []
  | .str b :: ds => match strsD ds with | some l => some (b :: l) | none => none
  | _ => none
theorem blsD_rep {c : RC} : ∀ {xs : List D} {vs : List V} {l : List Bool}, Reps c xs vs → blsD xs = some l → vs = l.map V.bl
  | [], _, l, .nil, h => by simp [blsD] at h; subst h; rfl
  | x :: xs, v :: vs, l, .cons r t, h => by
    unfold blsD at h
    split at h
    · simp at *
    · rename_i b ds heq
      cases heq
      split at h
      · rename_i l' hl
        cases h; cases r
        rw [blsD_rep t hl]; rfl
      · cases h
    · cases h
theorem intsD_rep {c : RC} : ∀ {xs : List D} {vs : List V} {l : List Int}, Reps c xs vs → intsD xs = some l → vs = l.map V.int
  | [], _, l, .nil, h => by simp [intsD] at h; subst h; rfl
  | x :: xs, v :: vs, l, .cons r t, h => by
    unfold intsD at h
    split at h
    · simp at *
    · rename_i b ds heq
      cases heq
      split at h
      · rename_i l' hl
        cases h; cases r
        rw [intsD_rep t hl]; rfl
      · cases h
    · cases h
theorem strsD_rep {c : RC} : ∀ {xs : List D} {vs : List V} {l : List Str}, Reps c xs vs → strsD xs = some l → vs = l.map V.str
  | [], _, l, .nil, h => by simp [strsD] at h; subst h; rfl
  | x :: xs, v :: vs, l, .cons r t, h => by
    unfold strsD at h
    split at h
    · simp at *
    · rename_i b ds heq
      cases heq
      split at h
      · rename_i l' hl
        cases h; cases r
        rw [strsD_rep t hl]; rfl
      · cases h
    · cases h
@[simp] theorem blsD_map {l : List Bool} : blsD (l.map D.bl) = some l := by induction l with | nil => rfl | cons a l ih => simp [blsD, ih]
@[simp] theorem intsD_map {l : List Int} : intsD (l.map D.int) = some l := by induction l with | nil => rfl | cons a l ih => simp [intsD, ih]
@[simp] theorem strsD_map {l : List Str} : strsD (l.map D.str) = some l := by induction l with | nil => rfl | cons a l ih => simp [strsD, ih]
def fAll : List D → Option D
  | [.lst xs] => match blsD xs with | some l => some (.bl (l.all id)) | none => none
  | _ => none
def fAny : List D → Option D
  | [.lst xs] => match blsD xs with | some l => some (.bl (l.any id)) | none => none
  | _ => none
theorem cd_all : CdD X C (rAll X.K) fAll := by
  intro c m ds vs d Q n qs e k
  unfold fAll at e
  split at e
  · split at e
    · rename_i l hl
      cases e
      obtain ⟨v, rfl, q⟩ := seesL1 qs
      obtain ⟨a, ws, rfl, h, r⟩ := q.lst_inv
      rw [blsD_rep r hl] at h
      exact ⟨a, l, rfl, .inl (.inl h), k_at n k (.bl _)⟩
    · cases e
  · cases e
theorem cd_any : CdD X C (rAny X.K) fAny := by
  intro c m ds vs d Q n qs e k
  unfold fAny at e
  split at e
  · split at e
    · rename_i l hl
      cases e
      obtain ⟨v, rfl, q⟩ := seesL1 qs
      obtain ⟨a, ws, rfl, h, r⟩ := q.lst_inv
      rw [blsD_rep r hl] at h
      exact ⟨a, l, rfl, .inl (.inl h), k_at n k (.bl _)⟩
    · cases e
  · cases e
def fSum : List D → Option D
  | [.lst xs] => match intsD xs with | some l => some (.int l.sum) | none => none
  | _ => none
theorem cd_sum : CdD X C (rSum X.K) fSum := by
  intro c m ds vs d Q n qs e k
  unfold fSum at e
  split at e
  · split at e
    · rename_i l hl
      cases e
      obtain ⟨v, rfl, q⟩ := seesL1 qs
      obtain ⟨a, ws, rfl, h, r⟩ := q.lst_inv
      rw [intsD_rep r hl] at h
      exact ⟨a, l, rfl, .inl (.inl h), k_at n k (.int _)⟩
    · cases e
  · cases e
/-- the greatest, the least of some numbers -/
def maxI : List Int → Option Int
  | [] => none
  | a :: l => some (l.foldl max a)
def minI : List Int → Option Int
  | [] => none
  | a :: l => some (l.foldl min a)
theorem foldl_max_le (l : List Int) : ∀ a : Int, a ≤ l.foldl max a ∧ ∀ x ∈ l, x ≤ l.foldl max a := by
  induction l with
  | nil => intro a; simp
  | cons b l ih =>
    intro a
    obtain ⟨h1, h2⟩ := ih (max a b)
    rw [List.foldl_cons]
    refine ⟨by omega, fun x hx => ?_⟩
    rcases List.mem_cons.mp hx with rfl | hx
    · omega
    · exact h2 x hx
theorem foldl_max_mem (l : List Int) : ∀ a : Int, l.foldl max a = a ∨ l.foldl max a ∈ l := by
  induction l with
  | nil => intro a; simp
  | cons b l ih =>
    intro a
    rw [List.foldl_cons]
    rcases ih (max a b) with h | h
    · by_cases q : a ≤ b
      · exact .inr (by rw [h, Int.max_eq_right q]; exact List.mem_cons_self)
      · exact .inl (by rw [h, Int.max_eq_left (by omega)])
    · exact .inr (List.mem_cons_of_mem _ h)
theorem foldl_min_le (l : List Int) : ∀ a : Int, l.foldl min a ≤ a ∧ ∀ x ∈ l, l.foldl min a ≤ x := by
  induction l with
  | nil => intro a; simp
  | cons b l ih =>
    intro a
    obtain ⟨h1, h2⟩ := ih (min a b)
    rw [List.foldl_cons]
    refine ⟨by omega, fun x hx => ?_⟩
    rcases List.mem_cons.mp hx with rfl | hx
    · omega
    · exact h2 x hx
theorem foldl_min_mem (l : List Int) : ∀ a : Int, l.foldl min a = a ∨ l.foldl min a ∈ l := by
  induction l with
  | nil => intro a; simp
  | cons b l ih =>
    intro a
    rw [List.foldl_cons]
    rcases ih (min a b) with h | h
    · by_cases q : a ≤ b
      · exact .inl (by rw [h, Int.min_eq_left q])
      · exact .inr (by rw [h, Int.min_eq_right (by omega)]; exact List.mem_cons_self)
    · exact .inr (List.mem_cons_of_mem _ h)
theorem maxI_only {l : List Int} {m x : Int} (h : maxI l = some m) (hx : x ∈ l) (ha : ∀ y ∈ l, y ≤ x) : x = m := by
  cases l with
  | nil => cases hx
  | cons a l =>
    cases h
    obtain ⟨h1, h2⟩ := foldl_max_le l a
    have h3 : x ≤ l.foldl max a := by
      rcases List.mem_cons.mp hx with rfl | hx
      · exact h1
      · exact h2 x hx
    have h4 : l.foldl max a ≤ x := by
      rcases foldl_max_mem l a with h | h
      · rw [h]; exact ha a List.mem_cons_self
      · exact ha _ (List.mem_cons_of_mem _ h)
    omega
theorem minI_only {l : List Int} {m x : Int} (h : minI l = some m) (hx : x ∈ l) (ha : ∀ y ∈ l, x ≤ y) : x = m := by
  cases l with
  | nil => cases hx
  | cons a l =>
    cases h
    obtain ⟨h1, h2⟩ := foldl_min_le l a
    have h3 : l.foldl min a ≤ x := by
      rcases List.mem_cons.mp hx with rfl | hx
      · exact h1
      · exact h2 x hx
    have h4 : x ≤ l.foldl min a := by
      rcases foldl_min_mem l a with h | h
      · rw [h]; exact ha a List.mem_cons_self
      · exact ha _ (List.mem_cons_of_mem _ h)
    omega
def fMax : List D → Option D
  | [.lst xs] => match intsD xs with | some l => (maxI l).map .int | none => none
  | [.int i, .int j] => some (.int (if j > i then j else i))
  | _ => none
def fMin : List D → Option D
  | [.lst xs] => match intsD xs with | some l => (minI l).map .int | none => none
  | [.int i, .int j] => some (.int (if j < i then j else i))
  | _ => none
def rMaxD (K : PySem.W.Frag) : List V → Hp → VK → Prop := fun xs H Q => rMax K xs H Q ∨ ∃ i j, xs = [.int i, .int j] ∧ Q (.int (if j > i then j else i)) H
def rMinD (K : PySem.W.Frag) : List V → Hp → VK → Prop := fun xs H Q => rMin K xs H Q ∨ ∃ i j, xs = [.int i, .int j] ∧ Q (.int (if j < i then j else i)) H
theorem cr_maxD (hc : X.calm = true) : CallR X (.builtin "max") (rMaxD X.K) := CallR.or (cr_max hc) (call_max2 hc)
theorem cr_minD (hc : X.calm = true) : CallR X (.builtin "min") (rMinD X.K) := CallR.or (cr_min hc) (call_min2 hc)
theorem cd_max : CdD X C (rMaxD X.K) fMax := by
  intro c m ds vs d Q n qs e k
  unfold fMax at e
  split at e
  · split at e
    · rename_i l hl
      obtain ⟨i, h1, h2⟩ := Option.map_eq_some_iff.mp e
      subst h2
      obtain ⟨v, rfl, q⟩ := seesL1 qs
      obtain ⟨a, ws, rfl, h, r⟩ := q.lst_inv
      rw [intsD_rep r hl] at h
      refine .inl ⟨a, l, rfl, .inl (.inl h), ?_, fun x hx ha => ?_⟩
      · cases l with | nil => cases h1 | cons _ _ => simp
      · rw [maxI_only h1 hx ha]; exact k_at n k (.int _)
    · cases e
  · cases e
    obtain ⟨v, w, rfl, q1, q2⟩ := seesL2 qs
    exact .inr ⟨_, _, by rw [q1.int_inv, q2.int_inv], k_at n k (.int _)⟩
  · cases e
theorem cd_min : CdD X C (rMinD X.K) fMin := by
  intro c m ds vs d Q n qs e k
  unfold fMin at e
  split at e
  · split at e
    · rename_i l hl
      obtain ⟨i, h1, h2⟩ := Option.map_eq_some_iff.mp e
      subst h2
      obtain ⟨v, rfl, q⟩ := seesL1 qs
      obtain ⟨a, ws, rfl, h, r⟩ := q.lst_inv
      rw [intsD_rep r hl] at h
      refine .inl ⟨a, l, rfl, .inl (.inl h), ?_, fun x hx ha => ?_⟩
      · cases l with | nil => cases h1 | cons _ _ => simp
      · rw [minI_only h1 hx ha]; exact k_at n k (.int _)
    · cases e
  · cases e
    obtain ⟨v, w, rfl, q1, q2⟩ := seesL2 qs
    exact .inr ⟨_, _, by rw [q1.int_inv, q2.int_inv], k_at n k (.int _)⟩
  · cases e
/-! list, tuple, int, str -/
def kD : Key → D
  | .inl i => .int i
  | .inr x => .str x
theorem kD_rep (c : RC) (k : Key) : Rep c (kD k) (kV k) := by cases k <;> constructor
def fList : List D → Option D
  | [.lst xs] => some (.lst xs)
  | [.tup xs] => some (.lst xs)
  | [.dic kvs] => some (.lst (kvs.map fun kv => kD kv.1))
  | _ => none
theorem call_list_dKr (hc : X.calm = true) : CallR X (.type "list") (fun xs H Q => ∃ p kvs, xs = [.ref p] ∧ Rd H p (.dK kvs) ∧ ∀ q, H q = none → Q (.ref q) (upd H q (.lst (kvs.map fun kv => kV kv.1)))) := by
  intro pins s σ H xs us Q I r h
  obtain ⟨p, kvs, e, hk, q⟩ := h
  subst e
  obtain ⟨u, eu, rx⟩ := vals1 r
  subst eu
  obtain rfl : u = Value.ref p := rx
  obtain ⟨z, lo, vs, rk, hd⟩ := (show ObjOk X.prog X.w H s.heap p (.dK kvs) from hk.ok I.hok)
  obtain ⟨ep, hat⟩ := hd.dictAt
  have hl : kvs.length = vs.length := Paired.length rk
  refine PySem.W.kdl_call (PySem.W.kdl_dict (knd := mixKind X.prog X.w) (kvs := vs) (ep := ep) lo) (I.ok.hd hc) hat (by rw [← hl]; exact z) fun h' tk acc' c' hkeep hS hacc => ?_
  refine ⟨.ref s.heap.objs.size, upd H s.heap.objs.size (.lst (kvs.map fun kv => kV kv.1)), I.laid hkeep (Nat.le_refl _) (show ObjOk X.prog X.w _ _ _ (.lst (kvs.map fun kv => kV kv.1)) from ⟨?_, acc'.toList, c', ?_, ?_⟩), rfl, q _ (I.hok.fresh (Nat.le_refl _))⟩
  · rw [List.length_map]; exact z
  · have el : acc'.toList.length = acc'.size := by simp
    refine vals_of_at (by rw [List.length_map, el, hacc.1, hl]) fun j x w h1 h2 => ?_
    obtain ⟨k, y, hky, hi⟩ := hacc.2 j w (by rw [← Array.getElem?_toList]; exact h2)
    have e1 : (kvs.map (·.1))[j]? = some k := by
      rw [KV.keys rk, List.getElem?_map, hky] <;> rfl
    have e2 : (kvs.map fun kv => kV kv.1)[j]? = some (kV k) := by
      have e3 : (kvs.map fun kv => kV kv.1) = (kvs.map (·.1)).map kV := by rw [List.map_map] <;> rfl
      rw [e3, List.getElem?_map, e1] <;> rfl
    rw [e2] at h1
    cases h1
    exact keyIs_rel hi
  · rw [Array.toArray_toList]; exact hS
theorem keys_rep {c : RC} : ∀ {xs : List (Key × D)} {vs : List (Key × V)}, RepsK c xs vs → Reps c (xs.map fun kv => kD kv.1) (vs.map fun kv => kV kv.1)
  | _, _, .nil => .nil
  | _, _, .cons r t => .cons (by show Rep c (kD _) (kV _); rw [r.1]; exact kD_rep c _) (keys_rep t)
def rListG (K : PySem.W.Frag) : List V → Hp → VK → Prop := fun xs H Q => (∃ p ys, xs = [.ref p] ∧ (SqL K H p ys ∨ SqT K H p ys) ∧ ∀ l, H l = none → Q (.ref l) (upd H l (.lst ys))) ∨ ∃ p kvs, xs = [.ref p] ∧ Rd H p (.dK kvs) ∧ ∀ q, H q = none → Q (.ref q) (upd H q (.lst (kvs.map fun kv => kV kv.1)))
theorem cr_listD (hc : X.calm = true) : CallR X (.type "list") (rListG X.K) := CallR.or call_list_of (call_list_dKr hc)
theorem cd_list : CdD X C (rListG X.K) fList := by
  intro c m ds vs d Q n qs e k
  unfold fList at e
  split at e
  · cases e
    obtain ⟨v, rfl, q⟩ := seesL1 qs
    obtain ⟨a, ws, rfl, h, r⟩ := q.lst_inv
    exact .inl ⟨a, ws, rfl, .inl (.inl (.inl h)), fun l hl => k_lst n k r l hl⟩
  · cases e
    obtain ⟨v, rfl, q⟩ := seesL1 qs
    obtain ⟨a, ws, rfl, h, r⟩ := q.tup_inv
    rw [n.K] at h
    exact .inl ⟨a, ws, rfl, .inr h, fun l hl => k_lst n k r l hl⟩
  · rename_i kvs
    cases e
    obtain ⟨v, rfl, q⟩ := seesL1 qs
    obtain ⟨a, ws, rfl, h, r⟩ := q.dic_inv
    exact .inr ⟨a, ws, rfl, h, fun l hl => k_lst n k (keys_rep r) l hl⟩
  · cases e
def fTuple : List D → Option D
  | [.lst xs] => some (.tup xs)
  | [.tup xs] => some (.tup xs)
  | _ => none
theorem cd_tuple : CdD X C (fun xs H Q => ∃ p ys, xs = [.ref p] ∧ ((SqL X.K H p ys ∧ ∀ l, H l = none → Q (.ref l) (upd H l (.tup ys))) ∨ (SqT X.K H p ys ∧ Q (.ref p) H))) fTuple := by
  intro c m ds vs d Q n qs e k
  unfold fTuple at e
  split at e
  · cases e
    obtain ⟨v, rfl, q⟩ := seesL1 qs
    obtain ⟨a, ws, rfl, h, r⟩ := q.lst_inv
    exact ⟨a, ws, rfl, .inl ⟨.inl (.inl h), fun l hl => k_tup n k r l hl⟩⟩
  · cases e
    obtain ⟨v, rfl, q⟩ := seesL1 qs
    obtain ⟨a, ws, rfl, h, r⟩ := q.tup_inv
    have h' := h
    rw [n.K] at h
    exact ⟨a, ws, rfl, .inr ⟨h, k_at n k (.tup' h' r)⟩⟩
  · cases e
def fInt : List D → Option D
  | [.int i] => some (.int i)
  | [.bl b] => some (.int (if b then 1 else 0))
  | [.str z] => if z.length ≤ 640 then (PySem.intText? z).map .int else none
  | _ => none
def rIntD : List V → Hp → VK → Prop := fun xs H Q => ((∃ i, xs = [.int i] ∧ Q (.int i) H) ∨ ∃ k, xs = [.bl k] ∧ Q (.int (if k then 1 else 0)) H) ∨ ∃ a n, xs = [.str a] ∧ PySem.intText? a = some n ∧ a.length ≤ 640 ∧ Q (.int n) H
theorem cr_intD : CallR X (.type "int") rIntD := CallR.or call_int1 call_int_str
theorem cd_int : CdD X C rIntD fInt := by
  intro c m ds vs d Q n qs e k
  unfold fInt at e
  split at e
  · cases e
    obtain ⟨v, rfl, q⟩ := seesL1 qs
    exact .inl (.inl ⟨_, by rw [q.int_inv], k_at n k (.int _)⟩)
  · cases e
    obtain ⟨v, rfl, q⟩ := seesL1 qs
    exact .inl (.inr ⟨_, by rw [q.bl_inv], k_at n k (.int _)⟩)
  · split at e
    · rename_i h
      obtain ⟨i, h1, h2⟩ := Option.map_eq_some_iff.mp e
      subst h2
      obtain ⟨v, rfl, q⟩ := seesL1 qs
      exact .inr ⟨_, i, by rw [q.str_inv], h1, h, k_at n k (.int _)⟩
    · cases e
  · cases e
def fStr : List D → Option D
  | [.int i] => if i.natAbs.log2 < 1920 then some (.str (toString i)) else none
  | _ => none
theorem cd_str : CdD X C (fun xs H Q => ∃ i, xs = [.int i] ∧ i.natAbs.log2 < 1920 ∧ Q (.str (toString i)) H) fStr := by
  intro c m ds vs d Q n qs e k
  unfold fStr at e
  split at e
  · split at e
    · rename_i h
      cases e
      obtain ⟨v, rfl, q⟩ := seesL1 qs
      exact ⟨_, by rw [q.int_inv], h, k_at n k (.str _)⟩
    · cases e
  · cases e
/-! sorted of texts -/
def sortedBy {α : Type} (le : α → α → Bool) (l : List α) : List α := l.mergeSort le
/-- isinstance(x, T), T built in -/
def tyD : D → Option String
  | .non => some "NoneType"
  | .bl _ => some "bool"
  | .int _ => some "int"
  | .str _ => some "str"
  | .lst _ => some "list"
  | .tup _ => some "tuple"
  | .dic _ => some "dict"
  | .dit _ => some "dict"
  | _ => none
end
end DL
/-! DL9: what is walked; comprehensions. -/
namespace DL
open PySem PySem.Spec PyProof.Rows L2

theorem PI.or {X : Cx} {tg e : Expr} {t t' : TI} (h : PI X tg e t) (h' : PI X tg e t') : PI X tg e (fun σ H R => t σ H R ∨ t' σ H R) := ⟨fun pins s σ H R I q => by
  rcases q with q | q
  · exact h.run pins s σ H R I q
  · exact h'.run pins s σ H R I q⟩
abbrev W0 : WX := fun _ _ _ _ => False
section
variable {X : Cx} {C : CE} {W : WX} {tg : Expr}
/-- the items of a value -/
def itemsD : D → Option (List D)
  | .lst xs => some xs
  | .tup xs => some xs
  | .str z => some (z.cps.toList.map fun c => .str ⟨#[c]⟩)
  | .dic kvs => some (kvs.map fun kv => kD kv.1)
  | _ => none
def iSeq (f : DE) : DA := fun r m => (f r m).bind fun d m => ofO m (itemsD d)
theorem walk_at {c : RC} {xs : List D} {J : It} (h : ∀ c' m', Ext0 c c' → SRep c' m' → (∀ i d, xs[i]? = some d → J.go i c'.H ∧ ∀ x H', J.yld i c'.H x H' → H' = c'.H ∧ Rep c' d x) ∧ ∀ i, xs.length ≤ i → J.stop i c'.H) : WalkD c xs J := fun c' m' x s i =>
  ⟨fun d hd => ⟨((h c' m' x s).1 i d hd).1, fun v H' y => by
    obtain ⟨e, q⟩ := ((h c' m' x s).1 i d hd).2 v H' y
    exact ⟨c', e.symm, Ext.refl _, s, q⟩⟩, (h c' m' x s).2 i⟩
theorem walk_lst {c : RC} {a : Addr} {xs : List D} {vs : List V} {K : PySem.W.Frag} (w : ¬ c.W a) (h : c.H a = some (.lst vs)) (r : Reps c xs vs) (wk : WOk c) : WalkD c xs (Itl K a) := walk_at fun c' m' x s => by
  have h' : SqL K c'.H a vs := .inl (.inl ((x.H _ _ h w).same fun z => z))
  have r' := r.mono0 x wk
  refine ⟨fun i d hd => ?_, fun i hl => ⟨vs, h', by rw [r.length]; exact hl⟩⟩
  obtain ⟨v, hv, q⟩ := Paired.get r' hd
  refine ⟨⟨vs, v, h', hv⟩, fun y H' ⟨e, hy⟩ => ⟨e, ?_⟩⟩
  have := hy vs h'
  rw [hv] at this; cases this
  exact q
theorem walk_tup {c : RC} {a : Addr} {xs : List D} {vs : List V} (h : SqT c.K c.H a vs) (r : Reps c xs vs) (wk : WOk c) : WalkD c xs (Itt c.K a) := walk_at fun c' m' x s => by
  have h' : SqT c'.K c'.H a vs := x.sqT wk h
  rw [x.K] at h'
  have r' := r.mono0 x wk
  refine ⟨fun i d hd => ?_, fun i hl => ⟨vs, h', by rw [r.length]; exact hl⟩⟩
  obtain ⟨v, hv, q⟩ := Paired.get r' hd
  refine ⟨⟨vs, v, h', hv⟩, fun y H' ⟨e, hy⟩ => ⟨e, ?_⟩⟩
  have := hy vs h'
  rw [hv] at this; cases this
  exact q
theorem walk_str {c : RC} {z : Str} : WalkD c (z.cps.toList.map fun c => .str ⟨#[c]⟩) (Its z) := walk_at fun c' m' x s => by
  refine ⟨fun i d hd => ?_, fun i hl => by simp at hl; exact hl⟩
  rw [List.getElem?_map] at hd
  obtain ⟨u, h1, h2⟩ := Option.map_eq_some_iff.mp hd
  subst h2
  have h1' : z.cps[i]? = some u := by simpa using h1
  have hi : i < z.cps.size := (Array.getElem?_eq_some_iff.mp h1').1
  refine ⟨hi, fun y H' ⟨e, cc, h3, h4⟩ => ⟨e, ?_⟩⟩
  rw [h1'] at h3; cases h3
  subst h4
  exact .str _
def stepsI (lo st : Int) (n : Nat) : List D := (List.range n).map fun i => .int (lo + (i : Nat) * st)
theorem stepsI_at {lo st : Int} {n i : Nat} {d : D} (h : (stepsI lo st n)[i]? = some d) : i < n ∧ d = .int (lo + (i : Nat) * st) := by
  unfold stepsI at h
  rw [List.getElem?_map] at h
  obtain ⟨u, h1, h2⟩ := Option.map_eq_some_iff.mp h
  have hl := (List.getElem?_eq_some_iff.mp h1).1
  simp at hl
  rw [List.getElem?_range hl] at h1
  cases h1
  exact ⟨hl, h2.symm⟩
theorem walk_rng {c : RC} {lo : Int} {n : Nat} : WalkD c (stepsI lo 1 n) (Itr lo n) := walk_at fun c' m' x s => by
  refine ⟨fun i d hd => ?_, fun i hl => by simp [stepsI] at hl; exact hl⟩
  obtain ⟨h1, rfl⟩ := stepsI_at hd
  refine ⟨h1, fun y H' ⟨e, h⟩ => ⟨e, ?_⟩⟩
  subst h
  rw [Int.mul_one]; exact .int _
theorem walk_rngc {c : RC} {lo st : Int} {n : Nat} : WalkD c (stepsI lo st n) (Itc lo st n) := walk_at fun c' m' x s => by
  refine ⟨fun i d hd => ?_, fun i hl => by simp [stepsI] at hl; exact hl⟩
  obtain ⟨h1, rfl⟩ := stepsI_at hd
  exact ⟨h1, fun y H' ⟨e, h⟩ => ⟨e, h ▸ .int _⟩⟩
/-- what is walked in new pairs -/
theorem walk_pair {c : RC} {ds : List D} {J : It} (h : ∀ c' m', Ext0 c c' → SRep c' m' → (∀ i d, ds[i]? = some d → J.go i c'.H ∧ ∀ x H', J.yld i c'.H x H' → ∃ T vs es, d = .tup es ∧ x = .ref T ∧ c'.H T = none ∧ H' = upd c'.H T (.tup vs) ∧ Reps c' es vs) ∧ ∀ i, ds.length ≤ i → J.stop i c'.H) : WalkD c ds J := fun c' m' x s i =>
  ⟨fun d hd => ⟨((h c' m' x s).1 i d hd).1, fun v H' y => by
    obtain ⟨T, vs, es, rfl, rfl, hT, e, r⟩ := ((h c' m' x s).1 i d hd).2 v H' y
    refine ⟨c'.put T (.tup vs), e.symm, RC.put_ext s hT, RC.put_rep s hT, ?_⟩
    exact .tup' (.inl (.inl upd_same)) (r.mono (RC.put_ext s hT) s.wok)⟩, (h c' m' x s).2 i⟩

/-! locked for good -/
def tLk (t : TE) : TE := fun σ H Q => t σ H fun x H1 => (∃ a kvs, x = .ref a ∧ H1 a = some (.dK kvs) ∧ ∀ o, Q x (upd H1 a (.frz o (.dK kvs)))) ∨ (∃ a kvs, x = .ref a ∧ H1 a = some (.dT kvs) ∧ ∀ o, Q x (upd H1 a (.frz o (.dT kvs)))) ∨ Q x H1
theorem pe_lk {e : Expr} {t : TE} (h : PE X e t) : PE X e (tLk t) := ⟨fun pins s σ H Q I hw => thn (h.run pins s σ H _ I hw) fun v s1 ⟨x, H1, I1, r1, q1⟩ => by
  rcases q1 with ⟨a, kvs, e1, e2, q⟩ | ⟨a, kvs, e1, e2, q⟩ | q
  · obtain ⟨o, I2⟩ := I1.lock e2 trivial
    exact ⟨x, _, I2, r1, q o⟩
  · obtain ⟨o, I2⟩ := I1.lock e2 trivial
    exact ⟨x, _, I2, r1, q o⟩
  · exact ⟨x, H1, I1, r1, q⟩⟩
def RC.lk (c : RC) (a : Addr) (o : Obj) (u : HO) : RC := { c with H := upd c.H a (.frz o u) }
theorem lk_ext {c : RC} {m : Store} {a : Addr} {o : Obj} {u : HO} (s : SRep c m) (h : c.H a = some u) (w : ¬ c.W a) (d : IsDc u) : Ext c (c.lk a o u) :=
  ⟨⟨rfl, rfl, ⟨[], by simp [RC.lk]⟩, fun b v hb _ => by
    show Stands v (upd c.H a _ b)
    by_cases e : b = a
    · subst e
      rw [h] at hb; cases hb
      rw [upd_same]; exact .inr ⟨d, o, rfl⟩
    · rw [upd_ne e]; exact .inl hb, fun b h => .inl h⟩, rfl, fun b hb => by
    show upd c.H a _ b = _
    exact upd_ne fun z => w (by rw [← z]; exact (s.live b).mpr (.inr hb))⟩
theorem lk_rep {c : RC} {m : Store} {a : Addr} {o : Obj} {u : HO} (s : SRep c m) (h : c.H a = some u) (w : ¬ c.W a) (d : IsDc u) : SRep (c.lk a o u) m := by
  refine ⟨s.len, s.nd, s.live, fun n b dd h1 h2 => ?_, fun n b h1 => ?_, fun b hb => ?_, s.apart⟩
  · have ne : b ≠ a := fun z => w (by rw [← z]; exact (s.live b).mpr (.inl ⟨n, dd, h1, h2⟩))
    exact (s.cell n b dd h1 h2).mono (lk_ext s h w d) s.wok (upd_ne ne)
  · obtain ⟨v, hv⟩ := s.there n b h1
    exact ((lk_ext (o := o) s h w d).H b v hv) |> fun q => by
      show ∃ u', upd c.H a _ b = some u'
      by_cases e : b = a
      · rw [e, upd_same]; exact ⟨_, rfl⟩
      · rw [upd_ne e]; exact ⟨v, hv⟩
  · obtain ⟨v, hv, mu⟩ := s.tmp b hb
    have ne : b ≠ a := fun z => w (by rw [← z]; exact (s.live b).mpr (.inr hb))
    exact ⟨v, by show upd c.H a _ b = _; rw [upd_ne ne]; exact hv, mu⟩
/-- an immutable dict that is walked is locked -/
theorem dic_lock {c : RC} {m : Store} {H : Hp} {a : Addr} {kvs : List (Key × D)} {vs : List (Key × V)} {Q : VK} (n : Now X.K C H c m) (w : ¬ c.W a) (h : Rd c.H a (.dK vs)) (r : RepsK c kvs vs)
    (q : ∀ c' o, Ext c c' → SRep c' m → ¬ c'.W a → c'.H a = some (.frz o (.dK vs)) → RepsK c' kvs vs → Q (.ref a) c'.H) :
    (∃ b us, V.ref a = .ref b ∧ c.H b = some (.dK us) ∧ ∀ o, Q (.ref a) (upd c.H b (.frz o (.dK us)))) ∨ (∃ b us, V.ref a = .ref b ∧ c.H b = some (.dT us) ∧ ∀ o, Q (.ref a) (upd c.H b (.frz o (.dT us)))) ∨ Q (.ref a) c.H := by
  rcases h with h | ⟨o, h⟩
  · refine .inl ⟨a, vs, rfl, h, fun o => ?_⟩
    have x := lk_ext (o := o) n.s h w trivial
    exact q (c.lk a o (.dK vs)) o x (lk_rep n.s h w trivial) w upd_same (r.mono x n.s.wok)
  · exact .inr (.inr (q c o (Ext.refl c) n.s w h r))
theorem dit_lock {c : RC} {m : Store} {H : Hp} {a : Addr} {kvs : List (List Key × D)} {vs : List (List Key × V)} {Q : VK} (n : Now X.K C H c m) (w : ¬ c.W a) (h : Rd c.H a (.dT vs)) (r : RepsK c kvs vs)
    (q : ∀ c' o, Ext c c' → SRep c' m → ¬ c'.W a → c'.H a = some (.frz o (.dT vs)) → RepsK c' kvs vs → Q (.ref a) c'.H) :
    (∃ b us, V.ref a = .ref b ∧ c.H b = some (.dK us) ∧ ∀ o, Q (.ref a) (upd c.H b (.frz o (.dK us)))) ∨ (∃ b us, V.ref a = .ref b ∧ c.H b = some (.dT us) ∧ ∀ o, Q (.ref a) (upd c.H b (.frz o (.dT us)))) ∨ Q (.ref a) c.H := by
  rcases h with h | ⟨o, h⟩
  · refine .inr (.inl ⟨a, vs, rfl, h, fun o => ?_⟩)
    have x := lk_ext (o := o) n.s h w trivial
    exact q (c.lk a o (.dT vs)) o x (lk_rep n.s h w trivial) w upd_same (r.mono x n.s.wok)
  · exact .inr (.inr (q c o (Ext.refl c) n.s w h r))
theorem frz_at {c c' : RC} {a : Addr} {o : Obj} {u : HO} (x : Ext0 c c') (w : ¬ c.W a) (h : c.H a = some (.frz o u)) : c'.H a = some (.frz o u) := (x.H _ _ h w).same fun z => z
theorem keys_at {c : RC} {kvs : List (Key × D)} {vs : List (Key × V)} (r : RepsK c kvs vs) {i : Nat} {d : D} (h : (kvs.map fun kv => kD kv.1)[i]? = some d) : i < vs.length ∧ ∀ k v, vs[i]? = some (k, v) → d = kD k := by
  rw [List.getElem?_map] at h
  obtain ⟨p, h1, h2⟩ := Option.map_eq_some_iff.mp h
  obtain ⟨q, h3, h4⟩ := Paired.get r h1
  refine ⟨(List.getElem?_eq_some_iff.mp h3).1, fun k v e => ?_⟩
  rw [h3] at e; cases e
  rw [← h2, h4.1]
theorem walk_keys {c : RC} {a : Addr} {o : Obj} {kvs : List (Key × D)} {vs : List (Key × V)} (w : ¬ c.W a) (h : c.H a = some (.frz o (.dK vs))) (r : RepsK c kvs vs) : WalkD c (kvs.map fun kv => kD kv.1) (Itk a o vs) := walk_at fun c' m' x s => by
  have h' := frz_at x w h
  refine ⟨fun i d hd => ?_, fun i hl => ⟨h', by rw [(paired_at r).1]; simpa using hl⟩⟩
  obtain ⟨h1, h2⟩ := keys_at r hd
  refine ⟨⟨h', h1⟩, fun y H' ⟨e, k, v, e1, e2⟩ => ⟨e, ?_⟩⟩
  rw [h2 k v e1, e2]
  exact kD_rep _ _
theorem vals_at {c : RC} {kvs : List (Key × D)} {vs : List (Key × V)} (r : RepsK c kvs vs) {i : Nat} {d : D} (h : (kvs.map (·.2))[i]? = some d) : i < vs.length ∧ ∀ k v, vs[i]? = some (k, v) → Rep c d v := by
  rw [List.getElem?_map] at h
  obtain ⟨p, h1, h2⟩ := Option.map_eq_some_iff.mp h
  obtain ⟨q, h3, h4⟩ := Paired.get r h1
  refine ⟨(List.getElem?_eq_some_iff.mp h3).1, fun k v e => ?_⟩
  rw [h3] at e; cases e
  rw [← h2]; exact h4.2
theorem walk_vals {c : RC} {a : Addr} {o : Obj} {kvs : List (Key × D)} {vs : List (Key × V)} (wk : WOk c) (w : ¬ c.W a) (h : c.H a = some (.frz o (.dK vs))) (r : RepsK c kvs vs) : WalkD c (kvs.map (·.2)) (Itd a o vs) := walk_at fun c' m' x s => by
  have h' := frz_at x w h
  refine ⟨fun i d hd => ?_, fun i hl => ⟨h', by rw [(paired_at r).1]; simpa using hl⟩⟩
  obtain ⟨h1, h2⟩ := vals_at (r.mono0 x wk) hd
  exact ⟨⟨h', h1⟩, fun y H' ⟨e, k, e1⟩ => ⟨e, h2 k y e1⟩⟩
def pairD (kv : Key × D) : D := .tup [kD kv.1, kv.2]
theorem walk_items {c : RC} {a : Addr} {o : Obj} {kvs : List (Key × D)} {vs : List (Key × V)} (wk : WOk c) (w : ¬ c.W a) (h : c.H a = some (.frz o (.dK vs))) (r : RepsK c kvs vs) : WalkD c (kvs.map pairD) (Iti a o vs) := walk_pair fun c' m' x s => by
  have h' := frz_at x w h
  have r' := r.mono0 x wk
  refine ⟨fun i d hd => ?_, fun i hl => ⟨h', by rw [(paired_at r).1]; simpa using hl⟩⟩
  rw [List.getElem?_map] at hd
  obtain ⟨p, h1, h2⟩ := Option.map_eq_some_iff.mp hd
  obtain ⟨q, h3, h4⟩ := Paired.get r' h1
  refine ⟨⟨h', (List.getElem?_eq_some_iff.mp h3).1⟩, fun y H' ⟨T, k, v, e1, e2, e3, e4⟩ => ?_⟩
  rw [h3] at e1; cases e1
  exact ⟨T, _, [kD p.1, p.2], h2.symm, e2, e3, e4, .cons (by rw [h4.1]; exact kD_rep _ _) (.cons h4.2 .nil)⟩
theorem walk_enum {c : RC} {a : Addr} {xs : List D} {vs : List V} {K : PySem.W.Frag} (w : ¬ c.W a) (h : c.H a = some (.lst vs)) (r : Reps c xs vs) (wk : WOk c) : WalkD c (xs.zipIdx.map fun p => .tup [.int (p.2 : Nat), p.1]) (Ite K a) := walk_pair fun c' m' x s => by
  have h' : SqL K c'.H a vs := .inl (.inl ((x.H _ _ h w).same fun z => z))
  have r' := r.mono0 x wk
  refine ⟨fun i d hd => ?_, fun i hl => ⟨vs, h', by rw [r.length]; simpa using hl⟩⟩
  rw [List.getElem?_map] at hd
  obtain ⟨p, h1, h2⟩ := Option.map_eq_some_iff.mp hd
  rw [List.getElem?_zipIdx] at h1
  obtain ⟨y, h3, h4⟩ := Option.map_eq_some_iff.mp h1
  subst h4
  obtain ⟨v, h5, h6⟩ := Paired.get r' h3
  refine ⟨⟨vs, v, h', h5⟩, fun y H' ⟨T, u, e1, e2, e3, e4⟩ => ⟨T, _, [.int (i : Nat), _], by simpa using h2.symm, e1, e2, e3, .cons (.int _) (.cons ?_ .nil)⟩⟩
  have := e4 vs h'
  rw [h5] at this; cases this
  exact h6
theorem walk_zip {c : RC} {a b : Addr} {xs ys : List D} {vs us : List V} {K : PySem.W.Frag} (w : ¬ c.W a) (h : c.H a = some (.lst vs)) (r : Reps c xs vs) (w2 : ¬ c.W b) (h2 : c.H b = some (.lst us)) (r2 : Reps c ys us) (wk : WOk c) : WalkD c ((xs.zip ys).map fun p => .tup [p.1, p.2]) (Itz K a b) := walk_pair fun c' m' x s => by
  have h' : SqL K c'.H a vs := .inl (.inl ((x.H _ _ h w).same fun z => z))
  have h2' : SqL K c'.H b us := .inl (.inl ((x.H _ _ h2 w2).same fun z => z))
  have r' := r.mono0 x wk
  have r2' := r2.mono0 x wk
  refine ⟨fun i d hd => ?_, fun i hl => ⟨vs, us, h', h2', by rw [r.length, r2.length]; simp at hl; omega⟩⟩
  rw [List.getElem?_map] at hd
  obtain ⟨p, h1, h4⟩ := Option.map_eq_some_iff.mp hd
  rw [List.getElem?_zip_eq_some] at h1
  obtain ⟨v, h5, h6⟩ := Paired.get r' h1.1
  obtain ⟨u, h7, h8⟩ := Paired.get r2' h1.2
  refine ⟨⟨vs, us, v, u, h', h2', h5, h7⟩, fun y H' ⟨T, p1, p2, e1, e2, e3, e4, e5⟩ => ⟨T, _, [p.1, p.2], h4.symm, e1, e2, e3, .cons ?_ (.cons ?_ .nil)⟩⟩
  · have := e4 vs h'
    rw [h5] at this; cases this
    exact h6
  · have := e5 us h2'
    rw [h7] at this; cases this
    exact h8

/-! ### the rules -/
section
variable {e : Expr} {fe : DE} {p pos apos cpos tpos : Pos}
theorem di_seq (he : PE X e (tE X.K C W fe)) : PI X tg e (tI X.K C W (iSeq fe)) :=
  PI.imp (PI.or (PI.or (pi_list he) (pi_tup he)) (PI.or (pi_str he) (pi_keys (pe_lk he)))) fun σ H R ⟨c, m, r, n, er, w⟩ => by
    unfold iSeq at w
    cases ef : fe r m with
    | bad => rw [ef] at w; exact False.elim w
    | ex k fs m1 => rw [ef] at w; exact .inl (.inl ⟨c, m, r, n, er, by rw [ef]; exact w⟩)
    | ok d m1 =>
      rw [ef] at w
      simp only [bind_ok] at w
      cases d with
      | lst xs => exact .inl (.inl ⟨c, m, r, n, er, by
          rw [ef]; intro c1 v x s q
          obtain ⟨a, vs, rfl, wa, ha, ra⟩ := q.lst_inv
          exact ⟨a, rfl, ⟨vs, .inl (.inl ha)⟩, w c1 _ x s (walk_lst wa ha ra s.wok)⟩⟩)
      | tup xs => exact .inl (.inr ⟨c, m, r, n, er, by
          rw [ef]; intro c1 v x s q
          obtain ⟨a, vs, rfl, ha, ra⟩ := q.tup_inv
          have := w c1 _ x s (walk_tup ha ra s.wok)
          rw [x.K, n.K] at ha this
          exact ⟨a, rfl, ⟨vs, ha⟩, this⟩⟩)
      | str z => exact .inr (.inl ⟨c, m, r, n, er, by
          rw [ef]; intro c1 v x s q
          cases q
          exact ⟨z, rfl, w c1 _ x s walk_str⟩⟩)
      | dic kvs => exact .inr (.inr ⟨c, m, r, n, er, by
          rw [ef]; intro c1 v x s q
          obtain ⟨a, vs, rfl, wa, ha, ra⟩ := q.dic_inv
          refine dic_lock (Q := fun x H1 => ∃ d o, x = .ref d ∧ ((∃ kvs, H1 d = some (.frz o (.dK kvs)) ∧ R (Itk d o kvs) H1) ∨ ∃ kvs, H1 d = some (.frz o (.dT kvs)) ∧ R (Itkt d o kvs) H1)) (n.next x s) wa ha ra fun c2 o x2 s2 w2 h2 r2 => ⟨a, o, rfl, .inl ⟨vs, h2, w c2 _ (x.trans x2) s2 (walk_keys w2 h2 r2)⟩⟩⟩)
      | _ => exact False.elim w
def iItm (fe : DE) : DA := fun r m => (fe r m).bind fun d m => match d with | .dic kvs => .ok (kvs.map pairD) m | _ => .bad
def iVal (fe : DE) : DA := fun r m => (fe r m).bind fun d m => match d with | .dic kvs => .ok (kvs.map (·.2)) m | _ => .bad
theorem di_items {elts : List Expr} {kk : Nat} (he : PE X e (tE X.K C W fe)) (hbase : attributeBase e "items" X.env (eval e X.env) = eval e X.env := by rfl) (hline : (apos.endLine == cpos.line) = true := by rfl) :
    PI X (.Tuple elts kk tpos) (.Call (.Attribute e "items" apos) [] [] cpos) (tI X.K C W (iItm fe)) :=
  PI.imp (pi_items (pe_lk he) hbase hline) fun σ H R ⟨c, m, r, n, er, w⟩ => tE_bind n er w fun c1 d m1 v n1 x1 er1 q w1 => by
    cases d with
    | dic kvs =>
      obtain ⟨a, vs, rfl, wa, ha, ra⟩ := q.dic_inv
      exact dic_lock (Q := fun x H1 => ∃ d o kvs, x = .ref d ∧ H1 d = some (.frz o (.dK kvs)) ∧ R (Iti d o kvs) H1) n1 wa ha ra fun c2 o x2 s2 w2 h2 r2 => ⟨a, o, vs, rfl, h2, w1 c2 _ x2 s2 (walk_items s2.wok w2 h2 r2)⟩
    | _ => exact False.elim w1
theorem di_values (he : PE X e (tE X.K C W fe)) (hbase : attributeBase e "values" X.env (eval e X.env) = eval e X.env := by rfl) (hline : (apos.endLine == cpos.line) = true := by rfl) :
    PI X tg (.Call (.Attribute e "values" apos) [] [] cpos) (tI X.K C W (iVal fe)) :=
  PI.imp (pi_values (pe_lk he) hbase hline) fun σ H R ⟨c, m, r, n, er, w⟩ => tE_bind n er w fun c1 d m1 v n1 x1 er1 q w1 => by
    cases d with
    | dic kvs =>
      obtain ⟨a, vs, rfl, wa, ha, ra⟩ := q.dic_inv
      exact dic_lock (Q := fun x H1 => ∃ d o kvs, x = .ref d ∧ H1 d = some (.frz o (.dK kvs)) ∧ R (Itd d o kvs) H1) n1 wa ha ra fun c2 o x2 s2 w2 h2 r2 => ⟨a, o, vs, rfl, h2, w1 c2 _ x2 s2 (walk_vals s2.wok w2 h2 r2)⟩
    | _ => exact False.elim w1
/-! ranges -/
def rngB (i : Int) : Bool := decide (-(2 ^ 62) ≤ i) && decide (i < 2 ^ 62)
theorem rngB_iff {i : Int} : rngB i = true ↔ -(2 ^ 62) ≤ i ∧ i < 2 ^ 62 := by simp [rngB]
def iRange1 (g : DA) : DA := fun r m => (g r m).bind fun ds m => match ds with
  | [.int j] => if rngB j = true then .ok (stepsI 0 1 j.toNat) m else .bad
  | _ => .bad
def iRange2 (g : DA) : DA := fun r m => (g r m).bind fun ds m => match ds with
  | [.int i, .int j] => if rngB i = true ∧ rngB j = true then .ok (stepsI i 1 (j - i).toNat) m else .bad
  | _ => .bad
def iRange3 (g : DA) : DA := fun r m => (g r m).bind fun ds m => match ds with
  | [.int i, .int j, .int k] => if rngB i = true ∧ rngB j = true ∧ k = -1 then .ok (stepsI i (-1) (i - j).toNat) m else .bad
  | _ => .bad
theorem di_range1 {a : Expr} {g : DA} (ha : PA X [a] (tA X.K C W g)) (hm : X.mg "range" = none) (hg : Gl X "range" := by rfl) (hs : starEach [a] X.env = [(false, eval a X.env)] := by rfl) : PI X tg (.Call (.Name "range" p) [a] [] pos) (tI X.K C W (iRange1 g)) :=
  PI.imp (pi_range1 hg hm ha hs) fun σ H R ⟨c, m, r, n, er, w⟩ => tA_bind n er w fun c1 ds m1 vs n1 x1 er1 q w1 => by
    split at w1
    · split at w1
      · rename_i j h
        obtain ⟨h1, h2⟩ := rngB_iff.mp h
        cases q with | cons q1 q2 => cases q2; cases q1; exact ⟨j, rfl, h1, h2, w1 c1 _ (Ext.refl _) n1.s walk_rng⟩
      · exact False.elim w1
    · exact False.elim w1
theorem di_range2 {a b : Expr} {g : DA} (ha : PA X [a, b] (tA X.K C W g)) (hm : X.mg "range" = none) (hg : Gl X "range" := by rfl) (hs : starEach [a, b] X.env = [(false, eval a X.env), (false, eval b X.env)] := by rfl) (hs2 : starEach [b] X.env = [(false, eval b X.env)] := by rfl) : PI X tg (.Call (.Name "range" p) [a, b] [] pos) (tI X.K C W (iRange2 g)) :=
  PI.imp (pi_range2 hg hm ha hs hs2) fun σ H R ⟨c, m, r, n, er, w⟩ => tA_bind n er w fun c1 ds m1 vs n1 x1 er1 q w1 => by
    split at w1
    · split at w1
      · rename_i i j h
        obtain ⟨h1, h2⟩ := rngB_iff.mp h.1
        obtain ⟨h3, h4⟩ := rngB_iff.mp h.2
        cases q with | cons q1 q2 => cases q2 with | cons q2 q3 => cases q3; cases q1; cases q2; exact ⟨i, j, rfl, ⟨h1, h2, h3, h4⟩, w1 c1 _ (Ext.refl _) n1.s walk_rng⟩
      · exact False.elim w1
    · exact False.elim w1
theorem di_range3 {a b d : Expr} {g : DA} (ha : PA X [a, b, d] (tA X.K C W g)) (hm : X.mg "range" = none) (hg : Gl X "range" := by rfl) (hs : starEach [a, b, d] X.env = (false, eval a X.env) :: starEach [b, d] X.env := by rfl) (hpl : (backTo pos (starEach [b, d] X.env)).any (·.1) = false := by rfl) : PI X tg (.Call (.Name "range" p) [a, b, d] [] pos) (tI X.K C W (iRange3 g)) :=
  PI.imp (pi_range3 hg hm ha hs hpl) fun σ H R ⟨c, m, r, n, er, w⟩ => tA_bind n er w fun c1 ds m1 vs n1 x1 er1 q w1 => by
    split at w1
    · split at w1
      · rename_i i j k h
        obtain ⟨h1, h2⟩ := rngB_iff.mp h.1
        obtain ⟨h3, h4⟩ := rngB_iff.mp h.2.1
        obtain rfl := h.2.2
        cases q with | cons q1 q2 => cases q2 with | cons q2 q3 => cases q3 with | cons q3 q4 =>
          cases q4; cases q1; cases q2; cases q3
          exact ⟨i, j, -1, _, rfl, RgC.neg h1 h2 h3 h4, w1 c1 _ (Ext.refl _) n1.s walk_rngc⟩
      · exact False.elim w1
    · exact False.elim w1
/-! enumerate, zip of lists -/
def iEnu (g : DA) : DA := fun r m => (g r m).bind fun ds m => match ds with
  | [.lst xs] => .ok (xs.zipIdx.map fun p => .tup [.int (p.2 : Nat), p.1]) m
  | _ => .bad
def iZp (g : DA) : DA := fun r m => (g r m).bind fun ds m => match ds with
  | [.lst xs, .lst ys] => .ok ((xs.zip ys).map fun p => .tup [p.1, p.2]) m
  | _ => .bad
theorem di_enum {elts : List Expr} {kk : Nat} {g : DA} (ha : PA X [e] (tA X.K C W g)) (hm : X.mg "enumerate" = none) (hg : Gl X "enumerate" := by rfl) (hs : starEach [e] X.env = [(false, eval e X.env)] := by rfl) : PI X (.Tuple elts kk tpos) (.Call (.Name "enumerate" p) [e] [] pos) (tI X.K C W (iEnu g)) :=
  PI.imp (pi_enum hg hm ha hs) fun σ H R ⟨c, m, r, n, er, w⟩ => tA_bind n er w fun c1 ds m1 vs n1 x1 er1 q w1 => by
    split at w1
    · cases q with | cons q1 q2 =>
        cases q2
        obtain ⟨a, us, rfl, wa, ha, ra⟩ := q1.lst_inv
        exact ⟨a, us, rfl, .inl (.inl ha), w1 c1 _ (Ext.refl _) n1.s (walk_enum wa ha ra n1.s.wok)⟩
    · exact False.elim w1
theorem di_zip {e2 : Expr} {elts : List Expr} {kk : Nat} {g : DA} (ha : PA X [e, e2] (tA X.K C W g)) (hm : X.mg "zip" = none) (hg : Gl X "zip" := by rfl) (hs : starEach [e, e2] X.env = (false, eval e X.env) :: starEach [e2] X.env := by rfl) (hpl : (backTo pos (starEach [e2] X.env)).any (·.1) = false := by rfl) : PI X (.Tuple elts kk tpos) (.Call (.Name "zip" p) [e, e2] [] pos) (tI X.K C W (iZp g)) :=
  PI.imp (pi_zip hg hm ha hs hpl) fun σ H R ⟨c, m, r, n, er, w⟩ => tA_bind n er w fun c1 ds m1 vs n1 x1 er1 q w1 => by
    split at w1
    · cases q with | cons q1 q2 => cases q2 with | cons q2 q3 =>
        cases q3
        obtain ⟨a, us, rfl, wa, ha, ra⟩ := q1.lst_inv
        obtain ⟨b, us2, rfl, wb, hb, rb⟩ := q2.lst_inv
        exact ⟨a, b, us, us2, rfl, .inl (.inl ha), .inl (.inl hb), w1 c1 _ (Ext.refl _) n1.s (walk_zip wa ha ra wb hb rb n1.s.wok)⟩
    · exact False.elim w1
end
end
end DL
/-! DL10: targets; list comprehensions. -/
namespace DL
open PySem PySem.Spec PyProof.Rows L2

/-! ### targets that keep to the places vs -/
def tGv (K : PySem.W.Frag) (C : CE) (vs : List Nat) (g : DG) : TG := fun v σ H Q => ∃ c m r d r', Now K C H c m ∧ ER c r σ ∧ Rep c d v ∧ g d r = some r' ∧ ∀ c' σ', Ext c c' → SRep c' m → ER c' r' σ' → wipe σ' vs = wipe σ vs → Q σ' c'.H
/-- stores one behind the other -/
abbrev DGs := List D → DEnv → Option DEnv
def tGsv (K : PySem.W.Frag) (C : CE) (vs : List Nat) (g : DGs) : TGs := fun us σ H Q => ∃ c m r ds r', Now K C H c m ∧ ER c r σ ∧ Reps c ds us ∧ g ds r = some r' ∧ ∀ c' σ', Ext c c' → SRep c' m → ER c' r' σ' → wipe σ' vs = wipe σ vs → Q σ' c'.H
theorem PGs.imp {X : Cx} {e : List Expr} {t t' : TGs} (h : PGs X e t) (i : ∀ v σ H Q, t' v σ H Q → t v σ H Q) : PGs X e t' := ⟨fun pins s σ H v u Q I r q => h.run pins s σ H v u Q I r (i _ _ _ _ q)⟩
theorem wipe_set {σ : L2.St} {i : Nat} {o : Option V} : ∀ {vs : List Nat}, i ∈ vs → wipe (σ.set i o) vs = wipe σ vs
  | v :: vs, h => by
    unfold wipe
    by_cases e : i ∈ vs
    · rw [wipe_set e]
    · have : i = v := by
        rcases List.mem_cons.mp h with h | h
        · exact h
        · exact absurd h e
      subst this
      clear h
      have q : ∀ (vs : List Nat) (σ : L2.St), i ∉ vs → (wipe (σ.set i o) vs).set i none = (wipe σ vs).set i none := by
        intro vs
        induction vs with
        | nil => intro σ _; simp [wipe]
        | cons u us ih =>
          intro σ hu
          simp only [List.mem_cons, not_or] at hu
          unfold wipe
          rw [List.set_comm _ _ (Ne.symm hu.1), ih σ hu.2, List.set_comm _ _ hu.1]
      exact q vs σ e
def gsNil : DGs := fun ds r => match ds with | [] => some r | _ => none
def gsCons (g : DG) (gs : DGs) : DGs := fun ds r => match ds with | d :: ds => (match g d r with | some r => gs ds r | none => none) | [] => none
def gTupD (gs : DGs) : DG := fun d r => match d with | .tup ds => gs ds r | _ => none
section
variable {X : Cx} {C : CE} {W : WX} {pos : Pos} {vs : List Nat}
theorem dgv_name {i : Nat} {x : Str} (hN : X.N.Nodup) (hv : i ∈ vs := by decide) (hi : X.N[i]? = some x := by rfl) (hx : Loc X.env.scope x := by first | exact Or.inl rfl | exact Or.inr rfl) (hf : X.fn x = true ∨ X.env.scope.names.lookup x = some .local := by first | exact .inl rfl | exact .inr rfl) : PG X (.Name x pos) (tGv X.K C vs (gName i)) :=
  PG.imp (pg_name hN hi hx hf) fun v σ H Q ⟨c, m, r, d, r', n, er, q, e, w⟩ => by
    cases e
    have := w c _ (Ext.refl c) n.s (er.set i q) (wipe_set hv)
    rw [n.H] at this; exact this
theorem dgvs_nil : PGs X [] (tGsv X.K C vs gsNil) := PGs.imp pgs_nil fun us σ H Q ⟨c, m, r, ds, r', n, er, q, e, w⟩ => by
  cases q with
  | nil =>
    cases e
    have := w c _ (Ext.refl c) n.s er rfl
    rw [n.H] at this; exact ⟨rfl, this⟩
  | cons _ _ => cases e
theorem dgvs_cons {e : Expr} {es : List Expr} {g : DG} {gs : DGs} (h1 : PG X e (tGv X.K C vs g)) (h2 : PGs X es (tGsv X.K C vs gs)) (hs : (assignEach (e :: es) X.env).map (·.2) = assign e X.env :: (assignEach es X.env).map (·.2) := by rfl) : PGs X (e :: es) (tGsv X.K C vs (gsCons g gs)) :=
  PGs.imp (pgs_cons h1 h2 hs) fun us σ H Q ⟨c, m, r, ds, r', n, er, q, e, w⟩ => by
    cases q with
    | nil => cases e
    | @cons d u ds us qd qs =>
      have e : (match g d r with | some r => gs ds r | none => none) = some r' := e
      cases eg : g d r with
      | none => rw [eg] at e; cases e
      | some r1 =>
        rw [eg] at e
        exact ⟨u, us, rfl, c, m, r, d, r1, n, er, qd, eg, fun c1 σ1 x1 s1 er1 w1 => ⟨c1, m, r1, ds, r', n.next x1 s1, er1, Reps.mono x1 n.s.wok qs, e, fun c2 σ2 x2 s2 er2 w2 => w c2 σ2 (x1.trans x2) s2 er2 (w2.trans w1)⟩⟩
theorem dgv_tup {es : List Expr} {k : Nat} {gs : DGs} {n : Nat} (hc : X.calm = true) (h : PGs X es (tGsv X.K C vs gs)) (hl : ∀ ds r r', gs ds r = some r' → ds.length = n) (hn : (assignEach es X.env).length = n := by rfl) (hst : (assignEach es X.env).findIdx? (·.1) = none := by rfl) : PG X (.Tuple es k pos) (tGv X.K C vs (gTupD gs)) :=
  PG.imp (pg_tup hc h hn hst) fun v σ H Q ⟨c, m, r, d, r', n1, er, q, e, w⟩ => by
    cases d with
    | tup ds =>
      obtain ⟨a, us, rfl, ha, ra⟩ := q.tup_inv
      rw [n1.H, n1.K] at ha
      exact ⟨a, us, rfl, ha, by rw [ra.length]; exact hl _ _ _ e, c, m, r, ds, r', n1, er, ra, e, w⟩
    | _ => cases e
theorem gs2_len {i j : Nat} : ∀ ds r r', gsCons (gName i) (gsCons (gName j) gsNil) ds r = some r' → ds.length = 2 := by
  intro ds r r' h
  match ds with
  | [] => cases h
  | [_] => cases h
  | [_, _] => rfl
  | _ :: _ :: _ :: _ => cases h
theorem gs3_len {i j k : Nat} : ∀ ds r r', gsCons (gName i) (gsCons (gName j) (gsCons (gName k) gsNil)) ds r = some r' → ds.length = 3 := by
  intro ds r r' h
  match ds with
  | [] => cases h
  | [_] => cases h
  | [_, _] => cases h
  | [_, _, _] => rfl
  | _ :: _ :: _ :: _ :: _ => cases h
theorem dg_of {e : Expr} {g : DG} (h : PG X e (tGv X.K C vs g)) : PG X e (tG X.K C g) := PG.imp h fun v σ H Q ⟨c, m, r, d, r', n, er, q, e, w⟩ => ⟨c, m, r, d, r', n, er, q, e, fun c' σ' x s er' _ => w c' σ' x s er'⟩
def g2 (i j : Nat) : DG := gTupD (gsCons (gName i) (gsCons (gName j) gsNil))
def g3 (i j k : Nat) : DG := gTupD (gsCons (gName i) (gsCons (gName j) (gsCons (gName k) gsNil)))
@[simp] theorem g2_tup {i j : Nat} {a b : D} {r : DEnv} : g2 i j (.tup [a, b]) r = some ((r.set i (some a)).set j (some b)) := (rfl)
@[simp] theorem g3_tup {i j k : Nat} {a b d : D} {r : DEnv} : g3 i j k (.tup [a, b, d]) r = some (((r.set i (some a)).set j (some b)).set k (some d)) := (rfl)
/-- target = value -/
def sAsg (g : DG) (f : DE) : DS := fun r m => thenS (f r m) r fun d m => match g d r with | some r' => .nx r' m | none => .bad
theorem ds_asg {tg e : Expr} {fe : DE} {g : DG} (he : PE X e (tE X.K C W fe)) (hg : PG X tg (tG X.K C g)) (hs : swapsWithSole [tg] e pos.line X.env = pure false := by rfl) (hw : swappedStores [tg] e X.env = pure none := by rfl)
    (h1 : (assignEach [tg] X.env).map (·.2) = [assign tg X.env] := by rfl) : PS X (.Assign [tg] e pos) (tS X.K C W (sAsg g fe)) :=
  PS.imp (ps_asg he hg hs hw h1) fun D σ H ⟨c, m, r, n, er, w⟩ => tE_thenS n er w fun c1 d m1 v n1 x1 er1 q w1 => by
    cases eg : g d r with
    | none => rw [eg] at w1; exact False.elim w1
    | some r' => rw [eg] at w1; exact ⟨c1, m1, r, d, r', n1, er1, q, eg, fun c' σ' x s er' => w1 c' σ' x s er'⟩
/-- a, b = x, y -/
def sPar (i j : Nat) (g : DA) : DS := fun r m => thenA (g r m) r fun ds m => match ds with | [a, b] => .nx ((r.set i (some a)).set j (some b)) m | _ => .bad
theorem tA_thenS {K : PySem.W.Frag} {c : RC} {m : Store} {r : DEnv} {σ : L2.St} {H : Hp} {De : Ends} {f : DA} {g : List D → Store → RS} (n : Now K C H c m) (er : ER c r σ) (h : SW C W c (thenA (f r m) r g) De) {R : List V → Hp → Prop}
    (k : ∀ c' d m' v, Now K C c'.H c' m' → Ext c c' → ER c' r σ → Reps c' d v → SW C W c' (g d m') De → R v c'.H) : tA K C W f σ H R := by
  refine ⟨c, m, r, n, er, ?_⟩
  cases e : f r m with
  | ok d m' => rw [e] at h; exact fun c' v x s q => k c' d m' v (n.next x s) x (er.mono x n.s.wok) q (SW.ext h x)
  | ex k fs m' => rw [e] at h; exact fun c' dd vs x s a b => h c' σ x (er.mono x n.s.wok) dd vs s a b
  | bad => rw [e] at h; exact h
theorem ds_par {i j : Nat} {x y : Str} {a b : Expr} {g : DA} {px py pt : Pos} {kt k2 pt2} (hc : X.calm = true) (hN : X.N.Nodup) (ha : PA X [a, b] (tA X.K C W g)) (hi : X.N[i]? = some x := by rfl) (hj : X.N[j]? = some y := by rfl) (hij : i ≠ j := by decide)
    (hx : X.env.scope.names.lookup x = some .local := by rfl) (hy : X.env.scope.names.lookup y = some .local := by rfl)
    (hw : swappedStores [.Tuple [.Name x px, .Name y py] kt pt] (.Tuple [a, b] k2 pt2) X.env = pure (some [x, y]) := by rfl)
    (hs : swapsWithSole [.Tuple [.Name x px, .Name y py] kt pt] (.Tuple [a, b] k2 pt2) pos.line X.env = pure false := by rfl) :
    PS X (.Assign [.Tuple [.Name x px, .Name y py] kt pt] (.Tuple [a, b] k2 pt2) pos) (tS X.K C W (sPar i j g)) :=
  PS.imp (ps_par hc hN hi hj hij hx hy ha hw hs) fun D σ H ⟨c, m, r, n, er, w⟩ => tA_thenS n er w fun c1 ds m1 vs n1 x1 er1 q w1 => by
    split at w1
    · cases q with | cons q1 q2 => cases q2 with | cons q2 q3 =>
        cases q3
        exact ⟨_, _, rfl, w1 c1 _ (Ext.refl _) n1.s ((er1.set i q1).set j q2)⟩
    · exact False.elim w1
end

/-! ### a block: the new list is owned while it grows -/
def RC.tmp (c : RC) (p : Addr) (o : HO) : RC := { c with T := p :: c.T, W := fun a => c.W a ∨ a = p, H := upd c.H p o }
theorem tmp_ext {c : RC} {m : Store} {p : Addr} {o : HO} (s : SRep c m) (hp : c.H p = none) : Ext0 c (c.tmp p o) :=
  ⟨rfl, rfl, ⟨[], by simp [RC.tmp]⟩, fun b u h _ => .inl (by show upd c.H p o b = _; rw [upd_ne (ne_of_none h hp)]; exact h), fun b h => by
    rcases h with h | h
    · exact .inl h
    · subst h; exact .inr hp⟩
theorem tmp_rep {c : RC} {m : Store} {p : Addr} {o : HO} (s : SRep c m) (hp : c.H p = none) (ho : Mut (some o)) : SRep (c.tmp p o) m := by
  refine ⟨s.len, s.nd, fun a => ⟨fun h => ?_, fun h => ?_⟩, fun n a d h1 h2 => ?_, fun n a h1 => ?_, fun a h => ?_, fun n a h1 => ?_⟩
  · rcases h with h | h
    · rcases (s.live a).mp h with h | h
      · exact .inl h
      · exact .inr (List.mem_cons_of_mem _ h)
    · subst h; exact .inr List.mem_cons_self
  · rcases h with h | h
    · exact .inl ((s.live a).mpr (.inl h))
    · rcases List.mem_cons.mp h with h | h
      · exact .inr h
      · exact .inl ((s.live a).mpr (.inr h))
  · have q := s.cell n a d h1 h2
    obtain ⟨u, e, _⟩ := q.mut
    exact q.mono0 (tmp_ext s hp) s.wok (upd_ne (ne_of_none e hp))
  · obtain ⟨u, e⟩ := s.there n a h1
    exact ⟨u, (upd_ne (ne_of_none e hp)).trans e⟩
  · rcases List.mem_cons.mp h with h | h
    · subst h; exact ⟨o, upd_same, ho⟩
    · obtain ⟨u, e, q⟩ := s.tmp a h
      exact ⟨u, (upd_ne (ne_of_none e hp)).trans e, q⟩
  · intro z
    rcases List.mem_cons.mp z with z | z
    · subst z
      obtain ⟨u, e⟩ := s.there n a h1
      rw [hp] at e; cases e
    · exact s.apart n a h1 z
/-- c2 is within the block that began at c with the new thing at p -/
structure InB (c : RC) (p : Addr) (c2 : RC) : Prop extends Ext0 c c2 where
  T : c2.T = p :: c.T
  TH : ∀ a ∈ c.T, c2.H a = c.H a
theorem InB.start {c : RC} {m : Store} {p : Addr} {o : HO} (s : SRep c m) (hp : c.H p = none) : InB c p (c.tmp p o) :=
  ⟨tmp_ext s hp, rfl, fun a h => by
    obtain ⟨u, e, _⟩ := s.tmp a h
    exact upd_ne (ne_of_none e hp)⟩
theorem InB.next {c c2 c3 : RC} {p : Addr} (b : InB c p c2) (x : Ext c2 c3) : InB c p c3 := ⟨b.toExt0.trans x.toExt0, x.T.trans b.T, fun a h => (x.TH a (by rw [b.T]; exact List.mem_cons_of_mem _ h)).trans (b.TH a h)⟩
/-- the new thing changed -/
def RC.grow (c : RC) (p : Addr) (o : HO) : RC := { c with H := upd c.H p o }
theorem InB.grow {c c2 : RC} {m m2 : Store} {p : Addr} {o : HO} (s : SRep c m) (hp : c.H p = none) (b : InB c p c2) (s2 : SRep c2 m2) (ho : Mut (some o)) : InB c p (c2.grow p o) ∧ SRep (c2.grow p o) m2 ∧ Ext0 c2 (c2.grow p o) := by
  have wp : c2.W p := (s2.live p).mpr (.inr (by rw [b.T]; exact List.mem_cons_self))
  have x : Ext0 c2 (c2.grow p o) := ⟨rfl, rfl, ⟨[], by simp [RC.grow]⟩, fun a u h w => .inl (by show upd c2.H p o a = _; rw [upd_ne (fun z => w (by rw [z]; exact wp))]; exact h), fun a h => .inl h⟩
  refine ⟨⟨b.toExt0.trans x, b.T, fun a h => ?_⟩, ⟨s2.len, s2.nd, s2.live, fun n a d h1 h2 => ?_, fun n a h1 => ?_, fun a h => ?_, s2.apart⟩, x⟩
  · obtain ⟨u, e, _⟩ := s.tmp a h
    show upd c2.H p o a = _
    rw [upd_ne (ne_of_none e hp)]; exact b.TH a h
  · have ne : a ≠ p := fun z => s2.apart n a h1 (by rw [z, b.T]; exact List.mem_cons_self)
    exact (s2.cell n a d h1 h2).mono0 x s2.wok (upd_ne ne)
  · obtain ⟨u, e⟩ := s2.there n a h1
    show ∃ u, upd c2.H p o a = some u
    by_cases z : a = p
    · rw [z, upd_same]; exact ⟨_, rfl⟩
    · rw [upd_ne z]; exact ⟨u, e⟩
  · show ∃ u, upd c2.H p o a = some u ∧ _
    by_cases z : a = p
    · rw [z, upd_same]; exact ⟨_, rfl, ho⟩
    · rw [upd_ne z]; exact s2.tmp a h
/-- the block left -/
def RC.out (c : RC) (T : List Addr) (p : Addr) : RC := { c with T := T, W := fun a => c.W a ∧ a ≠ p }
theorem InB.out {c c2 : RC} {m m2 : Store} {p : Addr} (s : SRep c m) (hp : c.H p = none) (b : InB c p c2) (s2 : SRep c2 m2) : Ext c (c2.out c.T p) ∧ SRep (c2.out c.T p) m2 ∧ Ext0 c2 (c2.out c.T p) ∧ ¬ (c2.out c.T p).W p := by
  have nT : p ∉ c.T := fun z => by
    obtain ⟨u, e, _⟩ := s.tmp p z
    rw [hp] at e; cases e
  have xo : Ext0 c2 (c2.out c.T p) := ⟨rfl, rfl, ⟨[], by simp [RC.out]⟩, fun _ _ h _ => .inl h, fun _ h => .inl h.1⟩
  refine ⟨⟨⟨b.K, b.C, b.L, b.H, fun a h => b.W a h.1⟩, rfl, b.TH⟩, ⟨s2.len, s2.nd, fun a => ⟨fun h => ?_, fun h => ?_⟩, fun n a d h1 h2 => ?_, s2.there, fun a h => ?_, fun n a h1 h => ?_⟩, xo, fun h => h.2 rfl⟩
  · rcases (s2.live a).mp h.1 with q | q
    · exact .inl q
    · rw [b.T] at q
      rcases List.mem_cons.mp q with q | q
      · exact absurd q h.2
      · exact .inr q
  · rcases h with ⟨n, d, h1, h2⟩ | h
    · exact ⟨(s2.live a).mpr (.inl ⟨n, d, h1, h2⟩), fun z => s2.apart n a h1 (by rw [z, b.T]; exact List.mem_cons_self)⟩
    · exact ⟨(s2.live a).mpr (.inr (by rw [b.T]; exact List.mem_cons_of_mem _ h)), fun z => nT (by rw [← z]; exact h)⟩
  · exact (s2.cell n a d h1 h2).mono0 xo s2.wok rfl
  · exact s2.tmp a (by rw [b.T]; exact List.mem_cons_of_mem _ h)
  · exact s2.apart n a h1 (by rw [b.T]; exact List.mem_cons_of_mem _ h)

theorem wipe_twice (σ : L2.St) : ∀ vs : List Nat, wipe (wipe σ vs) vs = wipe σ vs := by
  have comm : ∀ (vs : List Nat) (σ : L2.St) (v : Nat), wipe (σ.set v none) vs = (wipe σ vs).set v none := by
    intro vs
    induction vs with
    | nil => intro σ v; rfl
    | cons u us ih =>
      intro σ v
      unfold wipe
      rw [ih]
      by_cases e : v = u
      · subst e; rfl
      · rw [List.set_comm _ _ e]
  intro vs
  induction vs generalizing σ with
  | nil => rfl
  | cons v vs ih =>
    show (wipe ((wipe σ vs).set v none) vs).set v none = (wipe σ vs).set v none
    rw [comm, ih, List.set_set]
def wipeD (r : DEnv) : List Nat → DEnv
  | [] => r
  | v :: vs => (wipeD r vs).set v none
theorem er_wipe {c : RC} {r : DEnv} {σ : L2.St} (e : ER c r σ) : ∀ vs : List Nat, ER c (wipeD r vs) (wipe σ vs)
  | [] => e
  | v :: vs => (er_wipe e vs).unset v none
/-- what raises is nothing here -/
def noX {α : Type} (x : Res α) : Res α := match x with | .ex _ _ _ => .bad | o => o
@[simp] theorem noX_ok {α : Type} (a : α) (m : Store) : noX (.ok a m) = .ok a m := (rfl)
@[simp] theorem noX_bad {α : Type} : noX (.bad : Res α) = .bad := (rfl)
theorem noX_bind {α β : Type} (x : Res α) (f : α → Store → Res β) : noX (x.bind f) = (noX x).bind fun a m => noX (f a m) := by cases x <;> rfl
def dTrue : DT := fun _ m => .ok true m
def compN (g : DG) (ft : DT) (fe : DE) (r : DEnv) : List D → List D → Store → Res (List D)
  | [], acc, m => .ok acc m
  | x :: xs, acc, m => match g x r with
    | none => .bad
    | some r' => (noX (ft r' m)).bind fun b m => if b = true then (noX (fe r' m)).bind fun d m => if acc.length < sizeLine then compN g ft fe r xs (acc ++ [d]) m else .bad else compN g ft fe r xs acc m
def eLc (vs : List Nat) (fi : DA) (g : DG) (ft : DT) (fe : DE) : DE := fun r m => (fi r m).bind fun xs m => (compN g ft fe (wipeD r vs) xs [] m).bind fun ys m => .ok (.lst ys) m
theorem compN_nox (g : DG) (ft : DT) (fe : DE) (r : DEnv) : ∀ xs acc m k fs m', compN g ft fe r xs acc m ≠ .ex k fs m' := by
  intro xs
  induction xs with
  | nil => intro acc m k fs m' h; cases h
  | cons x xs ih =>
    intro acc m k fs m' h
    unfold compN at h
    cases eg : g x r with
    | none => rw [eg] at h; cases h
    | some r' =>
      rw [eg] at h
      simp only at h
      cases et : ft r' m with
      | bad => rw [et] at h; cases h
      | ex _ _ _ => rw [et] at h; cases h
      | ok b m1 =>
        rw [et] at h
        simp only [noX_ok, bind_ok] at h
        cases b with
        | false => exact ih _ _ _ _ _ h
        | true =>
          simp only [if_pos] at h
          cases ee : fe r' m1 with
          | bad => rw [ee] at h; cases h
          | ex _ _ _ => rw [ee] at h; cases h
          | ok d m2 =>
            rw [ee] at h
            simp only [noX_ok, bind_ok] at h
            split at h
            · exact ih _ _ _ _ _ h
            · cases h
theorem PTs.imp {X : Cx} {es : List Expr} {t t' : TT} (h : PTs X es t) (i : ∀ σ H Q, t' σ H Q → t σ H Q) : PTs X es t' := ⟨fun pins s σ H Q I q => h.run pins s σ H Q I (i _ _ _ q)⟩
section
variable {X : Cx} {C : CE} {W : WX}
theorem dts_nil : PTs X [] (tT X.K C W0 dTrue) := PTs.imp pts_nil fun σ H Q ⟨c, m, r, n, er, w⟩ => by
  have := w c true (Ext.refl c) n.s rfl
  rw [n.H] at this; exact this
theorem dts_one {e : Expr} {f : DT} (h : PT X e (tT X.K C W0 f)) : PTs X [e] (tT X.K C W0 f) := pts_one h
theorem tLc_of {vs : List Nat} {fi : DA} {g : DG} {ft : DT} {fe : DE} {σ : L2.St} {H : Hp} {Q : VK} (h : tE X.K C W (eLc vs fi g ft fe) σ H Q) :
    tLc (tI X.K C W fi) (tGv X.K C vs g) (tT X.K C W0 ft) (tE X.K C W0 fe) vs σ H Q := by
  obtain ⟨c, m, r, n, er, w⟩ := h
  unfold eLc at w
  refine ⟨c, m, r, n, er, RW.imp (RW.bind (rep := WalkD) w) fun J H' ⟨c1, xs, m1, e, x1, s1, wk, w1⟩ => ?_⟩
  subst e
  intro p hp
  have er1 := er.mono x1 n.s.wok
  -- the turn's state
  refine ⟨fun i k H => k = xs.length - i ∧ i ≤ xs.length ∧ ∃ c2 m2 acc us, InB c1 p c2 ∧ SRep c2 m2 ∧ c2.H = H ∧ c2.H p = some (.lst us) ∧ Reps c2 acc us ∧
    RW C Rep c1 ((compN g ft fe (wipeD r vs) (xs.drop i) acc m2).bind fun ys m => .ok (.lst ys) m) Q (fun cls d H' => W cls d σ H'),
    ⟨xs.length, by simp, Nat.zero_le _, c1.tmp p (.lst []), m1, [], [], InB.start s1 hp, tmp_rep s1 hp trivial, rfl, upd_same, .nil, by simpa using w1⟩, ?_⟩
  rintro i k H ⟨rfl, hi, c2, m2, acc, us, b, s2, rfl, hD, ra, w2⟩
  obtain ⟨go, stop⟩ := wk c2 m2 b.toExt0 s2 i
  by_cases hlt : i < xs.length
  · have hx : xs[i]? = some xs[i] := by simp [hlt]
    obtain ⟨g1, y1⟩ := go _ hx
    refine .inr ⟨g1, fun H' => ∃ c2 m2 acc us, InB c1 p c2 ∧ SRep c2 m2 ∧ c2.H = H' ∧ c2.H p = some (.lst us) ∧ Reps c2 acc us ∧
      RW C Rep c1 ((compN g ft fe (wipeD r vs) (xs.drop (i + 1)) acc m2).bind fun ys m => .ok (.lst ys) m) Q (fun cls d H' => W cls d σ H'), fun H' h => ⟨xs.length - (i + 1), by omega, rfl, hlt, h⟩, fun x H' yy => ?_⟩
    obtain ⟨c3, e3, x3, s3, q3⟩ := y1 x H' yy
    subst e3
    rw [List.drop_eq_getElem_cons hlt] at w2
    unfold compN at w2
    have b3 := b.next x3
    cases eg : g xs[i] (wipeD r vs) with
    | none => rw [eg] at w2; exact False.elim w2
    | some r3 =>
      rw [eg] at w2
      simp only at w2
      have n3 : Now X.K C c3.H c3 m2 := ⟨b3.K.trans (x1.K.trans n.K), b3.C.trans (x1.C.trans n.C), rfl, s3⟩
      have er3 : ER c3 (wipeD r vs) (wipe σ vs) := er_wipe (er1.mono0 b3.toExt0 s1.wok) vs
      have keep : ∀ {c' m'} , Ext c3 c' → SRep c' m' → c'.H p = some (.lst us) ∧ Reps c' acc us := fun {c' m'} x s => by
        refine ⟨?_, (ra.mono0 x3.toExt0 s2.wok).mono0 x.toExt0 s3.wok⟩
        have t3 : p ∈ c3.T := by rw [b3.T]; exact List.mem_cons_self
        rw [x.TH p t3, x3.TH p (by rw [b.T]; exact List.mem_cons_self)]
        exact hD
      refine ⟨c3, m2, wipeD r vs, xs[i], r3, n3, er3, q3, eg, fun c4 σ4 x4 s4 er4 hw => ⟨hw.trans (wipe_twice σ vs), c4, m2, r3, n3.next x4 s4, er4, ?_⟩⟩
      cases et : ft r3 m2 with
      | bad => rw [et] at w2; exact False.elim w2
      | ex _ _ _ => rw [et] at w2; exact False.elim w2
      | ok bb m5 =>
        rw [et] at w2
        simp only [noX_ok, bind_ok] at w2
        intro c5 bv x5 s5 eb
        subst eb
        have x35 := x4.trans x5
        cases bb with
        | false =>
          simp only [Bool.false_eq_true, if_false] at w2 ⊢
          obtain ⟨k1, k2⟩ := keep x35 s5
          exact ⟨c5, m5, acc, us, b3.next x35, s5, rfl, k1, k2, w2⟩
        | true =>
          simp only [if_pos] at w2 ⊢
          refine ⟨c5, m5, r3, (n3.next x4 s4).next x5 s5, er4.mono x5 s4.wok, ?_⟩
          cases ee : fe r3 m5 with
          | bad => rw [ee] at w2; exact False.elim w2
          | ex _ _ _ => rw [ee] at w2; exact False.elim w2
          | ok d m6 =>
            rw [ee] at w2
            simp only [noX_ok, bind_ok] at w2
            intro c6 v x6 s6 qv
            obtain ⟨k1, k2⟩ := keep (x35.trans x6) s6
            split at w2
            · rename_i hlen
              obtain ⟨b7, s7, x7⟩ := InB.grow (o := .lst (us ++ [v])) s1 hp (b3.next (x35.trans x6)) s6 trivial
              exact ⟨us, k1, by rw [k2.length]; exact hlen, c6.grow p (.lst (us ++ [v])), m6, acc ++ [d], us ++ [v], b7, s7, rfl, upd_same, Paired.append (k2.mono0 x7 s6.wok) (.cons (qv.mono0 x7 s6.wok) .nil), w2⟩
            · exact False.elim w2
  · have e : i = xs.length := by omega
    subst e
    refine .inl ⟨stop (Nat.le_refl _), ?_⟩
    rw [List.drop_length] at w2
    obtain ⟨xo, so, xo0, wo⟩ := b.out s1 hp s2
    exact w2 (c2.out c1.T p) (.ref p) xo so (.lst' wo hD (ra.mono0 xo0 s2.wok))
section
variable {elt tg iter : Expr} {ifs : List Expr} {scope : Scope} {own : List (Str × Nat)} {pos spos py : Pos} {fi : DA} {g : DG} {ft : DT} {fe : DE} {i : Nat} {y : Str}
theorem de_lc (hc : X.calm = true) (hN : X.N.Nodup) (ok : blkC X.N X.env.scope scope own = true) (hi : PI X tg iter (tI X.K C W fi))
    (hg : ∀ (s : Shared) (H : Hp) (B : Addr) (cl : List (Str × Addr)) (fp : List Addr), PG (X.blk s H scope (compEnvC scope cl B X.env) fp) tg (tGv X.K C (own.map (·.2)) g)) (ht : ∀ (s : Shared) (H : Hp) (B : Addr) (cl : List (Str × Addr)) (fp : List Addr), PTs (X.blk s H scope (compEnvC scope cl B X.env) fp) ifs (tT X.K C W0 ft))
    (he : ∀ (s : Shared) (H : Hp) (B : Addr) (cl : List (Str × Addr)) (fp : List Addr), PE (X.blk s H scope (compEnvC scope cl B X.env) fp) elt (tE X.K C W0 fe)) (hs : ∀ x, foldedSetIterable iter X.env x = pure x := by intro _; rfl) :
    PE X (.ListComp elt [⟨tg, iter, ifs, 0⟩] scope pos) (tE X.K C W (eLc (own.map (·.2)) fi g ft fe)) :=
  PE.imp (pe_lc hc hN hi (blkOk_by ok) hg ht he hs) fun σ H Q h => tLc_of h
theorem ds_setLc (hc : X.calm = true) (hN : X.N.Nodup) (ok : blkC X.N X.env.scope scope own = true) (hi : PI X tg iter (tI X.K C W fi))
    (hg : ∀ (s : Shared) (H : Hp) (B : Addr) (cl : List (Str × Addr)) (fp : List Addr), PG (X.blk s H scope (compEnvC scope cl B X.env) fp) tg (tGv X.K C (own.map (·.2)) g)) (ht : ∀ (s : Shared) (H : Hp) (B : Addr) (cl : List (Str × Addr)) (fp : List Addr), PTs (X.blk s H scope (compEnvC scope cl B X.env) fp) ifs (tT X.K C W0 ft))
    (he : ∀ (s : Shared) (H : Hp) (B : Addr) (cl : List (Str × Addr)) (fp : List Addr), PE (X.blk s H scope (compEnvC scope cl B X.env) fp) elt (tE X.K C W0 fe)) (hy : X.N[i]? = some y := by rfl) (hyl : X.env.scope.names.lookup y = some .local := by rfl)
    (hk : X.env.scope.kind = .function := by rfl) (hl : (py.line == pos.line) = true := by rfl) (ha : (scope.names.any fun (n, k) => n == y && (k == .local || k == .cell)) = false := by rfl) (hs : ∀ x, foldedSetIterable iter X.env x = pure x := by intro _; rfl) :
    PS X (.Assign [.Name y py] (.ListComp elt [⟨tg, iter, ifs, 0⟩] scope pos) spos) (tS X.K C W (sSet i (eLc (own.map (·.2)) fi g ft fe))) :=
  PS.imp (ps_setLc hc hN hy hyl (sw_true hk hyl hl ha) hi (blkOk_by ok) hg ht he hs) fun D σ H ⟨c, m, r, n, er, w⟩ => tLc_of (tE_thenS n er w fun c1 d m1 v n1 x1 er1 q w1 => w1 c1 _ (Ext.refl _) n1.s (er1.set i q))
end
end
end DL
/-! DL11: chains, new cells, stores into cells, isinstance, more of the built-in functions. -/
namespace DL
open PySem PySem.Spec PyProof.Rows L2

section
variable {X : Cx} {C : CE} {W : WX}
/-! ### a op b op' c -/
def eChain (o o' : D → D → Option D) (fa fb fc : DE) : DE := fun r m => (fa r m).bind fun a m => (fb r m).bind fun b m => match o (vw m a) (vw m b) with
  | some (.bl true) => (fc r m).bind fun d m => ofO m (o' (vw m b) (vw m d))
  | some (.bl false) => .ok (.bl false) m
  | _ => .bad
theorem eChain_tE {ρ ρ' : R2} {o o' : D → D → Option D} {fa fb fc : DE} {σ : L2.St} {H : Hp} {Q : VK} (hd : OpD X C ρ o) (hd' : OpD X C ρ' o') (h : tE X.K C W (eChain o o' fa fb fc) σ H Q) : tChain ρ ρ' (tE X.K C W fa) (tE X.K C W fb) (tE X.K C W fc) σ H Q := by
  obtain ⟨c, m, r, n, er, w⟩ := h
  refine tE_bind n er w fun c1 a m1 x n1 x1 er1 qa w1 => ?_
  refine tE_bind n1 er1 w1 fun c2 b m2 y n2 x2 er2 qb w2 => ?_
  cases eo : o (vw m2 a) (vw m2 b) with
  | none => rw [eo] at w2; exact False.elim w2
  | some d =>
    rw [eo] at w2
    cases d with
    | bl k =>
      refine hd c2 m2 _ _ _ _ _ _ n2 ((qa.mono x2 n1.s.wok).sees n2.s) (qb.sees n2.s) eo fun c3 v x3 s3 q3 => ?_
      cases q3
      have er3 := er2.mono x3 n2.s.wok
      cases k with
      | false => exact ⟨false, rfl, w2 c3 _ x3 s3 (.bl _)⟩
      | true =>
        refine ⟨true, rfl, ?_⟩
        simp only [if_pos]
        refine tE_bind (n2.next x3 s3) er3 (RW.ext w2 x3) fun c4 e m4 z n4 x4 er4 qe w4 => ?_
        cases eo' : o' (vw m4 b) (vw m4 e) with
        | none => rw [eo'] at w4; exact False.elim w4
        | some d' =>
          rw [eo'] at w4
          exact hd' c4 m4 _ _ _ _ _ _ n4 (((qb.mono x3 n2.s.wok).mono x4 s3.wok).sees n4.s) (qe.sees n4.s) eo' fun c5 v5 x5 s5 q5 => w4 c5 v5 x5 s5 q5
    | _ => exact False.elim w2
theorem de_chain {a b c : Expr} {op op' : CmpOp} {ρ ρ' : R2} {pos : Pos} {o o' : D → D → Option D} {fa fb fc : DE} (ho : OpR X (compareOp op) ρ) (hd : OpD X C ρ o) (ho' : OpR X (compareOp op') ρ') (hd' : OpD X C ρ' o') (ha : PE X a (tE X.K C W fa)) (hb : PE X b (tE X.K C W fb)) (hc : PE X c (tE X.K C W fc))
    (hm : lastMarks [op, op'] [b, c] = false := by with_unfolding_all rfl) : PE X (.Compare a [op, op'] [b, c] pos) (tE X.K C W (eChain o o' fa fb fc)) :=
  PE.imp (pe_chain ho ho' ha hb hc hm) fun σ H Q h => eChain_tE hd hd' h
theorem dt_chain {a b c : Expr} {op op' : CmpOp} {ρ ρ' : R2} {pos : Pos} {o o' : D → D → Option D} {fa fb fc : DE} (ho : OpR X (compareOp op) ρ) (hd : OpD X C ρ o) (ho' : OpR X (compareOp op') ρ') (hd' : OpD X C ρ' o') (ha : PE X a (tE X.K C W fa)) (hb : PE X b (tE X.K C W fb)) (hc : PE X c (tE X.K C W fc))
    (hm : lastMarks [op, op'] [b, c] = false := by with_unfolding_all rfl) : PT X (.Compare a [op, op'] [b, c] pos) (tT X.K C W (eTest (eChain o o' fa fb fc))) :=
  PT.imp (pt_chain ho ho' ha hb hc hm) fun σ H Q ⟨c, m, r, n, er, w⟩ => eChain_tE hd hd' (tE_bind n er w fun c1 d m1 v n1 x1 er1 q w1 => by
    cases eb : blOf d with
    | none => rw [eb] at w1; exact False.elim w1
    | some k =>
      rw [eb] at w1
      exact ⟨k, blOf_rep eb q, w1 c1 k (Ext.refl _) n1.s rfl⟩)
/-! ### new cells -/
theorem cell_new {K : PySem.W.Frag} {H : Hp} {c : RC} {m : Store} {d : D} {Q : VK} {E : XK} {o : HO} (n : Now K C H c m) (w : RW C Rep c (.ok (.loc m.length) (m ++ [some d])) Q E) (p : Addr) (hp : H p = none) (hd : ∀ c' : RC, Ext c c' → c'.H p = some o → CellOk c' p d) : Q (.ref p) (upd H p o) := by
  obtain ⟨hH⟩ : Nonempty (c.H = H) := ⟨n.H⟩
  subst hH
  have hk : ∀ b u, c.H b = some u → upd c.H p o b = some u := fun b u e => (upd_ne (ne_of_none e hp)).trans e
  have x := cell_ext n.s hp hk
  have s := cell_rep n.s hp hk (hd _ x upd_same)
  refine w (c.cell p (upd c.H p o)) (.ref p) x s (.loc ?_)
  show (c.L ++ [p])[m.length]? = some p
  rw [← n.s.len]; simp
def eNewD : DE := fun _ m => .ok (.loc m.length) (m ++ [some (.dic [])])
theorem de_newD {pos : Pos} : PE X (.Dict [] [] pos) (tE X.K C W eNewD) := PE.imp pe_dnewK fun σ H Q ⟨c, m, r, n, er, w⟩ p hp => cell_new n w p hp fun c' x e => ⟨[], e, .nil⟩
def eDic0 : DE := fun _ m => .ok (.dic []) m
theorem de_dic0 {pos : Pos} : PE X (.Dict [] [] pos) (tE X.K C W eDic0) := PE.imp pe_dnewK fun σ H Q ⟨c, m, r, n, er, w⟩ p hp => by
  obtain ⟨hH⟩ : Nonempty (c.H = H) := ⟨n.H⟩
  subst hH
  exact k_dic n (fun c' v x s q => w c' v x s q) .nil p hp
/-- a display, to be changed later -/
def eNewL (g : DA) : DE := fun r m => (g r m).bind fun xs m => if xs.length ≤ sizeLine then .ok (.loc m.length) (m ++ [some (.lst xs)]) else .bad
theorem de_newL {es : List Expr} {g : DA} {pos : Pos} (h : PA X es (tA X.K C W g)) : PE X (.List es pos) (tE X.K C W (eNewL g)) :=
  PE.imp (pe_lst h) fun σ H Q ⟨c, m, r, n, er, w⟩ => tA_bind n er w fun c1 ds m1 vs n1 x1 er1 q w1 => by
    split at w1
    · rename_i hl
      exact ⟨by rw [q.length]; exact hl, fun p hp => cell_new n1 w1 p hp fun c' x e => ⟨vs, e, q.mono x n1.s.wok⟩⟩
    · exact False.elim w1
/-- list(x), to be changed later -/
def eListC (g : DA) : DE := fun r m => (g r m).bind fun ds m => match fList (ds.map (vw m)) with | some d => .ok (.loc m.length) (m ++ [some d]) | none => .bad
theorem de_listC {x : Str} {p pos : Pos} {e : Expr} {es : List Expr} {g : DA} (hc : X.calm = true) (hm : X.mg x = none) (ha : PA X (e :: es) (tA X.K C W g)) (hv : bootBuiltins x = some (.type "list") := by decide +kernel) (hg : Gl X x := by rfl) (hn : x ≠ "__name__" := by decide) (hdb : (x == ("__debug__" : Str)) = false := by decide)
    (hs : starEach (e :: es) X.env = (false, eval e X.env) :: starEach es X.env := by rfl) (hpl : (backTo pos (starEach es X.env)).any (·.1) = false := by rfl) : PE X (.Call (.Name x p) (e :: es) [] pos) (tE X.K C W (eListC g)) :=
  PE.imp (pe_callTy (cr_listD hc) hg hm hv ha hn hdb hs hpl) fun σ H Q ⟨c, m, r, n, er, w⟩ => tA_bind n er w fun c1 ds m1 vs n1 x1 er1 q w1 => by
    have qs := q.seesL n1.s
    unfold fList at w1
    split at w1
    · rename_i d hd
      split at hd
      · rename_i xs e1
        cases hd
        rw [e1] at qs
        obtain ⟨v, rfl, q2⟩ := seesL1 qs
        obtain ⟨a, ws, rfl, h, r⟩ := q2.lst_inv
        exact .inl ⟨a, ws, rfl, .inl (.inl (.inl h)), fun l hl => cell_new n1 w1 l hl fun c' x e => ⟨ws, e, r.mono x n1.s.wok⟩⟩
      · rename_i xs e1
        cases hd
        rw [e1] at qs
        obtain ⟨v, rfl, q2⟩ := seesL1 qs
        obtain ⟨a, ws, rfl, h, r⟩ := q2.tup_inv
        rw [n1.K] at h
        exact .inl ⟨a, ws, rfl, .inr h, fun l hl => cell_new n1 w1 l hl fun c' x e => ⟨ws, e, r.mono x n1.s.wok⟩⟩
      · rename_i xs e1
        cases hd
        rw [e1] at qs
        obtain ⟨v, rfl, q2⟩ := seesL1 qs
        obtain ⟨a, ws, rfl, h, r⟩ := q2.dic_inv
        exact .inr ⟨a, ws, rfl, h, fun l hl => cell_new n1 w1 l hl fun c' x e => ⟨_, e, (keys_rep r).mono x n1.s.wok⟩⟩
      · cases hd
    · exact False.elim w1
/-! ### a cell frozen for good -/
def thawS (i : Nat) (f : DS) : DS := fun r m => match r[i]? with
  | some (some (.loc n)) => (match m[n]? with | some (some d) => f (r.set i (some d)) (m.set n none) | _ => .bad)
  | _ => .bad
theorem dss_thaw {sts : List Stmt} {f : DS} (i : Nat) (h : PSs X sts (tS X.K C W f)) : PSs X sts (tS X.K C W (thawS i f)) := PSs.imp h fun De σ H ⟨c, m, r, n, er, w⟩ => by
  unfold thawS at w
  split at w
  · rename_i k hi
    split at w
    · rename_i d hm
      obtain ⟨v, hv, q⟩ := er.at_ i _ hi
      cases q with
      | @loc _ a hL =>
        have x := thaw_ext (c := c) (p := a)
        have er2 := er.mono x n.s.wok
        refine ⟨c.thaw a, m.set k none, r.set i (some d), ⟨n.K, n.C, n.H, thaw_rep n.s hL⟩, ?_, SW.ext w x⟩
        have := er2.set i (cell_frozen n.s hL hm)
        have e : σ.set i (some (V.ref a)) = σ := by
          apply List.ext_getElem?
          intro j
          by_cases z : i = j
          · subst z
            have hl : i < σ.length := (List.getElem?_eq_some_iff.mp hv).1
            rw [List.getElem?_set_self hl, hv]
          · rw [List.getElem?_set_ne z]
        rw [e] at this
        exact this
    · exact False.elim w
  · exact False.elim w
/-- a freeze of the cell that an expression gives -/
def eThaw (f : DE) : DE := fun r m => (f r m).bind fun d m => match d with | .loc n => (match m[n]? with | some (some d) => .ok d (m.set n none) | _ => .bad) | d => .ok d m
theorem de_thaw {e : Expr} {f : DE} (h : PE X e (tE X.K C W f)) : PE X e (tE X.K C W (eThaw f)) := PE.imp h fun σ H Q ⟨c, m, r, n, er, w⟩ => tE_bind n er w fun c1 d m1 v n1 x1 er1 q w1 => by
  cases d with
  | loc k =>
    simp only at w1
    split at w1
    · rename_i d hm
      cases q with
      | @loc _ a hL => exact w1 (c1.thaw a) _ thaw_ext (thaw_rep n1.s hL) (cell_frozen n1.s hL hm)
    · exact False.elim w1
  | _ => exact w1 c1 v (Ext.refl _) n1.s q
/-! ### stores into cells -/
def putKD {κ : Type} [DecidableEq κ] (kvs : List (κ × D)) (k : κ) (d : D) : List (κ × D) := if (kvs.any fun kv => decide (kv.1 = k)) = true then kvs.map (fun kv => if kv.1 = k then (kv.1, d) else kv) else kvs ++ [(k, d)]
theorem putKD_rep {c : RC} {κ : Type} [DecidableEq κ] {xs : List (κ × D)} {vs : List (κ × V)} {k : κ} {d : D} {v : V} (r : RepsK c xs vs) (q : Rep c d v) : RepsK c (putKD xs k d) (putK vs k v) := by
  have ha : (vs.any fun kv => decide (kv.1 = k)) = (xs.any fun kv => decide (kv.1 = k)) := by
    have := congrArg (fun l => l.any fun x => decide (x = k)) (RepsK.keys r)
    simpa [List.any_map, Function.comp_def] using this
  unfold putKD putK
  rw [ha]
  split
  · clear ha
    rename_i h0
    clear h0
    induction r with
    | nil => exact .nil
    | cons p t ih =>
      refine .cons ?_ ih
      obtain ⟨p1, p2⟩ := p
      show RepK c (if _ = k then _ else _) (if _ = k then _ else _)
      rw [← p1]
      split
      · exact ⟨rfl, q⟩
      · exact ⟨p1, p2⟩
  · exact Paired.append r (.cons ⟨rfl, q⟩ .nil)
theorem dset_dic (hu : X.A.units + 1 < cLine) : PSet X (fun o i v H Q => ∃ a H', o = .ref a ∧ DPut H a i v H' ∧ Q H') := fun pins s σ H o i v ov iv u Q I ro ri rv ⟨a, H', e, g, q⟩ => by
  subst e
  obtain rfl : ov = Value.ref a := ro
  exact d_setItem hu I g ri rv fun s' I' => ⟨H', I', q⟩
theorem PSet.or {t t' : TSet} (h : PSet X t) (h' : PSet X t') : PSet X (fun o i v H Q => t o i v H Q ∨ t' o i v H Q) := fun pins s σ H o i v ov iv u Q I ro ri rv q => by
  rcases q with q | q
  · exact h pins s σ H o i v ov iv u Q I ro ri rv q
  · exact h' pins s σ H o i v ov iv u Q I ro ri rv q
/-- o[i] = v on a cell -/
def putD (o i d : D) (m : Store) : Option Store := match o with
  | .loc n => (match m[n]?, i with
    | some (some (.lst xs)), .int k => (match ixN xs.length k with | some j => some (m.set n (some (.lst (xs.set j d)))) | none => none)
    | some (some (.dic kvs)), k => (match keyD k with | some k => if kvs.length < sizeLine then some (m.set n (some (.dic (putKD kvs k d)))) else none | none => none)
    | _, _ => none)
  | _ => none
def sPut (fo fi fv : DE) : DS := fun r m => thenS (fv r m) r fun d m => thenS (fo r m) r fun o m => thenS (fi r m) r fun i m => match putD o (vw m i) d m with | some m => .nx r m | none => .bad
theorem ds_put {o i value : Expr} {fo fi fv : DE} {pos pos' : Pos} (hu : X.A.units + 1 < cLine) (ho : PE X o (tE X.K C W fo)) (hi : PE X i (tE X.K C W fi)) (hv : PE X value (tE X.K C W fv))
    (ha : ∀ v, assign (.Subscript o i pos') X.env v = (do
      let ov ← holding [v] (eval o X.env)
      let iv ← holding [v, ov] (eval i X.env)
      standAt pos'
      holding [v, ov, iv] (setItem ov iv v)
      release [v, ov, iv] []) := by intro _; rfl)
    (hs : swapsWithSole [.Subscript o i pos'] value pos.line X.env = pure false := by rfl) (hw : swappedStores [.Subscript o i pos'] value X.env = pure none := by rfl)
    (h1 : (assignEach [.Subscript o i pos'] X.env).map (·.2) = [assign (.Subscript o i pos') X.env] := by rfl) : PS X (.Assign [.Subscript o i pos'] value pos) (tS X.K C W (sPut fo fi fv)) :=
  PS.imp (ps_asg hv (pg_sub ho hi (PSet.or set_list (dset_dic hu)) ha) hs hw h1) fun De σ H ⟨c, m, r, n, er, w⟩ => tE_thenS n er w fun c1 d m1 v n1 x1 er1 q1 w1 =>
    tE_thenS n1 er1 w1 fun c2 od m2 ov n2 x2 er2 q2 w2 => tE_thenS n2 er2 w2 fun c3 id m3 iv n3 x3 er3 q3 w3 => by
      have qd := (q1.mono x2 n1.s.wok).mono x3 n2.s.wok
      have qo := q2.mono x3 n2.s.wok
      have qi := q3.sees n3.s
      unfold putD at w3
      cases od with
      | loc k =>
        simp only at w3
        cases qo with
        | @loc _ a hL =>
          split at w3
          · rename_i m4 hm4
            split at hm4
            · rename_i xs j hmk hij
              rw [hij] at qi
              obtain rfl := qi.int_inv
              split at hm4
              · rename_i jj hix
                cases hm4
                obtain ⟨vs, hv, rv⟩ := n3.s.cell k a _ hL hmk
                refine .inl ⟨a, vs, j, jj, rfl, rfl, hv, by rw [rv.length]; exact hix, ?_⟩
                exact lst_put (Q := fun H => De.nx σ H) n3 hL hmk (Paired.set qd jj rv) (fun c' x s => w3 c' σ x s (er3.mono x n3.s.wok))
              · cases hm4
            · rename_i kvs hmk
              split at hm4
              · rename_i key hkey
                split at hm4
                · rename_i hlen
                  cases hm4
                  obtain ⟨vs, hv, rv⟩ := n3.s.cell k a _ hL hmk
                  obtain rfl := keyD_inv qi hkey
                  refine .inr ⟨a, _, rfl, DPut.k hv (by rw [(paired_at rv).1]; exact hlen), ?_⟩
                  have x := upd_ext (o := .dK (putK vs key v)) n3.s hL hmk
                  have r2 : RepsK { c3 with H := upd c3.H a (.dK (putK vs key v)) } (putKD kvs key d) (putK vs key v) := (putKD_rep rv qd).mono x n3.s.wok
                  have := cell_put n3.s hL hmk (d := .dic (putKD kvs key d)) (o := .dK (putK vs key v)) ⟨_, upd_same, r2⟩
                  exact w3 _ σ this.1 this.2 (er3.mono this.1 n3.s.wok)
                · cases hm4
              · cases hm4
            · cases hm4
          · exact False.elim w3
      | _ => exact False.elim w3
end
end DL
/-! DL12: instances changed, setdefault, isinstance, texts, sorted. -/
namespace DL
open PySem PySem.Spec PyProof.Rows L2

section
variable {X : Cx} {C : CE} {W : WX}
/-! ### self.f = v -/
def putFD (f : Str) (d : D) : List (Str × D) → List (Str × D)
  | [] => [(f, d)]
  | (g, x) :: r => if g = f then (g, d) :: r else (g, x) :: putFD f d r
theorem putFD_rep {c : RC} {f : Str} {d : D} {v : V} (q : Rep c d v) : ∀ {xs : List (Str × D)} {vs : List (Str × V)}, RepsK c xs vs → RepsK c (putFD f d xs) (putF f v vs)
  | _, _, .nil => .cons ⟨rfl, q⟩ .nil
  | (g, x) :: xs, (g', y) :: vs, .cons p t => by
    obtain ⟨p1, p2⟩ := p
    simp only at p1; subst p1
    unfold putFD putF
    split
    · exact .cons ⟨rfl, q⟩ t
    · exact .cons ⟨rfl, p2⟩ (putFD_rep q t)
def sFldSet (j : Nat) (f : Str) (fo fv : DE) : DS := fun r m => thenS (fv r m) r fun d m => thenS (fo r m) r fun o m => match o with
  | .loc n => (match m[n]? with
    | some (some (.obj k fs)) => if k = j ∧ fs.length < 1000 then .nx r (m.set n (some (.obj j (putFD f d fs)))) else .bad
    | _ => .bad)
  | _ => .bad
theorem ds_fldset {j : Nat} {f : Str} {o value : Expr} {fo fv : DE} {pos pos' : Pos} (cl : Cls X.K (C j)) (na : NoAttr X.K (C j) f) (ho : PE X o (tE X.K C W fo)) (hv : PE X value (tE X.K C W fv)) (hs : swapsWith value (some (.Attribute o f pos')) pos.line X.env = pure false := by rfl) :
    PS X (.Assign [.Attribute o f pos'] value pos) (tS X.K C W (sFldSet j f fo fv)) :=
  PS.imp (ps_fld ho hv hs) fun De σ H ⟨c, m, r, n, er, w⟩ => tE_thenS n er w fun c1 d m1 v n1 x1 er1 q1 w1 => tE_thenS n1 er1 w1 fun c2 od m2 ov n2 x2 er2 q2 w2 => by
    cases od with
    | loc k =>
      cases q2 with
      | @loc _ a hL =>
        simp only at w2
        split at w2
        · rename_i j' fs hm
          split at w2
          · rename_i hh
            obtain ⟨rfl, hlen⟩ := hh
            obtain ⟨dx, vs, hv', rv⟩ := n2.s.cell k a _ hL hm
            have hv2 := hv'
            rw [n2.C] at hv'
            refine ⟨a, C j', dx, vs, rfl, hv', cl, na, by rw [(paired_at rv).1]; exact hlen, ?_⟩
            have qd := q1.mono x2 n1.s.wok
            have x := upd_ext (o := .ins (c2.C j') dx (putF f v vs)) n2.s hL hm
            have r2 := RepsK.mono x n2.s.wok (putFD_rep (f := f) qd rv)
            obtain ⟨xx, ss⟩ := cell_put n2.s hL hm (d := .obj j' (putFD f d fs)) (o := .ins (c2.C j') dx (putF f v vs)) ⟨dx, _, upd_same, r2⟩
            have := w2 _ σ xx ss (er2.mono xx n2.s.wok)
            rw [n2.C] at this
            exact this
          · exact False.elim w2
        · exact False.elim w2
    | _ => exact False.elim w2
/-! ### d.setdefault(k, v) on a cell -/
def dicAt (m : Store) : D → Option (Nat × List (Key × D))
  | .loc n => match m[n]? with | some (some (.dic kvs)) => some (n, kvs) | _ => none
  | _ => none
def eSetd (fo fk fv : DE) : DE := fun r m => (fo r m).bind fun o m => match dicAt m o with
  | none => .bad
  | some _ => (fk r m).bind fun k m => (fv r m).bind fun d m => match dicAt m o, keyD (vw m k) with
    | some (n, kvs), some key => if kvs.length < sizeLine then (match valD kvs key with | some x => .ok x m | none => .ok d (m.set n (some (.dic (putKD kvs key d))))) else .bad
    | _, _ => .bad
theorem dicAt_inv {m : Store} {d : D} {n : Nat} {kvs : List (Key × D)} (h : dicAt m d = some (n, kvs)) : d = .loc n ∧ m[n]? = some (some (.dic kvs)) := by
  unfold dicAt at h
  split at h
  · split at h
    · rename_i e; cases h; exact ⟨rfl, e⟩
    · cases h
  · cases h
theorem de_setd {o e f : Expr} {fo fk fv : DE} {apos cpos : Pos} (ho : PE X o (tE X.K C W fo)) (he : PE X e (tE X.K C W fk)) (hf : PE X f (tE X.K C W fv)) (m : M2 X o "setdefault" apos e f cpos := by exact ⟨rfl, rfl, rfl, rfl⟩) :
    PE X (.Call (.Attribute o "setdefault" apos) [e, f] [] cpos) (tE X.K C W (eSetd fo fk fv)) :=
  PE.imp (pe_dsetd ho he hf m) fun σ H Q ⟨c, m, r, n, er, w⟩ => tE_bind n er w fun c1 od m1 ov n1 x1 er1 q1 w1 => by
    cases hd : dicAt m1 od with
    | none => rw [hd] at w1; exact False.elim w1
    | some p =>
      obtain ⟨k, kvs0⟩ := p
      rw [hd] at w1
      obtain ⟨rfl, hm1⟩ := dicAt_inv hd
      have q1' := q1
      cases q1 with
      | @loc _ a hL =>
        obtain ⟨vs0, hv0, rv0⟩ := n1.s.cell k a _ hL hm1
        refine ⟨a, rfl, .inl ⟨vs0, .inl hv0⟩, ?_⟩
        refine tE_bind n1 er1 w1 fun c2 kd m2 kv n2 x2 er2 q2 w2 => tE_bind n2 er2 w2 fun c3 d m3 v n3 x3 er3 q3 w3 => ?_
        split at w3
        · rename_i n' kvs key hd3 hk
          obtain ⟨e1, hm3⟩ := dicAt_inv hd3
          cases e1
          split at w3
          · rename_i hlen
            have hL3 : c3.L[k]? = some a := by
              have := (q1'.mono x2 n1.s.wok).mono x3 n2.s.wok
              cases this with | loc h => exact h
            obtain ⟨vs, hv, rv⟩ := n3.s.cell k a _ hL3 hm3
            obtain rfl := keyD_inv ((q2.mono x3 n2.s.wok).sees n3.s) hk
            refine ⟨vs, key, hv, rfl, by rw [(paired_at rv).1]; exact hlen, fun u hu => ?_, fun hu => ?_⟩
            · rcases valD_rep (k := key) rv with ⟨h1, h2⟩ | ⟨d', v', h1, h2, h3⟩
              · rw [h2] at hu; cases hu
              · rw [h2] at hu; cases hu
                rw [h1] at w3
                exact w3 c3 _ (Ext.refl _) n3.s h3
            · rcases valD_rep (k := key) rv with ⟨h1, h2⟩ | ⟨d', v', h1, h2, h3⟩
              · rw [h1] at w3
                have x := upd_ext (o := .dK (putK vs key v)) n3.s hL3 hm3
                have r2 : RepsK { c3 with H := upd c3.H a (.dK (putK vs key v)) } (putKD kvs key d) (putK vs key v) := (putKD_rep rv q3).mono x n3.s.wok
                have := cell_put n3.s hL3 hm3 (d := .dic (putKD kvs key d)) (o := .dK (putK vs key v)) ⟨_, upd_same, r2⟩
                exact w3 _ v this.1 this.2 (q3.mono this.1 n3.s.wok)
              · rw [h2] at hu; cases hu
          · exact False.elim w3
        · exact False.elim w3
/-! ### isinstance -/
/-- what isinstance asks of the class of number k -/
structure KitF (K : PySem.W.Frag) (C : CE) (k : Nat) : Prop where
  cl : Cls K (C k)
  ha : PySem.W.findIn K (.ref (C k)) "__class__" = some (some (.builtin "object.__class__"))
  hn : PySem.W.specialIn K (.builtin "object.__class__") "__get__" = some (some (.builtin "getset_descriptor.__get__"))
  htk : PySem.W.takesIn K (.builtin "object.__class__") = some true
  hm : PySem.W.mroIn K (C k) (.type "object") = some true
/-- the answer for a value -/
def isiD (bs : List String) (ks : List Nat) (ans : String → Bool) (ansO : Nat → Bool) (d : D) : Option Bool := match d with
  | .obj k _ => if k ∈ ks then some (ansO k) else none
  | .dit _ => none
  | d => match tyD d with | some n => if n ∈ bs then some (ans n) else none | none => none
def eIsi (bs : List String) (ks : List Nat) (ans : String → Bool) (ansO : Nat → Bool) (fe : DE) : DE := fun r m => (fe r m).bind fun d m => match isiD bs ks ans ansO (vw m d) with | some b => .ok (.bl b) m | none => .bad
/-- the class that stands second: its value, what isinstance says -/
structure IsiC (X : Cx) (C : CE) (e : Expr) (bs : List String) (ks : List Nat) (ans : String → Bool) (ansO : Nat → Bool) : Prop where
  cls : ∃ c u, PE X e (tC c) ∧ ClsV c u ∧ (∀ n ∈ bs, PySem.W.kitOne X.K (.type n) u = some (ans n)) ∧ ∀ k ∈ ks, PySem.W.kitOne X.K (.ref (C k)) u = some (ansO k) ∧ KitF X.K C k
theorem isiD_ty {c : RC} {bs : List String} {ks : List Nat} {ans : String → Bool} {ansO : Nat → Bool} {d : D} {v : V} {b : Bool} (hC : c.C = C) (hK : c.K = X.K) (q : Sees c d v) (h : isiD bs ks ans ansO d = some b) {u : Value} (h1 : ∀ n ∈ bs, PySem.W.kitOne X.K (.type n) u = some (ans n)) (h2 : ∀ k ∈ ks, PySem.W.kitOne X.K (.ref (C k)) u = some (ansO k) ∧ KitF X.K C k) :
    ∃ t, TyX X.K c.H v t ∧ PySem.W.kitOne X.K t u = some b := by
  unfold isiD at h
  split at h
  · split at h
    · rename_i hk
      cases h
      obtain ⟨a, dx, vs, rfl, ha, r⟩ := q.obj_inv
      rw [hC] at ha
      obtain ⟨g1, g2⟩ := h2 _ hk
      exact ⟨_, .base (.ins ha g2.cl g2.ha g2.hn g2.htk g2.hm), g1⟩
    · cases h
  · cases h
  · rename_i hnd
    split at h
    · rename_i n hn
      split at h
      · rename_i hb
        cases h
        refine ⟨.type n, ?_, h1 n hb⟩
        unfold tyD at hn
        split at hn <;> cases hn
        · rw [q.non_inv]; exact .base .non
        · rw [q.bl_inv]; exact .base (.bl _)
        · rw [q.int_inv]; exact .base (.int _)
        · rw [q.str_inv]; exact .base (.str _)
        · obtain ⟨a, vs, rfl, ha, r⟩ := q.lst_inv
          exact .base (.lst ha)
        · obtain ⟨a, vs, rfl, ha, r⟩ := q.tup_inv
          rw [hK] at ha
          rcases ha with ha | ⟨o, its, n', hl, hcl, _⟩
          · rcases ha with ha | ⟨o, ha⟩
            · exact .base (.tup ha)
            · exact .fTuple ha
          · exact .kTuple hl hcl
        · obtain ⟨a, vs, rfl, ha, r⟩ := q.dic_inv
          rcases ha with ha | ⟨o, ha⟩
          · exact .base (.dK ha)
          · exact .fDict ha
        · rename_i hnd
          exact absurd rfl (hnd _)
      · cases h
    · cases h
theorem de_isi {e e2 : Expr} {bs : List String} {ks : List Nat} {ans : String → Bool} {ansO : Nat → Bool} {fe : DE} {p pos : Pos} (I : IsiC X C e2 bs ks ans ansO) (he : PE X e (tE X.K C W fe)) (hm : X.mg "isinstance" = none) (hg : Gl X "isinstance" := by rfl)
    (hs : starEach [e, e2] X.env = (false, eval e X.env) :: starEach [e2] X.env := by rfl) (hs2 : starEach [e2] X.env = (false, eval e2 X.env) :: starEach [] X.env := by rfl) (hpl : (backTo pos (starEach [e2] X.env)).any (·.1) = false := by rfl) :
    PE X (.Call (.Name "isinstance" p) [e, e2] [] pos) (tE X.K C W (eIsi bs ks ans ansO fe)) := by
  obtain ⟨cv, u, h1, h2, h3, h4⟩ := I.cls
  refine PE.imp (pe_callB call_isi hg hm (by decide +kernel) (pa_cons he (pa_cons h1 pa_nil hs2) hs) (by decide) (by decide) hs hpl) fun σ H Q ⟨c, m, r, n, er, w⟩ => ?_
  refine tE_bind n er w fun c1 d m1 v n1 x1 er1 q w1 => ?_
  cases hi : isiD bs ks ans ansO (vw m1 d) with
  | none => rw [hi] at w1; exact False.elim w1
  | some b =>
    rw [hi] at w1
    obtain ⟨t, g1, g2⟩ := isiD_ty n1.C n1.K (q.sees n1.s) hi h3 h4
    exact ⟨v, cv, t, u, b, rfl, h2, g1, g2, w1 c1 _ (Ext.refl _) n1.s (.bl _)⟩
/-! ### texts -/
def oJoin (a : Str) (ys : List D) : Option D := match strsD ys with
  | some l => if (l.map (·.length)).sum + l.length * a.length ≤ 16777216 then some (.str (Txt.join a l)) else none
  | none => none
def dJoin : D → D → Option D
  | .str a, .lst ys => oJoin a ys
  | .str a, .tup ys => oJoin a ys
  | _, _ => none
def isStrD : D → Bool
  | .str _ => true
  | _ => false
/-- a method of a text with one argument -/
def eM1 (fn : D → D → Option D) (fo fe : DE) : DE := fun r m => (fo r m).bind fun o m => if isStrD o = true then (fe r m).bind fun d m => ofO m (fn o (vw m d)) else .bad
def MtD (X : Cx) (C : CE) (ρ : V → List V → Hp → VK → Prop) (fn : D → D → Option D) : Prop :=
  ∀ (c : RC) (m : Store) (x : Str) (a d : D) (y : V) (Q : VK), Now X.K C c.H c m → Sees c a y → fn (.str x) a = some d → (∀ c' v, Ext c c' → SRep c' m → Rep c' d v → Q v c'.H) → ρ (.str x) [y] c.H Q
theorem de_m1 {id : String} {name : Str} {apos pos : Pos} {o e : Expr} {fo fe : DE} {ρ : V → List V → Hp → VK → Prop} {fn : D → D → Option D} (slot : Slot "str" name id) (ty : typeOf (.builtin id) = pure (.type "method_descriptor")) (rule : MtR X id ρ) (hd : MtD X C ρ fn) (ho : PE X o (tE X.K C W fo)) (he : PE X e (tE X.K C W fe))
    (hs : starEach [e] X.env = [(false, eval e X.env)] := by rfl) (hbase : attributeBase o name X.env (eval o X.env) = eval o X.env := by rfl) (hline : (apos.endLine == pos.line) = true := by rfl) :
    PE X (.Call (.Attribute o name apos) [e] [] pos) (tE X.K C W (eM1 fn fo fe)) :=
  PE.imp (pe_m1 slot ty rule ho he hs hbase hline) fun σ H Q ⟨c, m, r, n, er, w⟩ => tE_bind n er w fun c1 od m1 ov n1 x1 er1 q1 w1 => by
    cases od with
    | str x =>
      cases q1
      refine ⟨⟨x, rfl⟩, tE_bind n1 er1 w1 fun c2 d m2 v n2 x2 er2 q2 w2 => ?_⟩
      cases ef : fn (.str x) (vw m2 d) with
      | none => rw [ef] at w2; exact False.elim w2
      | some dd => rw [ef] at w2; exact hd c2 m2 x _ dd v _ n2 (q2.sees n2.s) ef fun c' v' x' s' q' => w2 c' v' x' s' q'
    | _ => exact False.elim w1
theorem md_join : MtD X C (fun x xs H Q => ∃ a p, ∃ ys : List Str, x = .str a ∧ xs = [.ref p] ∧ (SqL X.K H p (ys.map V.str) ∨ SqT X.K H p (ys.map V.str)) ∧ (ys.map (·.length)).sum + ys.length * a.length ≤ 16777216 ∧ Q (.str (Txt.join a ys)) H) dJoin := by
  intro c m x a d y Q n q e k
  have aux : ∀ ys, oJoin x ys = some d → ∃ l, strsD ys = some l ∧ (l.map (·.length)).sum + l.length * x.length ≤ 16777216 ∧ d = .str (Txt.join x l) := fun ys h => by
    unfold oJoin at h
    split at h
    · split at h
      · rename_i l hl hh; cases h; exact ⟨l, hl, hh, rfl⟩
      · cases h
    · cases h
  cases a with
  | lst ys =>
    obtain ⟨l, h1, h2, rfl⟩ := aux ys e
    obtain ⟨p, vs, rfl, hp, rp⟩ := q.lst_inv
    rw [strsD_rep rp h1] at hp
    exact ⟨x, p, l, rfl, rfl, .inl (.inl (.inl hp)), h2, k_at n k (.str _)⟩
  | tup ys =>
    obtain ⟨l, h1, h2, rfl⟩ := aux ys e
    obtain ⟨p, vs, rfl, hp, rp⟩ := q.tup_inv
    rw [strsD_rep rp h1, n.K] at hp
    exact ⟨x, p, l, rfl, rfl, .inr hp, h2, k_at n k (.str _)⟩
  | _ => cases e
def dLstrip : D → D → Option D
  | .str a, .str b => if a.length ≤ sizeLine then some (.str (Txt.lstripChars a b)) else none
  | _, _ => none
theorem md_lstrip : MtD X C (fun x xs H Q => ∃ a b, x = .str a ∧ xs = [.str b] ∧ a.length ≤ sizeLine ∧ Q (.str (Txt.lstripChars a b)) H) dLstrip := by
  intro c m x a d y Q n q e k
  cases a with
  | str b =>
    unfold dLstrip at e
    simp only at e
    split at e
    · rename_i h; cases e
      exact ⟨x, b, rfl, by rw [q.str_inv], h, k_at n k (.str _)⟩
    · cases e
  | _ => cases e
theorem de_join {apos pos : Pos} {o e : Expr} {fo fe : DE} (ho : PE X o (tE X.K C W fo)) (he : PE X e (tE X.K C W fe)) (hs : starEach [e] X.env = [(false, eval e X.env)] := by rfl) (hbase : attributeBase o "join" X.env (eval o X.env) = eval o X.env := by rfl) (hline : (apos.endLine == pos.line) = true := by rfl) :
    PE X (.Call (.Attribute o "join" apos) [e] [] pos) (tE X.K C W (eM1 dJoin fo fe)) := de_m1 F.slot_str_join F.type_str_join mt_join md_join ho he hs hbase hline
theorem de_lstrip {apos pos : Pos} {o e : Expr} {fo fe : DE} (ho : PE X o (tE X.K C W fo)) (he : PE X e (tE X.K C W fe)) (hs : starEach [e] X.env = [(false, eval e X.env)] := by rfl) (hbase : attributeBase o "lstrip" X.env (eval o X.env) = eval o X.env := by rfl) (hline : (apos.endLine == pos.line) = true := by rfl) :
    PE X (.Call (.Attribute o "lstrip" apos) [e] [] pos) (tE X.K C W (eM1 dLstrip fo fe)) := de_m1 F.slot_str_lstrip F.type_str_lstrip mt_lstripChars md_lstrip ho he hs hbase hline
/-! ### sorted -/
def leS (a b : Str) : Bool := !ltCps b.cps.toList a.cps.toList
def sortS (l : List Str) : List Str := l.mergeSort leS
theorem leS_iff {a b : Str} : leS a b = true ↔ a.cps.toList ≤ b.cps.toList := by
  unfold leS
  rw [ltCps_eq]
  simp [List.not_lt]
theorem leS_trans (a b c : Str) (h : leS a b = true) (h2 : leS b c = true) : leS a c = true := leS_iff.mpr (List.le_trans (leS_iff.mp h) (leS_iff.mp h2))
theorem leS_total (a b : Str) : (leS a b || leS b a) = true := by
  rcases List.le_total a.cps.toList b.cps.toList with h | h
  · simp [leS_iff.mpr h]
  · simp [leS_iff.mpr h]
theorem leS_antisymm {a b : Str} (h : leS a b = true) (h2 : leS b a = true) : a = b := by
  have := List.le_antisymm (leS_iff.mp h) (leS_iff.mp h2)
  cases a; cases b
  simpa [Str.mk.injEq, Array.toList_inj] using this
theorem sortedS_pw : ∀ {l : List Str}, sortedS l = true → l.Pairwise fun a b => leS a b = true
  | [], _ => .nil
  | x :: l, h => by
    have h : risingS x l = true := h
    have key : ∀ (l : List Str) (p : Str), risingS p l = true → (p :: l).Pairwise fun a b => leS a b = true := by
      intro l
      induction l with
      | nil => intro p _; exact List.pairwise_singleton _ _
      | cons y l ih =>
        intro p hp
        unfold risingS at hp
        rw [Bool.and_eq_true] at hp
        have q := ih y hp.2
        refine List.pairwise_cons.mpr ⟨fun z hz => ?_, q⟩
        have hpy : leS p y = true := hp.1
        rcases List.mem_cons.mp hz with rfl | hz
        · exact hpy
        · exact leS_trans _ _ _ hpy ((List.pairwise_cons.mp q).1 z hz)
    exact key l x h
theorem sortS_of {xs ys : List Str} (hp : ys.Perm xs) (hs : sortedS ys = true) : ys = sortS xs :=
  List.Perm.eq_of_pairwise (fun a b _ _ h1 h2 => leS_antisymm h1 h2) (sortedS_pw hs) (List.pairwise_mergeSort (fun a b c => leS_trans a b c) leS_total xs) (hp.trans (List.mergeSort_perm xs leS).symm)
def keysS : List (Key × D) → Option (List Str)
  | [] => some []
  | (.inr x, _) :: r => (keysS r).map (x :: ·)
  | _ => none
theorem keysS_at : ∀ {kvs : List (Key × D)} {l : List Str}, keysS kvs = some l → kvs.map (·.1) = l.map Sum.inr
  | [], l, h => by cases h; rfl
  | (.inr x, d) :: r, l, h => by
    unfold keysS at h
    obtain ⟨l', h1, rfl⟩ := Option.map_eq_some_iff.mp h
    simp [keysS_at h1]
  | (.inl _, _) :: _, _, h => by cases h
def fSortedS : List D → Option D
  | [.lst xs] => (match strsD xs with | some l => if l.length < 64 then some (.lst ((sortS l).map .str)) else none | none => none)
  | [.dic kvs] => (match keysS kvs with | some l => if l.length < 64 then some (.lst ((sortS l).map .str)) else none | none => none)
  | _ => none
def rSortedSD (K : PySem.W.Frag) : List V → Hp → VK → Prop := fun xs H Q => rSortedS K xs H Q ∨ ∃ (a : Addr) (kvs : List (Key × V)) (ks : List Str), xs = [.ref a] ∧ Rd H a (.dK kvs) ∧ kvs.map (·.1) = ks.map Sum.inr ∧ ks.length < 64 ∧ ∀ ys p, ys.Perm ks → sortedS ys = true → H p = none → Q (.ref p) (upd H p (.lst (ys.map V.str)))
theorem cr_sortedSD (hc : X.calm = true) : CallR X (.builtin "sorted") (rSortedSD X.K) := CallR.or cr_sortedS (call_sortedD hc)
theorem strs_reps {c : RC} (l : List Str) : Reps c (l.map .str) (l.map V.str) := by
  induction l with
  | nil => exact .nil
  | cons a l ih => exact .cons (.str _) ih
theorem cd_sortedS : CdD X C (rSortedSD X.K) fSortedS := by
  intro c m ds vs d Q n qs e k
  unfold fSortedS at e
  split at e
  · split at e
    · rename_i l hl
      split at e
      · rename_i h64
        cases e
        obtain ⟨v, rfl, q⟩ := seesL1 qs
        obtain ⟨a, ws, rfl, h, r⟩ := q.lst_inv
        rw [strsD_rep r hl] at h
        exact .inl ⟨a, l, rfl, .inl (.inl h), h64, fun ys p hp hs hn => by rw [sortS_of hp hs]; exact k_lst n k (strs_reps _) p hn⟩
      · cases e
    · cases e
  · split at e
    · rename_i l hl
      split at e
      · rename_i h64
        cases e
        obtain ⟨v, rfl, q⟩ := seesL1 qs
        obtain ⟨a, ws, rfl, h, r⟩ := q.dic_inv
        exact .inr ⟨a, ws, l, rfl, h, by rw [RepsK.keys r]; exact keysS_at hl, h64, fun ys p hp hs hn => by rw [sortS_of hp hs]; exact k_lst n k (strs_reps _) p hn⟩
      · cases e
    · cases e
  · cases e
end
end DL
/-! DL13: static methods, classmethods, making with keywords; starred displays; max with a default; sorted down; dict displays, dict comprehensions. -/
namespace DL
open PySem PySem.Spec PyProof.Rows L2 ClX

/-- C.m is a static method: its record at p, its def at g -/
structure SMet (K : PySem.W.Frag) (C : Addr) (mc : Value) (m : Str) (p g : Addr) : Prop where
  at_ : PySem.W.findCls K (.ref C) mc m = some (.get (.builtin "staticmethod.__get__") (.ref p) .none (.ref C))
  rc : ∃ rest, PySem.W.recIn K p "staticmethod" = some (.ref g :: rest)
  kp : PySem.W.keepIn K (.ref g) = true
section
variable {X : Cx} {C : CE} {W : WX} {k n : Nat} {f p g Cl : Addr} {mc : Value} {x m : Str} {pp pos apos : Pos} {e o : Expr} {es : List Expr} {kws : List Keyword} {ks : List Str}
/-- C.m(e, ..), m static -/
theorem de_static {G : List D → Store → Res D} {ga : DA} {pl : Sem Bool} (tk : Takes X W) (hr : Room k X.A) (r : CRead X.K Cl mc) (c : SMet X.K Cl mc m p f) (F : FnG X.prog X.w X.K X.mg X.base k f C G) (hm : X.mg x = some (.ref Cl)) (ha : PA X (e :: es) (tA X.K C W ga))
    (hg : Gl X x := by rfl) (hdb : (x == ("__debug__" : Str)) = false := by decide) (hst : starEach (e :: es) X.env = (false, eval e X.env) :: starEach es X.env := by rfl) (hpl : (backTo pos (starEach es X.env)).any (·.1) = false := by rfl)
    (ht : eval (.Call (.Attribute (.Name x pp) m apos) (e :: es) [] pos) X.env = (do
      let ov ← eval (.Name x pp) X.env
      standAt apos.atName
      let (f, first) ← holding [ov] (getMethod ov m pl)
      callWith pos f first (backTo pos (starEach (e :: es) X.env)) (backToKw pos (keywordEach [] X.env))) := by rfl) :
    PE X (.Call (.Attribute (.Name x pp) m apos) (e :: es) [] pos) (tE X.K C W (eCall G ga)) := by
  refine ⟨fun pins s σ H Q I ⟨c0, mm, rr, n0, er, w⟩ => ?_⟩
  refine PySem.W.methodCall_KW (pl := pl) (ld_glob I hg hm ?_ hdb) ht
  obtain ⟨rest, hp⟩ := c.rc
  refine PySem.W.method_cls I.kIn r.ga (PySem.W.cls_bind I.kIn r.rd c.at_ (wpAny_call (PySem.W.sm_get (s := { s with toks := s.toks + 1 }) I.kIn hp (PySem.W.handed_on rfl ?_))))
  have I1 : Inv X pins σ H { s with toks := s.toks + 1 } := I.tok _
  refine PySem.W.callWith_K (h₀ := X.base) I.ok.mod.kin c.kp (thn (ha.run pos pins _ σ H (fun vs H1 => spG X.K C G vs H1 Q (WE W σ)) I1 (tA_bind n0 er w fun c1 d m1 v n1 x1 er1 q w1 => ⟨c1, m1, d, n1, q, w1⟩)) fun us s1 ⟨vs, H1, I2, rv, q⟩ => ⟨I2.kIn, ?_⟩) hst hpl
  exact run_fnG F hr (passAt tk σ) I2 rv q
/-- C.m(e, ..), m a classmethod -/
def eCm (Cl : Addr) (G : List D → Store → Res D) (ga : DA) : DE := fun r m => (ga r m).bind fun ds m => G (.adr Cl :: ds) m
theorem de_cmeth {G : List D → Store → Res D} {ga : DA} {pl : Sem Bool} (tk : Takes X W) (hr : Room k X.A) (r : CRead X.K Cl mc) (c : CMet X.K Cl mc m p f) (F : FnG X.prog X.w X.K X.mg X.base k f C G) (hm : X.mg x = some (.ref Cl)) (ha : PA X (e :: es) (tA X.K C W ga))
    (hg : Gl X x := by rfl) (hdb : (x == ("__debug__" : Str)) = false := by decide) (hst : starEach (e :: es) X.env = (false, eval e X.env) :: starEach es X.env := by rfl) (hpl : (backTo pos (starEach es X.env)).any (·.1) = false := by rfl)
    (ht : eval (.Call (.Attribute (.Name x pp) m apos) (e :: es) [] pos) X.env = (do
      let ov ← eval (.Name x pp) X.env
      standAt apos.atName
      let (f, first) ← holding [ov] (getMethod ov m pl)
      callWith pos f first (backTo pos (starEach (e :: es) X.env)) (backToKw pos (keywordEach [] X.env))) := by rfl) :
    PE X (.Call (.Attribute (.Name x pp) m apos) (e :: es) [] pos) (tE X.K C W (eCm Cl G ga)) := by
  refine ⟨fun pins s σ H Q I ⟨c0, mm, rr, n0, er, w⟩ => ?_⟩
  refine PySem.W.methodCall_KW (pl := pl) (ld_glob I hg hm ?_ hdb) ht
  refine getmethcm_ok I r c fun s2 I2 => ?_
  have hb : X.base.get? s.heap.objs.size = none := base_none I (Nat.le_refl _)
  refine callwith_cm I2 hb c.fi (thn (ha.run pos _ s2 σ H (fun vs H1 => spG X.K C G (.ref Cl :: vs) H1 Q (WE W σ)) I2 (tA_bind n0 er w fun c1 d m1 v n1 x1 er1 q w1 => ⟨c1, m1, .adr Cl :: d, n1, .cons (.adr _) q, w1⟩)) fun us s1 ⟨vs, H1, I3, rv, q⟩ => ⟨⟨pin_at I3, I3.kIn⟩, ?_⟩) hst hpl
  refine wpAny_call (PySem.W.method_call (pin_at I3) ?_)
  exact codeAny_mono (run_codeG (us := .ref Cl :: us) (vs := .ref Cl :: vs) F hr (passAt tk σ) I3 (.cons rfl rv) q) fun r s' z => by
    cases r with
    | error e => exact z
    | ok fl =>
      cases fl with
      | ret v => exact unpinE z
      | next => exact False.elim z
      | brk => exact False.elim z
      | cont => exact False.elim z
/-- C.m(e, .., k = v, ..), m a classmethod -/
def eCmK (Cl : Addr) (n m : Nat) (G : List D → List D → Store → Res D) (ga gk : DA) : DE := fun r s => (ga r s).bind fun ds s => (gk r s).bind fun es s => if ds.length = n ∧ es.length = m then G (.adr Cl :: ds) es s else .bad
theorem de_cmethK {G : List D → List D → Store → Res D} {ga gk : DA} {pl : Sem Bool} (tk : Takes X W) (hr : Room k X.A) (r : CRead X.K Cl mc) (c : CMet X.K Cl mc m p f) (F : FnGK X.prog X.w X.K X.mg X.base k f (n + 1) ks C G) (hm : X.mg x = some (.ref Cl)) (ha : PA X (e :: es) (tA X.K C W ga)) (hkw : PKD X C W kws gk)
    (hg : Gl X x := by rfl) (hdb : (x == ("__debug__" : Str)) = false := by decide) (hst : starEach (e :: es) X.env = (false, eval e X.env) :: starEach es X.env := by rfl)
    (hall : (backToKw pos (keywordEach kws X.env)).all (·.1.isSome) = true := by rfl) (hks : (backToKw pos (keywordEach kws X.env)).filterMap (·.1) = ks := by rfl)
    (hpl : ((backTo pos (starEach (e :: es) X.env)).any (·.1) || (backToKw pos (keywordEach kws X.env)).any (·.1.isNone)) = false := by rfl)
    (ht : eval (.Call (.Attribute (.Name x pp) m apos) (e :: es) kws pos) X.env = (do
      let ov ← eval (.Name x pp) X.env
      standAt apos.atName
      let (f, first) ← holding [ov] (getMethod ov m pl)
      callWith pos f first (backTo pos (starEach (e :: es) X.env)) (backToKw pos (keywordEach kws X.env))) := by rfl) :
    PE X (.Call (.Attribute (.Name x pp) m apos) (e :: es) kws pos) (tE X.K C W (eCmK Cl n ks.length G ga gk)) := by
  refine ⟨fun pins s σ H Q I ⟨c0, mm, rr, n0, er, w⟩ => ?_⟩
  refine PySem.W.methodCall_KW (pl := pl) (ld_glob I hg hm ?_ hdb) ht
  refine getmethcm_ok I r c fun s2 I2 => ?_
  refine PySem.W.callWith_of hpl (PySem.W.keeps_M (q := s.heap.objs.size) (self := .ref Cl) c.fi) (PyProof.Rows.evalArgs_kw2 hall (thn (ha.run pos _ s2 σ H (fun vs H1 => tA X.K C W gk σ H1 fun zs H2 => vs.length = n ∧ zs.length = ks.length ∧ ∃ c m ds es, Now X.K C H2 c m ∧ Reps c ds vs ∧ Reps c es zs ∧ RW C Rep c (G (.adr Cl :: ds) es m) Q (WE W σ)) I2
    (tA_bind n0 er w fun c1 d m1 v n1 x1 er1 q w1 => tA_bind n1 er1 w1 fun c2 d2 m2 v2 n2 x2 er2 q2 w2 => ?_)) fun us s3 ⟨vs, H1, I3, rv, q⟩ => ?_) hst)
  · split at w2
    · rename_i h
      exact ⟨q.length.trans h.1, q2.length.trans h.2, c2, m2, d, d2, n2, Reps.mono x2 n1.s.wok q, q2, w2⟩
    · exact False.elim w2
  · refine thn (hkw.h.run pos _ s3 σ H1 _ I3 q) fun ws s4 ⟨zs, H2, I4, rz, l1, l2, c5, m5, ds, es', n5, q5, q6, w5⟩ => ⟨⟨pin_at I4, I4.kIn⟩, ?_⟩
    rw [hks]
    refine wpAny_call (PySem.W.method_call (pin_at I4) ?_)
    refine codeAny_mono (F X.A X.stack s4 H2 (.ref Cl :: us) ws (.ref Cl :: vs) zs Q (WE W σ) hr I4.env0 (.cons rfl rv) rz (by simp [l1]) l2 ⟨c5, m5, _, es', n5, .cons (.adr _) q5, q6, w5⟩) fun r s' hq => ?_
    cases r with
    | error e => exact passAt tk σ _ H2 s4 e s' I4 hq
    | ok fl =>
      cases fl with
      | ret v => exact unpinE (I4.after hq)
      | next => exact False.elim hq
      | brk => exact False.elim hq
      | cont => exact False.elim hq
/-! ### C(e, .., k = v, ..) -/
def flatK (n : Nat) (G : List D → List D → Store → Res D) : List D → Store → Res D := fun l m => G (l.take n) (l.drop n) m
theorem run_makeKG {j : Nat} {fI : Addr} {G : List D → List D → Store → Res D} {pins : List (Addr × Obj)} {σ : L2.St} {H : Hp} {s : Shared} {Q : VK} {us ws : List Value} {vs zs : List V} {E : XK} (M : Mk X.K (C j) fI) (F : FnGK X.prog X.w X.K X.mg X.base k fI (n + 1) ks C G) (hr : Room (k + 1) X.A) (hx : PassesAt (L2.CX X.prog X.w) X σ E)
    (I : Inv X pins σ H s) (r : Vals vs us) (rz : Vals zs ws) (l1 : vs.length = n) (l2 : zs.length = ks.length) (h : MkW C j (spG X.K C (flatK (n + 1) G)) (vs ++ zs) H Q E) : wpAny (model X.prog X.w) X.A (call (.ref (C j)) us (ks.zip ws)) (EP X pins σ Q) X.xe s := by
  obtain ⟨c, m, ds, nw, q, w⟩ := h (s.heap.objs.size + 1) s.heap.objs.size (I.hok.fresh (Nat.le_succ _)) (I.hok.fresh (Nat.le_refl _)) (Nat.ne_of_lt (Nat.lt_succ_self _))
  have I2 := Inv.made (C := C j) I
  have q1 : Reps c (ds.take (n + 1)) (V.ref (s.heap.objs.size + 1) :: vs) := by
    have := Paired.take (n + 1) q
    rwa [List.take_succ_cons, List.take_left' l1] at this
  have q2 : Reps c (ds.drop (n + 1)) zs := by
    have := Paired.drop (n + 1) q
    rwa [List.drop_succ_cons, List.drop_left' l1] at this
  refine wpAny_call (make_map (f := fI) I.kIn M.makes M.init (beq_iff_eq.mp M.fn) (codeAny_mono (F _ X.stack _ _ (Value.ref (s.heap.objs.size + 1) :: us) ws (V.ref (s.heap.objs.size + 1) :: vs) zs _ E (hr.make (C j) us (ks.zip ws)) (I2.env0.make (C j) us (ks.zip ws)) (.cons rfl r) rz (by simp [l1]) l2 ⟨c, m, _, _, nw, q1, q2, w⟩) fun r s' hq' => ?_))
  cases r with
  | error e => exact hx pins _ _ e s' I2 hq'
  | ok fl =>
    cases fl with
    | ret u =>
      obtain ⟨v, H', I3, rv, ev, q3⟩ := I2.after hq'
      subst ev
      exact ⟨rv, ⟨V.ref (s.heap.objs.size + 1), H', I3, rfl, q3⟩⟩
    | next => exact False.elim hq'
    | brk => exact False.elim hq'
    | cont => exact False.elim hq'
noncomputable def eMakeK (j n m : Nat) (G : List D → List D → Store → Res D) (ga gk : DA) : DE := fun r s => (ga r s).bind fun ds s => (gk r s).bind fun es s => if ds.length = n ∧ es.length = m then mkD j (flatK (n + 1) G) (ds ++ es) s else .bad
theorem makeK_core {j : Nat} {fI : Addr} {G : List D → List D → Store → Res D} {ga gk : DA} {pins : List (Addr × Obj)} {σ : L2.St} {H : Hp} {s : Shared} {Q : VK} (tk : Takes X W) (hr : Room (k + 1) X.A) (M : Mk X.K (C j) fI) (F : FnGK X.prog X.w X.K X.mg X.base k fI (n + 1) ks C G) (ha : PA X (e :: es) (tA X.K C W ga)) (hkw : PKD X C W kws gk)
    (hst : starEach (e :: es) X.env = (false, eval e X.env) :: starEach es X.env) (hall : (backToKw pos (keywordEach kws X.env)).all (·.1.isSome) = true) (hks : (backToKw pos (keywordEach kws X.env)).filterMap (·.1) = ks)
    (hpl : ((backTo pos (starEach (e :: es) X.env)).any (·.1) || (backToKw pos (keywordEach kws X.env)).any (·.1.isNone)) = false) (I : Inv X pins σ H s) (h : tE X.K C W (eMakeK j n ks.length G ga gk) σ H Q) :
    wpAny (model X.prog X.w) X.A (callWith pos (.ref (C j)) [] (backTo pos (starEach (e :: es) X.env)) (backToKw pos (keywordEach kws X.env))) (EP X pins σ Q) X.xe s := by
  obtain ⟨c0, mm, rr, n0, er, w⟩ := h
  refine PySem.W.callWith_KW (h₀ := X.base) I.ok.mod.kin M.kp hall (thn (ha.run pos pins s σ H (fun vs H1 => tA X.K C W gk σ H1 fun zs H2 => vs.length = n ∧ zs.length = ks.length ∧ MkW C j (spG X.K C (flatK (n + 1) G)) (vs ++ zs) H2 Q (WE W σ)) I
    (tA_bind n0 er w fun c1 d m1 v n1 x1 er1 q w1 => tA_bind n1 er1 w1 fun c2 d2 m2 v2 n2 x2 er2 q2 w2 => ?_)) fun us s1 ⟨vs, H1, I1, r, q⟩ => ?_) hpl hst
  · split at w2
    · rename_i h
      exact ⟨q.length.trans h.1, q2.length.trans h.2, mkD_ok n2 (Paired.append (Reps.mono x2 n1.s.wok q) q2) w2⟩
    · exact False.elim w2
  · refine thn (hkw.h.run pos pins s1 σ H1 _ I1 q) fun ws s2 ⟨zs, H2, I2, rz, l1, l2, q2⟩ => ⟨I2.kIn, ?_⟩
    rw [hks]
    exact run_makeKG M F hr (passAt tk σ) I2 r rz l1 l2 q2
theorem de_makeK {j : Nat} {fI : Addr} {G : List D → List D → Store → Res D} {ga gk : DA} (tk : Takes X W) (hr : Room (k + 1) X.A) (M : Mk X.K (C j) fI) (F : FnGK X.prog X.w X.K X.mg X.base k fI (n + 1) ks C G) (hm : X.mg x = some (.ref (C j))) (ha : PA X (e :: es) (tA X.K C W ga)) (hkw : PKD X C W kws gk)
    (hg : Gl X x := by rfl) (hdb : (x == ("__debug__" : Str)) = false := by decide) (hst : starEach (e :: es) X.env = (false, eval e X.env) :: starEach es X.env := by rfl)
    (hall : (backToKw pos (keywordEach kws X.env)).all (·.1.isSome) = true := by rfl) (hks : (backToKw pos (keywordEach kws X.env)).filterMap (·.1) = ks := by rfl)
    (hpl : ((backTo pos (starEach (e :: es) X.env)).any (·.1) || (backToKw pos (keywordEach kws X.env)).any (·.1.isNone)) = false := by rfl) :
    PE X (.Call (.Name x pp) (e :: es) kws pos) (tE X.K C W (eMakeK j n ks.length G ga gk)) := by
  refine ⟨fun pins s σ H Q I h => ?_⟩
  refine wpAny_Call_Name_kw (ld_glob I hg hm ?_ hdb)
  exact makeK_core tk hr M F ha hkw hst hall hks hpl I h
/-! the class by a slot: cls(..) -/
theorem slot_load {i : Nat} {Q : Value → Shared → Prop} {pins : List (Addr × Obj)} {σ : L2.St} {H : Hp} {s : Shared} {c : RC} {mm : Store} {r : DEnv} (I : Inv X pins σ H s) (n : Now X.K C H c mm) (er : ER c r σ) (hi : r[i]? = some (some (.adr Cl))) (hN : X.N[i]? = some x) (hv : Vis X.env.scope x) (hd : (x == ("__debug__" : Str)) = false) (hcd : (x == ("__classdict__" : Str)) = false)
    (h : ∀ s', Inv X pins σ H s' → Q (.ref Cl) s') : wpAny (model X.prog X.w) X.A (eval (.Name x pp) X.env) Q X.xe s := by
  obtain ⟨v, hv2, q⟩ := er.at_ i _ hi
  cases q
  refine thn ((pe_var (pos := pp) (i := i) hN hv hd hcd).run pins s σ H (fun v H1 => v = .ref Cl ∧ H1 = H) I ⟨.ref Cl, hv2, rfl, rfl⟩) fun u s1 ⟨v, H1, I1, r1, ev, eH⟩ => ?_
  subst ev
  rw [eH] at I1
  cases r1
  exact h s1 I1
def isAdr (a : Addr) : Option (Option D) → Bool
  | some (some (.adr b)) => decide (a = b)
  | _ => false
theorem isAdr_iff {a : Addr} {o : Option (Option D)} (h : isAdr a o = true) : o = some (some (.adr a)) := by
  unfold isAdr at h
  split at h
  · rw [of_decide_eq_true h]
  · cases h
noncomputable def eAtCls (i : Nat) (Cl : Addr) (f : DE) : DE := fun r m => if isAdr Cl r[i]? = true then f r m else .bad
theorem de_clsK {i j : Nat} {fI : Addr} {G : List D → List D → Store → Res D} {ga gk : DA} (tk : Takes X W) (hr : Room (k + 1) X.A) (M : Mk X.K (C j) fI) (F : FnGK X.prog X.w X.K X.mg X.base k fI (n + 1) ks C G) (ha : PA X (e :: es) (tA X.K C W ga)) (hkw : PKD X C W kws gk)
    (hN : X.N[i]? = some x := by rfl) (hv : Vis X.env.scope x := by first | exact Or.inl rfl | exact Or.inr (Or.inl rfl) | exact Or.inr (Or.inr rfl)) (hdb : (x == ("__debug__" : Str)) = false := by decide) (hcd : (x == ("__classdict__" : Str)) = false := by decide) (hst : starEach (e :: es) X.env = (false, eval e X.env) :: starEach es X.env := by rfl)
    (hall : (backToKw pos (keywordEach kws X.env)).all (·.1.isSome) = true := by rfl) (hks : (backToKw pos (keywordEach kws X.env)).filterMap (·.1) = ks := by rfl)
    (hpl : ((backTo pos (starEach (e :: es) X.env)).any (·.1) || (backToKw pos (keywordEach kws X.env)).any (·.1.isNone)) = false := by rfl) :
    PE X (.Call (.Name x pp) (e :: es) kws pos) (tE X.K C W (eAtCls i (C j) (eMakeK j n ks.length G ga gk))) := by
  refine ⟨fun pins s σ H Q I ⟨c0, mm, rr, n0, er, w⟩ => ?_⟩
  unfold eAtCls at w
  split at w
  · rename_i hi
    exact wpAny_Call_Name_kw (slot_load I n0 er (isAdr_iff hi) hN hv hdb hcd fun s' I' => makeK_core tk hr M F ha hkw hst hall hks hpl I' ⟨c0, mm, rr, n0, er, w⟩)
  · exact False.elim w
theorem de_cls {i j : Nat} {fI : Addr} {G : List D → Store → Res D} {ga : DA} (tk : Takes X W) (hr : Room (k + 1) X.A) (M : Mk X.K (C j) fI) (F : FnG X.prog X.w X.K X.mg X.base k fI C G) (ha : PA X (e :: es) (tA X.K C W ga))
    (hN : X.N[i]? = some x := by rfl) (hv : Vis X.env.scope x := by first | exact Or.inl rfl | exact Or.inr (Or.inl rfl) | exact Or.inr (Or.inr rfl)) (hdb : (x == ("__debug__" : Str)) = false := by decide) (hcd : (x == ("__classdict__" : Str)) = false := by decide) (hst : starEach (e :: es) X.env = (false, eval e X.env) :: starEach es X.env := by rfl)
    (hpl : (backTo pos (starEach es X.env)).any (·.1) = false := by rfl) : PE X (.Call (.Name x pp) (e :: es) [] pos) (tE X.K C W (eAtCls i (C j) (eCall (mkD j G) ga))) := by
  refine ⟨fun pins s σ H Q I ⟨c0, mm, rr, n0, er, w⟩ => ?_⟩
  unfold eAtCls at w
  split at w
  · rename_i hi
    refine wpAny_Call_Name_kw (slot_load I n0 er (isAdr_iff hi) hN hv hdb hcd fun s' I' => ?_)
    refine PySem.W.callWith_K (h₀ := X.base) I'.ok.mod.kin M.kp (thn (ha.run pos pins s' σ H (fun vs H1 => MkW C j (spG X.K C G) vs H1 Q (WE W σ)) I' (tA_bind n0 er w fun c1 d m1 v n1 x1 er1 q w1 => mkD_ok n1 q w1)) fun us s1 ⟨vs, H1, I1, r, q⟩ => ⟨I1.kIn, ?_⟩) hst hpl
    exact run_makeG M F hr (passAt tk σ) I1 r q
  · exact False.elim w
/-! ### starred items of a display -/
def aStar (f : DE) (g : DA) : DA := fun r m => (f r m).bind fun d m => match d with
  | .lst xs => (g r m).bind fun ys m => .ok (xs ++ ys) m
  | .tup xs => (g r m).bind fun ys m => .ok (xs ++ ys) m
  | _ => .bad
theorem da_star {fe : DE} {ga : DA} {sp : Pos} (he : PE X e (tE X.K C W fe)) (ha : PA X es (tA X.K C W ga)) (hs : starEach (.Starred e sp :: es) X.env = (true, eval e X.env) :: starEach es X.env := by rfl) : PA X (.Starred e sp :: es) (tA X.K C W (aStar fe ga)) :=
  PA.imp (StX.pa_star he ha hs) fun σ H Q ⟨c, m, r, n0, er, w⟩ => tE_bind n0 er w fun c1 d m1 v n1 x1 er1 q w1 => by
    cases d with
    | lst xs =>
      obtain ⟨a, vs, rfl, wa, hv, rv⟩ := q.lst_inv
      exact ⟨a, vs, rfl, .inr (.inl (.inl hv)), tA_bind n1 er1 w1 fun c2 ys m2 us n2 x2 er2 q2 w2 => RW.now w2 n2.s (Paired.append (Reps.mono x2 n1.s.wok rv) q2)⟩
    | tup xs =>
      obtain ⟨a, vs, rfl, hv, rv⟩ := q.tup_inv
      rw [n1.K] at hv
      exact ⟨a, vs, rfl, .inl hv, tA_bind n1 er1 w1 fun c2 ys m2 us n2 x2 er2 q2 w2 => RW.now w2 n2.s (Paired.append (Reps.mono x2 n1.s.wok rv) q2)⟩
    | _ => exact False.elim w1
end
end DL
/-! DL14: own exceptions with one field: made, raised, caught. -/
namespace DL
open PySem PySem.Spec PyProof.Rows L2
open PySem.W (Frag findIn typeIn keepIn subIn hasDictIn clsIn codeIn exmOne)
open PySem.HandSPX (excO)

/-- own classes, then a base's mro -/
theorem refsT_or {tl : List Value} : ∀ l : List Value, refsT tl l = true → (∃ c r, l = .ref c :: r ∧ refsT tl r = true) ∨ l = tl
  | [], e => .inr (beq_iff_eq.mp e)
  | v :: r, e => by
    cases v with
    | ref c => exact .inl ⟨c, r, rfl, e⟩
    | _ => exact .inr (beq_iff_eq.mp e)
/-- what is asked of the base -/
structure BaseT (tl : List Value) : Prop where
  pass : ∀ self, refuseLoop self "__setattr__" tl = pure ()
  ne : tl ≠ []
  ob : tl.contains (.type "object") = true
theorem refsT_pass {tl : List Value} (T : BaseT tl) (self : Value) (l : List Value) (h : refsT tl l = true) : refuseLoop self "__setattr__" l = pure () := by
  induction l with
  | nil =>
    rcases refsT_or _ h with ⟨c, r, q, _⟩ | q
    · cases q
    · exact absurd q.symm T.ne
  | cons a r ih =>
    rcases refsT_or _ h with ⟨c, r', q, h'⟩ | q
    · cases q; exact (refuseLoop_ref ..).trans (ih h')
    · rw [q]; exact T.pass self
theorem refsT_has {tl : List Value} (n : String) (l : List Value) (h : refsT tl l = true) : l.contains (.type n) = tl.contains (.type n) := by
  induction l with
  | nil =>
    rcases refsT_or _ h with ⟨c, r, q, _⟩ | q
    · cases q
    · rw [q]
  | cons a r ih =>
    rcases refsT_or _ h with ⟨c, r', q, h'⟩ | q
    · cases q; rw [List.contains_cons, ih h']; rfl
    · rw [q]
theorem refsT_full {tl : List Value} (T : BaseT tl) (l : List Value) (h : refsT tl l = true) : l.isEmpty = false := by
  rcases refsT_or _ h with ⟨c, r, q, _⟩ | q
  · rw [q]; rfl
  · rw [q]; cases tl with | nil => exact absurd rfl T.ne | cons _ _ => rfl
theorem base_RuntimeError : BaseT [.type "RuntimeError", .type "Exception", .type "BaseException", .type "object"] := ⟨fun self => by kernel_rfl, by simp, by decide +kernel⟩
theorem base_ValueError : BaseT [.type "ValueError", .type "Exception", .type "BaseException", .type "object"] := ⟨F.store_ValueError.passes, by simp, by decide +kernel⟩
theorem base_Exception : BaseT [.type "Exception", .type "BaseException", .type "object"] := ⟨F.store_Exception.passes, by simp, by decide +kernel⟩
section
open Builtin Builtin.ObjectAttr
variable {prog : Program} {w : World} {A : Around} {E : Value → Shared → Prop} {R : Result → Shared → Prop} {hp : Heap} {g : Array GenState} {d : Drawn} {t : Nat} {os : OsState}
/-- the first store into a made exception -/
theorem first_store {K : Frag} {tl : List Value} (T : BaseT tl) {nm : Str} {tk : Tok} {v : Value} {e C : Addr} {fv : Array Value} {cd : ClassData} (X : K.In hp) (he : hp.get? e = some { cls := .ref C, data := .fields fv }) (hcd : clsIn K C = some cd) (hm : refsT tl cd.mro = true) (hh : cd.hasDict = true) (ha : findIn K (.ref C) nm = some none)
    (hq : ∀ h' tk' dx, (∀ b o, b ≠ e → hp.get? b = some o → h'.get? b = some o) → hp.objs.size ≤ dx → dx ≠ e → h'.get? e = some { cls := .ref C, dict := some dx, data := .fields fv } → h'.Ns1 dx (fun y => if y = nm then some v else none) → R (.ok (.ret .none)) ⟨h', g, d, tk', os⟩) :
    codeAny (model prog w) A (.call (.builtin "object.__setattr__") ⟨[.ref e, .str nm tk, v], []⟩) R ⟨hp, g, d, t, os⟩ := by
  have J : PySem.W.InstAt hp e { cls := .ref C, data := .fields fv } C none := ⟨he, rfl, rfl, trivial⟩
  have S := F.store_object
  have full := refsT_full T _ hm
  have obj : cd.mro.contains (.type "object") = true := (refsT_has "object" _ hm).trans T.ob
  have eh : e ≠ hp.objs.size := Nat.ne_of_lt (Heap.lt_size he)
  have inst : PySem.W.Looks (model prog w) hp (isInstance (.ref e) (.type "object")) true := by
    refine J.type.andThen (PySem.W.looks_mroIn X ?_)
    unfold PySem.W.mroIn
    rw [hcd, Option.bind_some, full, obj]; rfl
  refine codeAny_call_builtin S.slot.plain S.entry (@PySem.W.check_slot (model prog w) _ _ ⟨hp, g, d, t, os⟩ "object.__setattr__" "object" "__setattr__" (.ref e) [.str nm tk, v] [] _ S.kind S.split inst (S.args (.ref e) (.str nm tk) v) ?_)
  have lm : PySem.W.Looks (model prog w) hp (mroOf (.ref C)) cd.mro := (PySem.W.looks_clsIn X hcd).andThen .now
  have ln : PySem.W.Looks (model prog w) hp (storeTaker? none) none := .now
  have lc : PySem.W.Looks (model prog w) hp (classData C) cd := PySem.W.looks_clsIn X hcd
  rw [PySem.W.osa_eq, refuse_eq]
  refine wpAny_bind (wpAny_bind (J.type.at (wpAny_bind (lm.at ?_))))
  rw [refsT_pass T _ _ hm]
  refine wpAny_pure (wpAny_bind (J.type.at (wpAny_bind ((PySem.W.looks_findIn X ha).at (wpAny_bind (ln.at ?_))))))
  show wpAny _ _ (storeInOwnDict (.ref e) (.ref C) (.str nm tk) nm v false) _ _ _
  obtain ⟨c1, c2, c3, c4, c5, c6, c7, c8, c9, c10, c11⟩ := cd
  dsimp only at hh; subst hh
  unfold storeInOwnDict ownDictForStores
  repeat (first | with_reducible refine PySem.HandSPX.store_in_new ?_ ?_ | with_reducible refine wpAny_loadPart_at he ?_ | with_reducible refine lc.at ?_ | wp_step)
  · exact ⟨_, #[], _, (Heap.get?_update_ne _ _ _ _ eh.symm).trans (Heap.get?_push_at rfl rfl), rfl, fun e he => absurd he (by simp), fun _ => rfl⟩
  · intro h' tk' hn' hs
    have he1 : (hp.push { cls := .type "dict", data := .dict #[] }).get? e = some { cls := .ref C, data := .fields fv } := Heap.get?_push_of_some _ he
    refine hq h' tk' hp.objs.size (fun b o hb ho => ?_) (Nat.le_refl _) eh.symm ?_ hn'
    · rw [hs.2 b (Nat.ne_of_lt (Heap.lt_size ho)), Heap.get?_update_ne _ _ _ _ hb]
      exact Heap.get?_push_of_some _ ho
    · rw [hs.2 e eh]
      exact Heap.get?_update_self _ he1 rfl
end
/-! ### __init__(self, value): self.value = value -/
section
open PySem.W
open PySem.Calls
open PySem.HandSPX (exc_get call_own)
def xA (p1 p2 : Pos) : Arguments := { posonlyargs := [], args := [{ arg := "self", annotation := none, pos := p1 }, { arg := "value", annotation := none, pos := p2 }], vararg := none, kwonlyargs := [], kw_defaults := [], kwarg := none, defaults := [] }
def xB (q1 q2 q3 q4 : Pos) : List Stmt := [.Assign [.Attribute (.Name "self" q1) "value" q2] (.Name "value" q3) q4]
def xS : Scope := { kind := .function, names := [(PySem.Str.ofString "self", .local), (PySem.Str.ofString "value", .local)], isGenerator := false, isCoroutine := false, more := [] }
/-- what the written part says of the exception class x at C, its __init__ at fI; B its built-in base, tl that one's mro -/
structure ExcT (K : Frag) (mg : Str → Option Value) (x q : Str) (C fI : Addr) (newId : String) (tl : List Value) : Prop where
  gC : mg x = some (.ref C)
  cls : ∃ nm q N bs bm sn sub ab col dd k0 k1 k2 k3 k5, K.lookup C = some (excClassObj nm q C N bs bm true sn sub ab col dd k0 k1 k2 k3 k5 newId) ∧ refsT tl bm = true
  sa : findIn K (.ref C) "__setattr__" = some (some (.builtin "object.__setattr__"))
  ga : findIn K (.ref C) "__getattribute__" = some (some (.builtin "BaseException.__getattribute__"))
  gg : findIn K (.ref C) "__getattr__" = some none
  noN : findIn K (.ref C) "value" = some none
  iC : findIn K (.ref C) "__init__" = some (some (.ref fI))
  tC : typeIn K (.ref fI) = some (.type "function")
  kC : keepIn K (.ref C) = true
  exC : subIn K (.ref C) (.type "BaseException") = some true
  tyC : typeIn K (.ref C) = some (.type "type")
  hdC : hasDictIn K C = true
  fn : ∃ (oc : Value) (od : Option Addr) (kV doc pm : Value) (an : Option Addr) (cdv ct : Value) (osl : Array (Option Value)) (p1 p2 q1 q2 q3 q4 : Pos),
    K.lookup fI = some ⟨oc, od, .func (fnOf "__init__" q (xA p1 p2) (xB q1 q2 q3 q4) xS .none kV doc pm an cdv ct), osl⟩ ∧ codeIn K cdv q = true
theorem ld_loc {M : Model} {s : Shared} {name : Str} {scope : Scope} {L a : Addr} {cd : Value} {m : Str → Option Value} {x : Str} {pos : Pos} {v : Value} {Q : Value → Shared → Prop} {A : Around} {E : Value → Shared → Prop} (hn : s.heap.Ns L m) (hv : m x = some v) (h : Q v s)
    (hk : scope.kind = .function := by rfl) (hl : (envOfC name scope L a cd).kindOf x = some .local := by rfl) (hd : (x == ("__debug__" : Str)) = false := by decide) :
    wpAny M A (eval (.Name x pos) (envOfC name scope L a cd)) Q E s := wpAny_Name (wpAny_loadName_local hk hl hn hv h) hd
structure InitE (h h' : Heap) (x C dx t1 : Addr) (v : Value) : Prop where
  keep : ∀ b o, b ≠ x → h.get? b = some o → h'.get? b = some o
  obj : h'.get? x = some { cls := .ref C, dict := some dx, data := .fields #[.ref t1, .none, .none, .none, .bool false, .none] }
  dbig : h.objs.size ≤ dx
  dne : dx ≠ x
  ns : h'.Ns1 dx (fun y => if y = "value" then some v else none)
structure ExMade (h h' : Heap) (e C d : Addr) (v : Value) : Prop where
  keep : ∀ b o, h.get? b = some o → h'.get? b = some o
  new : h.objs.size ≤ e
  obj : ∃ oe vs, h'.get? e = some oe ∧ oe.cls = .ref C ∧ oe.dict = some d ∧ oe.data = .fields vs ∧ vs[1]? = some .none
  dbig : h.objs.size ≤ d
  dne : d ≠ e
  ns : h'.Ns1 d (fun y => if y = "value" then some v else none)
variable {prog : Program} {w : World} {A : Around} {E : Value → Shared → Prop} {R : Result → Shared → Prop} {s : Shared} {K : Frag} {mg : Str → Option Value} {xn qn : Str} {C fI : Addr} {B newId initId : String} {tl : List Value}
theorem exc_init (Bt : BaseT tl) (T : ExcT K mg xn qn C fI newId tl) {x t0 : Addr} {v : Value} (X : K.In s.heap) (hlim : s.heap.NoLimit) (hx : s.heap.get? x = some (excO C t0)) (hroom : A.depth < recursionLimit)
    (hq : ∀ h' tk dx, InitE s.heap h' x C dx t0 v → R (.ok (.ret .none)) { s with heap := h', toks := tk }) : codeAny (model prog w) A (.call (.ref fI) ⟨[.ref x, v], []⟩) R s := by
  obtain ⟨oc, od, kV, doc, pm, an, cdv, ct, osl, p1, p2, q1, q2, q3, q4, ho, hcd⟩ := T.fn
  obtain ⟨nm, q, N, bs, bm, sn, sub, ab, col, dd, k0, k1, k2, k3, k5, hC, hbm⟩ := T.cls
  have hcl : clsIn K C = some { name := nm, bases := bs, mro := .ref C :: bm, ns := N, qualname := q, hasDict := true, slotNames := sn, subclasses := sub, abstract := ab, collection := col, hasDel := false } := by unfold clsIn; rw [hC] <;> rfl
  refine Att.call_fn (binds := [("self", .ref x), ("value", v)]) X hlim ho hcd hroom (BindsTo.of_eq (by first | rfl | with_unfolding_all rfl)) (by first | rfl | decide | with_unfolding_all rfl) (fun s₁ IC => ?_) rfl rfl rfl
  obtain ⟨h₁, tk₁, rfl⟩ := IC.toInCall.same
  have k : ∀ b o, s.heap.get? b = some o → h₁.get? b = some o := IC.toInCall.keep
  have hn := IC.toInCall.ns
  have X₁ : K.In h₁ := X.keeps k
  have hx₁ := k _ _ hx
  show wpAny _ _ (execs _ _) _ _ _
  refine wpAny_execs_cons (plainObj_wpAny_Assign_Attribute ?_)
  refine ld_loc (v := v) hn (by first | rfl | with_unfolding_all rfl | kernel_rfl) (ld_loc (v := .ref x) hn (by first | rfl | with_unfolding_all rfl | kernel_rfl) ?_)
  refine set_plain X₁ (ox := excO C t0) (od := none) ⟨hx₁, rfl, rfl, trivial⟩ T.sa ?_
  refine first_store Bt X₁ hx₁ hcl (show refsT tl (.ref C :: bm) = true from hbm) rfl T.noN (fun h₃ tk₃ dx k₃ dn dne hx₃ hn₃ => ?_)
  show wpAny _ _ (execs _ _) _ _ _
  have z : s.heap.objs.size < h₁.objs.size := hn.lt
  exact wpAny_execs_nil (hq h₃ tk₃ dx ⟨fun b o hb e => k₃ b o hb (k b o e), hx₃, Nat.le_of_lt (Nat.lt_of_lt_of_le z dn), dne, hn₃⟩)
theorem exc_made (Bt : BaseT tl) (F : ExcBaseFacts B newId initId tl) (T : ExcT K mg xn qn C fI newId tl) {v : Value} (X : K.In s.heap) (hlim : s.heap.NoLimit) (hroom : A.depth + 1 < recursionLimit)
    (hq : ∀ h' tk e d, ExMade s.heap h' e C d v → R (.ok (.ret (.ref e))) { s with heap := h', toks := tk }) : codeAny (model prog w) A (.call (.ref C) ⟨[v], []⟩) R s := by
  obtain ⟨nm, q, N, bs, bm, sn, sub, ab, col, dd, k0, k1, k2, k3, k5, hC, hbm⟩ := T.cls
  obtain ⟨hp, g, dr, tk, os⟩ := s
  have k : ∀ b o, hp.get? b = some o → ((hp.push (kdv_tup [v])).push (excO C hp.objs.size)).get? b = some o := fun b o e => Heap.get?_push_of_some _ (Heap.get?_push_of_some _ e)
  have hget : ((hp.push (kdv_tup [v])).push (excO C hp.objs.size)).get? (hp.objs.size + 1) = some (excO C hp.objs.size) := by heap_get
  refine call_own F (fun n => refsT_has n bm hbm) (X _ _ hC) (looks_findIn X T.iC) (fun self => bind_fn X self T.tC) (by rw [sizeLine_eq]; exact (by decide : 1 ≤ 16777216)) ?_
  refine exc_init (s := ⟨(hp.push (kdv_tup [v])).push (excO C hp.objs.size), g, dr, tk, os⟩) Bt T (X.keeps k) (hlim.keeps k) hget ?_ fun h' tk' dx ⟨k', hx, dn, dne, hns⟩ => ?_
  · exact hroom
  · have old : ∀ b o, hp.get? b = some o → h'.get? b = some o := fun b o e => k' b o (Nat.ne_of_lt (Nat.lt_succ_of_lt (Heap.lt_size e))) (k b o e)
    have z : hp.objs.size + 1 + 1 ≤ dx := by
      first
        | (simpa only [Heap.size_push] using dn)
        | exact dn
        | (have q := dn; rw [Heap.size_push, Heap.size_push] at q; exact q)
    exact ⟨rfl, hq h' tk' (hp.objs.size + 1) dx ⟨old, Nat.le_succ _, ⟨_, _, hx, rfl, rfl, rfl, rfl⟩, Nat.le_trans (Nat.le_trans (Nat.le_succ _) (Nat.le_succ _)) z, dne, hns⟩⟩
end
theorem relO_value {v : V} {v' : Value} (r : RelV v v') (f : Str) : RelO (List.lookup f [(("value" : Str), v)]) (if f = "value" then some v' else none) := by
  by_cases hw : f = "value"
  · subst hw
    rw [if_pos rfl, show List.lookup ("value" : Str) [(("value" : Str), v)] = some v by simp [List.lookup]]
    exact r
  · have qw : (f == ("value" : Str)) = false := by simpa using hw
    rw [if_neg hw, show List.lookup f [(("value" : Str), v)] = none by simp [List.lookup, qw]]
    trivial
section
variable {X : Cx} {C : CE} {W : WX} {xn qn : Str} {fI : Addr} {j : Nat} {B newId initId : String} {tl : List Value}
/-- x(e), an exception -/
def tMkE (c : Addr) (ta : TA) : L2.St → Hp → XK → Prop := fun σ H Q => ta σ H fun vs H1 => ∃ v, vs = [v] ∧ ∀ d, H1 d = none → Q (.ref c) (some d) (upd H1 d (.xd [(("value" : Str), v)]))
theorem pmk_exc {c : Addr} {a : Expr} {ta : TA} {p pos : Pos} {k : Nat} (Bt : BaseT tl) (F : ExcBaseFacts B newId initId tl) (T : ExcT X.K X.mg xn qn c fI newId tl) (hr : Room k X.A) (ha : PA X [a] ta) (hg : Gl X xn := by rfl) (hdb : (xn == ("__debug__" : Str)) = false := by decide)
    (he : starEach (a :: []) X.env = (false, eval a X.env) :: starEach [] X.env := by rfl) (hpl : (backTo pos (starEach [] X.env)).any (·.1) = false := by rfl) : PMk X (.Call (.Name xn p) [a] [] pos) (tMkE c ta) := by
  intro pins s σ H Q I h
  refine wpAny_Call_Name_kw (ld_glob I hg T.gC ?_ hdb)
  refine PySem.W.callWith_K (h₀ := X.base) I.ok.mod.kin T.kC (thn (ha.run pos pins s σ H _ I h) fun us s1 hh => ?_) he hpl
  obtain ⟨vs, H1, I1, r1, v, ev, q1⟩ := hh
  subst ev
  refine ⟨I1.kIn, ?_⟩
  cases r1 with
  | cons rv rn =>
    rename_i v' us'
    cases rn
    show wpAny _ _ (call (.ref c) [v']) _ _ _
    have hlim := I1.nolimit
    obtain ⟨hp, g, dr, tk, os⟩ := s1
    refine wpAny_call (exc_made Bt F T I1.kIn hlim (by have := hr.dp; omega) fun h' tk' e d M => ?_)
    show MkP X pins σ Q (.ref e) ⟨h', g, dr, tk', os⟩
    obtain ⟨oe, fv, hoe, hc, hd, hdat, h1⟩ := M.obj
    have hns := M.ns
    obtain ⟨G', g1, g2⟩ := restrict h' fun b => decide (b ≠ e)
    have gk : ∀ b, b ≠ e → G'.get? b = h'.get? b := fun b hb => g1 b (decide_eq_true hb)
    have ge : G'.get? e = none := g2 e (by simp)
    have old : ∀ b o, hp.get? b = some o → G'.get? b = some o := fun b o q => (gk b (Nat.ne_of_lt (Nat.lt_of_lt_of_le (Heap.lt_size q) M.new))).trans (M.keep b o q)
    have ob : ObjOk X.prog X.w (upd H1 d (.xd [(("value" : Str), v)])) G' d (.xd [(("value" : Str), v)]) := ⟨_, hns.at (fun o q => (gk d M.dne).trans q), fun f => relO_value rv f⟩
    have J : Inv X pins σ (upd H1 d (.xd [(("value" : Str), v)])) ⟨G', g, dr, tk', os⟩ := I1.laid (t' := tk') old M.dbig ob
    refine ⟨e, oe, fv, ⟨G', g, dr, tk', os⟩, _, .ref c, some d, rfl, J, fun b o q => ?_, ge, hoe, ⟨hc, hd⟩, hdat, h1, ?_, rfl, I1.bare, raises_own T.exC T.tyC, q1 d (I1.hok.fresh M.dbig)⟩
    · by_cases hb : b = e
      · have q' : G'.get? b = some o := q
        rw [hb, ge] at q'; cases q'
      · exact (gk b hb).symm.trans q
    · rw [upd_ne (Ne.symm M.dne)]
      exact I1.hok.fresh M.new
/-- raise x(e) -/
def sRaise (j : Nat) (f : DE) : DS := fun r m => thenS (f r m) r fun d m => .ex j [("value", d)] r m
theorem ds_raise {a : Expr} {fe : DE} {p pos pos2 : Pos} {k : Nat} (hc : X.calm = true) (Bt : BaseT tl) (F : ExcBaseFacts B newId initId tl) (T : ExcT X.K X.mg xn qn (C j) fI newId tl) (hr : Room k X.A) (tk : Takes X W) (ha : PE X a (tE X.K C W fe)) (hg : Gl X xn := by rfl) (hdb : (xn == ("__debug__" : Str)) = false := by decide)
    (he : starEach (a :: []) X.env = (false, eval a X.env) :: starEach [] X.env := by rfl) (hpl : (backTo pos (starEach [] X.env)).any (·.1) = false := by rfl) :
    PS X (.Raise (some (.Call (.Name xn p) [a] [] pos)) none pos2) (tS X.K C W (sRaise j fe)) :=
  PS.imp (ps_raise hc tk (pmk_exc Bt F T hr (pa_cons ha pa_nil he) hg hdb he hpl)) fun De σ H ⟨c, m, r, n, er, w⟩ => tE_thenS n er w fun c1 d m1 v n1 x1 er1 q w1 => by
    refine ⟨v, rfl, fun p hp => ?_⟩
    have x := RC.put_ext (o := .xd [(("value" : Str), v)]) n1.s hp
    exact w1 (c1.put p (.xd [("value", v)])) σ x (er1.mono x n1.s.wok) p _ (RC.put_rep n1.s hp) upd_same (.cons ⟨rfl, q.mono x n1.s.wok⟩ .nil)
end
end DL
/-! DL15: repr where nothing is under way; defs that ask it; try, except. -/
namespace DL
open PySem PySem.Spec PyProof.Rows L2

/-! ### repr -/
def fRepr : List D → Option D
  | [d] => match toPy d with
    | some p => if p.showable = true ∧ p.hasDict = false ∧ p.shown.length ≤ sizeLine ∧ PyData.depth p ≤ 60 then some (.str p.shown) else none
    | none => none
  | _ => none
def rRepr (K : PySem.W.Frag) : List V → Hp → VK → Prop := fun xs H Q => ∃ v p, xs = [v] ∧ Dp K H v p ∧ p.showable = true ∧ p.hasDict = false ∧ p.shown.length ≤ sizeLine ∧ PyData.depth p ≤ 60 ∧ Q (.str p.shown) H
section
variable {X : Cx} {C : CE} {W : WX}
theorem cr_repr (hg : X.A.guards = some []) (hu : X.A.units + 66 < cLine) : CallR X (.builtin "repr") (rRepr X.K) := by
  intro pins s σ H xs us Q I r h
  obtain ⟨v, p, rfl, dp, h1, h2, h3, h4, q⟩ := h
  obtain ⟨u, rfl, ru⟩ := vals1 r
  cases dp with
  | non => cases (show u = Value.none from ru); exact PySem.P.repr_of_none ⟨.str "None", H, I.tok _, ⟨_, rfl⟩, q⟩
  | bl b => cases (show u = Value.bool b from ru); exact PySem.P.repr_of_bool ⟨.str _, H, I.tok _, ⟨_, rfl⟩, q⟩
  | int i =>
    obtain ⟨t, rfl⟩ := (show ∃ t, u = Value.int i t from ru)
    exact PySem.P.repr_of_int (by simpa [PyData.showable] using h1) ⟨.str _, H, I.tok _, ⟨_, rfl⟩, q⟩
  | str x =>
    obtain ⟨t, rfl⟩ := (show ∃ t, u = Value.str x t from ru)
    exact PySem.P.repr_of_str ⟨.str _, H, I.tok _, ⟨_, rfl⟩, q⟩ h3
  | @lst a ys ds e1 e2 =>
    cases (show u = Value.ref a from ru)
    obtain ⟨as, rd⟩ := Dp.reads I _ _ _ (Dp.lst e1 e2) (show RelV (.ref a) (.ref a) from rfl)
    exact repr_of_reads' rd h1 (fun e => by rw [h2] at e; cases e) hg (by omega) (fun _ _ e => e) (fun h' u tk hk => ⟨.str _, H, I.kept hk, ⟨_, rfl⟩, q⟩) h3
  | @tup a ys ds e1 e2 =>
    cases (show u = Value.ref a from ru)
    obtain ⟨as, rd⟩ := Dp.reads I _ _ _ (Dp.tup e1 e2) (show RelV (.ref a) (.ref a) from rfl)
    exact repr_of_reads' rd h1 (fun e => by rw [h2] at e; cases e) hg (by omega) (fun _ _ e => e) (fun h' u tk hk => ⟨.str _, H, I.kept hk, ⟨_, rfl⟩, q⟩) h3
theorem cd_repr : CdD X C (rRepr X.K) fRepr := by
  intro c m ds vs d Q n qs e k
  unfold fRepr at e
  split at e
  · split at e
    · rename_i p hp
      split at e
      · rename_i h
        cases e
        obtain ⟨v, rfl, q⟩ := seesL1 qs
        exact ⟨v, p, rfl, by rw [← n.K]; exact q.dp hp, h.1, h.2.1, h.2.2.1, h.2.2.2, k_at n k (.str _)⟩
      · cases e
    · cases e
  · cases e
end
/-! ### a def that is called where nothing is under way -/
def FnGg (P : Program) (w : World) (K : PySem.W.Frag) (mg : Str → Option Value) (base : Heap) (k : Nat) (f : Addr) (C : CE) (G : List D → Store → Res D) : Prop :=
  ∀ (A : Around) (outer : List Env) (s : Shared) (H : Hp) (us : List Value) (vs : List V) (Q : VK) (E : XK), Room k A → A.guards = some [] → Env0 P w K mg base A outer s H → Vals vs us → spG K C G vs H Q E → codeAny (model P w) A (.call (.ref f) ⟨us, []⟩) (CR (L2.CX P w) outer P w H s Q E) s
section
variable {P : Program} {w : World} {K : PySem.W.Frag} {mg : Str → Option Value} {base : Heap} {j k : Nat} {f : Addr} {C : CE} {G : List D → Store → Res D}
theorem FnGg.of_any (F : FnG P w K mg base k f C G) : FnGg P w K mg base k f C G := fun A outer s H us vs Q E hr _ => F A outer s H us vs Q E hr
theorem FnGg.mono (F : FnGg P w K mg base j f C G) (h : j ≤ k) : FnGg P w K mg base k f C G := fun A outer s H us vs Q E hr => F A outer s H us vs Q E (hr.mono h)
theorem FnGg.pop (F : FnGg P w K mg base k f C G) : FnGg P w K mg base k f C fun ds m => popR m (G ds m) := fun A outer s H us vs Q E hr hg e0 r ⟨c, m, ds, n, q, w⟩ => F A outer s H us vs Q E hr hg e0 r ⟨c, m, ds, n, q, RW.pop n.s w⟩
/-- one run of a def's body -/
theorem body_run {name qual : Str} {params : Arguments} {body : List Stmt} {scope : Scope} {dV kV doc pm cdv ct oc : Value} {an od : Option Addr} {osl : Array (Option Value)} {N ps : List Str} {A : Around} {outer : List Env} {s : Shared} {H : Hp} {args : Args} {us : List Value} {vs : List V} {Q : VK} {E : XK} {t : TS}
    (lk : K.lookup f = some ⟨oc, od, .func (PySem.W.fnOf name qual params body scope dV kV doc pm an cdv ct), osl⟩) (hcd : PySem.W.codeIn K cdv qual = true) (Sc : FnScope N ps scope) (hr : Room (k + 1) A) (e0 : Env0 P w K mg base A outer s H)
    (hb : BindsTo s (PySem.W.fnOf name qual params body scope dV kV doc pm an cdv ct) args (ps.zip us)) (r : Vals vs us) (hl : vs.length = ps.length) (ht : PSs (cxD P w K mg base N qual scope f cdv A outer s H E) body t) (hq : t { nx := fun _ H' => Q .non H', rt := Q } (L2.start N vs) H) :
    codeAny (model P w) A (.call (.ref f) args) (CR (L2.CX P w) outer P w H s Q E) s := by
  have kin : K.In s.heap := e0.mod.kin.keeps fun b o z => (e0.bs b o z).1
  refine codeAny_call_function hr.depth (kin _ _ lk) rfl Sc.co Sc.gen rfl (PySem.W.codeRec_of kin hcd) (hb _ _ _ _ (wpAny_newFunctionEnv_cells Sc.kind (fun p hp => ?_) fun env he s1 x => ?_))
  · rcases Sc.par p.1 (List.of_mem_zip (a := p.1) (b := p.2) hp).1 with z | z
    · exact .inl z
    · exact .inr ⟨z, PySem.W.cellsFrom_some _ _ _ (.inl z)⟩
  · subst he
    refine ⟨(e0.mod.nolimit.keeps fun b o z => (e0.bs b o z).1).keeps x.toInCall.keep, codeAny_func (wpAny_mono (ht.run [] s1 (L2.start N vs) H _ (inv_start Sc hr.hd e0 hl r x) hq) (fun fl s' hs => ?_) fun e s' hs => hs)⟩
    cases fl with
    | ret u => obtain ⟨v, σ', H', J, rv, q⟩ := hs; exact ⟨v, H', J.os, J.bare, J.base, J.hok, rv, q⟩
    | next => obtain ⟨σ', H', J, q⟩ := hs; exact ⟨V.non, H', J.os, J.bare, J.base, J.hok, rfl, q⟩
    | brk => obtain ⟨_, _, _, q⟩ := hs; exact q.elim
    | cont => obtain ⟨_, _, _, q⟩ := hs; exact q.elim
theorem fnDg {x qual : Str} {params : Arguments} {body : List Stmt} {scope : Scope} {kws : List (Str × V)} {fd : FuncData} {N ps : List Str} {S : DS} (F : FunD K x qual params body scope [] kws f fd) (Sc : FnScope N ps scope) (hbd : Binds K fd ps [])
    (hG : ∀ ds m, G ds m = if ds.length = ps.length then runB S (startD N.length ds) m else .bad)
    (hbody : ∀ cdv A outer s H E, A.guards = some [] → Room k (cxD P w K mg base N qual scope f cdv A outer s H E).A → ∀ W : WX, Takes (cxD P w K mg base N qual scope f cdv A outer s H E) W →
      PassesOwn (model P w) (cxD P w K mg base N qual scope f cdv A outer s H E).A (cxD P w K mg base N qual scope f cdv A outer s H E).env (cxD P w K mg base N qual scope f cdv A outer s H E).xe → PSs (cxD P w K mg base N qual scope f cdv A outer s H E) body (tS K C W S)) :
    FnGg P w K mg base (k + 1) f C G := fun A outer s H us vs Q E hr hg e0 r h => by
  have hl := spG_len (ps := ps) rfl (fun ds m h => by rw [hG, if_neg h]) vs H Q E h
  obtain ⟨c, m, ds, nw, q, w⟩ := h
  have hl2 : ds.length = ps.length := by rw [← hl]; exact (Reps.length q).symm
  obtain ⟨oc, od, dV, kV, doc, pm, an, cdv, ct, osl, rfl, lk, hcd, _, _⟩ := F.ex
  have kin : K.In s.heap := e0.mod.kin.keeps fun b o z => (e0.bs b o z).1
  have hb := hbd s us kin (by rw [List.append_nil, ← r.length, hl])
  rw [List.append_nil] at hb
  refine body_run lk hcd Sc hr e0 hb r hl (hbody cdv A outer s H E hg (hr.deeper _) (fun cls d _ H => E cls d H) (takes_of rfl rfl rfl rfl) (passes_of rfl)) ⟨c, m, startD N.length ds, nw, er_start q, ?_⟩
  rw [hG, if_pos hl2] at w
  unfold runB at w
  show SW C (fun cls d _ H => E cls d H) c (S (startD N.length ds) m) _
  cases e : S (startD N.length ds) m with
  | nx r' m' => rw [e] at w; exact fun c' σ' x s _ => w c' _ x s .non
  | rt d m' => rw [e] at w; exact fun c' v x s q => w c' v x s q
  | ex a fs r' m' => rw [e] at w; exact fun c' σ' x _ dd vs s h1 h2 => w c' dd vs x s h1 h2
  | _ => rw [e] at w; exact False.elim w
end
/-! ### calls of such a def -/
section
variable {X : Cx} {C : CE} {W : WX} {k : Nat} {f : Addr} {x : Str} {p pos : Pos} {e : Expr} {es : List Expr}
theorem de_callg {G : List D → Store → Res D} {g : DA} (hgu : X.A.guards = some []) (tk : Takes X W) (hr : Room k X.A) (F : FnGg X.prog X.w X.K X.mg X.base k f C G) (hm : X.mg x = some (.ref f)) (hk : PySem.W.keepIn X.K (.ref f) = true) (ha : PA X (e :: es) (tA X.K C W g))
    (hg : Gl X x := by rfl) (hdb : (x == ("__debug__" : Str)) = false := by decide) (he : starEach (e :: es) X.env = (false, eval e X.env) :: starEach es X.env := by rfl) (hpl : (backTo pos (starEach es X.env)).any (·.1) = false := by rfl) :
    PE X (.Call (.Name x p) (e :: es) [] pos) (tE X.K C W (eCall G g)) := by
  refine ⟨fun pins s σ H Q I ⟨c, m, r, n, er, w⟩ => ?_⟩
  refine wpAny_Call_Name_kw (ld_glob I hg hm ?_ hdb)
  refine PySem.W.callWith_K (h₀ := X.base) I.ok.mod.kin hk (thn (ha.run pos pins s σ H (fun vs H1 => spG X.K C G vs H1 Q (WE W σ)) I (tA_bind n er w fun c1 d m1 v n1 x1 er1 q w1 => ⟨c1, m1, d, n1, q, w1⟩)) fun us s1 ⟨vs, H1, I1, r, q⟩ => ⟨I1.kIn, ?_⟩) he hpl
  refine wpAny_call (codeAny_mono (F X.A X.stack s1 H1 us vs Q (WE W σ) hr hgu I1.env0 r q) fun r s' hq => ?_)
  cases r with
  | error e => exact passAt tk σ pins H1 s1 e s' I1 hq
  | ok fl =>
    cases fl with
    | ret u => exact I1.after hq
    | _ => exact False.elim hq
end
/-! ### try .. except x as n: return .. -/
/-- within the suite: the exception at a, its class of number j, its dict d -/
def tEs (K : PySem.W.Frag) (C : CE) (a : Addr) (cls : Value) (d : Option Addr) (j i : Nat) (fE : List (Str × D) → DE) : TE := fun σ H Q => ∃ c m r fs dd vs, Now K C H c m ∧ ER c r σ ∧ cls = .ref (C j) ∧ d = some dd ∧ c.H dd = some (.xd vs) ∧ RepsK c fs vs ∧ σ[i]? = some (some (.ref a)) ∧ RW C Rep c (fE fs r m) Q (fun _ _ _ => False)
def tAs (K : PySem.W.Frag) (C : CE) (a : Addr) (cls : Value) (d : Option Addr) (j i : Nat) (fE : List (Str × D) → DA) : TA := fun σ H Q => ∃ c m r fs dd vs, Now K C H c m ∧ ER c r σ ∧ cls = .ref (C j) ∧ d = some dd ∧ c.H dd = some (.xd vs) ∧ RepsK c fs vs ∧ σ[i]? = some (some (.ref a)) ∧ RW C Reps c (fE fs r m) Q (fun _ _ _ => False)
def tSs (K : PySem.W.Frag) (C : CE) (a : Addr) (cls : Value) (d : Option Addr) (j i : Nat) (fS : List (Str × D) → DS) : TS := fun De σ H => ∃ c m r fs dd vs, Now K C H c m ∧ ER c r σ ∧ cls = .ref (C j) ∧ d = some dd ∧ c.H dd = some (.xd vs) ∧ RepsK c fs vs ∧ σ[i]? = some (some (.ref a)) ∧ SW C W0 c (fS fs r m) De
section
variable {X : Cx} {C : CE} {a : Addr} {oe : Obj} {cls : Value} {d : Option Addr} {j i : Nat} {e : Expr} {es : List Expr} {pos : Pos} {pn : List (Addr × Obj)}
theorem xd_at {c c' : RC} {dd : Addr} {vs : List (Str × V)} {fs : List (Str × D)} {m : Store} (s : SRep c m) (x : Ext c c') (h : c.H dd = some (.xd vs)) (r : RepsK c fs vs) : c'.H dd = some (.xd vs) ∧ RepsK c' fs vs := by
  refine ⟨?_, r.mono x s.wok⟩
  refine (x.H dd _ h fun w => ?_).same fun z => z
  obtain ⟨u, e, mu⟩ := s.wok dd w
  rw [h] at e; cases e
  exact mu
theorem des_of {f : DE} (h : PE X e (tE X.K C W0 f)) : PE X e (tEs X.K C a cls d j i fun _ => f) := PE.imp h fun σ H Q ⟨c, m, r, fs, dd, vs, n, er, _, _, _, _, _, w⟩ => ⟨c, m, r, n, er, w⟩
theorem des_val {x : Str} (T : XfC X.K (C j)) (hno : PySem.W.findIn X.K (.ref (C j)) "value" = some none) (hz : Zc cls d oe) (hf : ∃ vs, oe.data = .fields vs) (p : Pos) (hN : X.N[i]? = some x := by rfl) (hv : Vis X.env.scope x := by first | exact Or.inl rfl | exact Or.inr (Or.inl rfl) | exact Or.inr (Or.inr rfl)) (hd : (x == ("__debug__" : Str)) = false := by decide) (hcd : (x == ("__classdict__" : Str)) = false := by decide)
    (hb : attributeBase (.Name x p) "value" X.env (eval (.Name x p) X.env) = eval (.Name x p) X.env := by rfl) : PE (X.suite a ((a, oe) :: pn)) (.Attribute (.Name x p) "value" pos) (tEs X.K C a cls d j i fun fs _ m => ofO m (fs.lookup ("value" : Str))) :=
  PE.imp (pe_xf (te := tVar i) T hno hz hf (pe_var hN hv hd hcd) hb) fun σ H Q ⟨c, m, r, fs, dd, vs, n, er, e1, e2, e3, e4, e5, w⟩ => by
    dsimp only at w
    cases hl : fs.lookup ("value" : Str) with
    | none => rw [hl] at w; exact False.elim w
    | some y =>
      rw [hl] at w
      obtain ⟨v, hv, q⟩ := RepsK.lookup e4 hl
      refine ⟨_, e5, rfl, e1, dd, vs, v, e2, by rw [← n.H]; exact e3, hv, ?_⟩
      have := RW.now w n.s q
      rw [n.H] at this; exact this
theorem das_nil : PA X [] (tAs X.K C a cls d j i fun _ => aNil) := PA.imp pa_nil fun σ H Q ⟨c, m, r, fs, dd, vs, n, er, _, _, _, _, _, w⟩ => by
  have := RW.now (v := ([] : List V)) w n.s .nil
  rw [n.H] at this; exact this
theorem das_cons {fE : List (Str × D) → DE} {g : List (Str × D) → DA} (ha : PE X e (tEs X.K C a cls d j i fE)) (hr : PA X es (tAs X.K C a cls d j i g)) (hs : starEach (e :: es) X.env = (false, eval e X.env) :: starEach es X.env := by rfl) : PA X (e :: es) (tAs X.K C a cls d j i fun fs => aCons (fE fs) (g fs)) :=
  PA.imp (pa_cons ha hr hs) fun σ H Q ⟨c, m, r, fs, dd, vs, n, er, e1, e2, e3, e4, e5, w⟩ => ⟨c, m, r, fs, dd, vs, n, er, e1, e2, e3, e4, e5, RW.imp (RW.bind (rep := Rep) w) fun v H' ⟨c1, d1, m1, eH, x1, s1, q, w1⟩ => by
    subst eH
    obtain ⟨g3, g4⟩ := xd_at n.s x1 e3 e4
    refine ⟨c1, m1, r, fs, dd, vs, n.next x1 s1, er.mono x1 n.s.wok, e1, e2, g3, g4, e5, RW.imp (RW.bind (rep := Reps) w1) fun us H2 ⟨c2, d2, m2, eH, x2, s2, q2, w2⟩ => ?_⟩
    subst eH
    exact RW.now w2 s2 (.cons (q.mono x2 s1.wok) q2)⟩
/-- a built-in function within the suite -/
theorem des_cb {id : String} {ρ : List V → Hp → VK → Prop} {fn : List D → Option D} {g : List (Str × D) → DA} {x : Str} {p : Pos} (hc : CallR X (.builtin id) ρ) (hd : CdD X C ρ fn) (hm : X.mg x = none) (ha : PA X (e :: es) (tAs X.K C a cls d j i g)) (hv : bootBuiltins x = some (.builtin id) := by decide +kernel) (hg : Gl X x := by rfl) (hn : x ≠ "__name__" := by decide) (hdb : (x == ("__debug__" : Str)) = false := by decide)
    (hs : starEach (e :: es) X.env = (false, eval e X.env) :: starEach es X.env := by rfl) (hpl : (backTo pos (starEach es X.env)).any (·.1) = false := by rfl) : PE X (.Call (.Name x p) (e :: es) [] pos) (tEs X.K C a cls d j i fun fs => eCB fn (g fs)) :=
  PE.imp (pe_callB hc hg hm hv ha hn hdb hs hpl) fun σ H Q ⟨c, m, r, fs, dd, vs, n, er, e1, e2, e3, e4, e5, w⟩ => ⟨c, m, r, fs, dd, vs, n, er, e1, e2, e3, e4, e5, RW.imp (RW.bind (rep := Reps) w) fun us H' ⟨c1, ds, m1, eH, x1, s1, q, w1⟩ => by
    subst eH
    cases ef : fn (ds.map (vw m1)) with
    | none => rw [ef] at w1; exact False.elim w1
    | some y => rw [ef] at w1; exact hd c1 m1 _ us y _ (n.next x1 s1) (q.seesL s1) ef fun c' v x s q' => w1 c' v x s q'⟩
theorem des_lst {g : List (Str × D) → DA} (h : PA X es (tAs X.K C a cls d j i g)) : PE X (.List es pos) (tEs X.K C a cls d j i fun fs => eLst (g fs)) :=
  PE.imp (pe_lst h) fun σ H Q ⟨c, m, r, fs, dd, vs, n, er, e1, e2, e3, e4, e5, w⟩ => ⟨c, m, r, fs, dd, vs, n, er, e1, e2, e3, e4, e5, RW.imp (RW.bind (rep := Reps) w) fun us H' ⟨c1, ds, m1, eH, x1, s1, q, w1⟩ => by
    subst eH
    unfold mkLst at w1
    split at w1
    · rename_i hl
      exact ⟨by rw [Reps.length q]; exact hl, fun p hp => k_lst (n.next x1 s1) (fun c' v x s q' => w1 c' v x s q') q p hp⟩
    · exact False.elim w1⟩
theorem dss_ret {fE : List (Str × D) → DE} (h : PE X e (tEs X.K C a cls d j i fE)) : PSs X [.Return (some e) pos] (tSs X.K C a cls d j i fun fs => sRet (fE fs)) :=
  PSs.imp (pss_one (ps_ret h)) fun De σ H ⟨c, m, r, fs, dd, vs, n, er, e1, e2, e3, e4, e5, w⟩ => ⟨c, m, r, fs, dd, vs, n, er, e1, e2, e3, e4, e5, by
    unfold sRet at w
    dsimp only at w
    cases ef : fE fs r m with
    | bad => rw [ef] at w; exact False.elim w
    | ok y m' => rw [ef] at w; exact fun c' v x s q => w c' v x s q
    | ex k gs m' =>
      rw [ef] at w
      exact fun c' dd' vs' x s h1 h2 => w c' σ x (er.mono x n.s.wok) dd' vs' s h1 h2⟩
/-- an exception of class j is caught, others of the classes ks go on -/
def sTry (i j : Nat) (ks : List Nat) (fb : DS) (fh : List (Str × D) → DS) : DS := fun r m => match fb r m with
  | .ex k fs r' m' => if k = j then (if i < r'.length then (match fh fs (r'.set i none) m' with
    | .rt d m => .rt d m
    | _ => .bad) else .bad) else if k ∈ ks then .ex k fs r' m' else .bad
  | o => o
theorem ds_try {W : WX} {x n : Str} {body suite : List Stmt} {b0 : Stmt} {np pos' : Pos} {fb : DS} {fh : List (Str × D) → DS} {ks : List Nat} (tk : Takes X W) (hs : X.stack = X.env :: X.outer) (hf : X.env.frame = some X.env.locals) (hN : X.N.Nodup) (hm : X.mg x = some (.ref (C j)))
    (h1 : PySem.W.exmOne X.K (.ref (C j)) (.ref (C j)) = some true) (h0 : ∀ k ∈ ks, PySem.W.exmOne X.K (.ref (C k)) (.ref (C j)) = some false)
    (hb : ∀ (W : WX) (pn : List (Addr × Obj)) (xe : Value → Shared → Prop), Takes (X.tr pn xe) W → PassesOwn (model X.prog X.w) X.A X.env xe → PSs (X.tr pn xe) body (tS X.K C W fb))
    (hh : ∀ (a : Addr) (oe : Obj) (cls : Value) (d : Option Addr) (pn : List (Addr × Obj)), Zc cls d oe → (∃ vs, oe.data = .fields vs) → PSs (X.suite a ((a, oe) :: pn)) (b0 :: suite) (tSs X.K C a cls d j i fh))
    (hi : X.N[i]? = some n := by rfl) (hln : X.env.kindOf n = some .local := by rfl) (hg : Gl X x := by rfl) (hdb : (x == ("__debug__" : Str)) = false := by decide) :
    PS X (.Try body [.ExceptHandler (some (.Name x np)) (some n) (b0 :: suite) pos'] [] [] pos) (tS X.K C W (sTry i j ks fb fh)) :=
  PS.imp (ps_try_as (tb := fun W => tS X.K C W fb) (ts := fun a cls d => tSs X.K C a cls d j i fh) hs hf hN hi hln ⟨hg, hdb, .inl hm⟩ tk hb hh) fun De σ H ⟨c, m, r, nw, er, w⟩ => ⟨c, m, r, nw, er, by
    unfold sTry at w
    cases e : fb r m with
    | nx r' m' => rw [e] at w; exact w
    | bk r' m' => rw [e] at w; exact w
    | ct r' m' => rw [e] at w; exact w
    | rt y m' => rw [e] at w; exact w
    | bad => rw [e] at w; exact w
    | ex k fs r' m' =>
      rw [e] at w
      intro c' σ' x er' dd vs s hd q
      by_cases hk : k = j
      · subst hk
        simp only [if_pos] at w
        split at w
        case isFalse => exact False.elim w
        rename_i hlen
        refine ⟨true, h1, fun _ a ha => ?_, fun z => by cases z⟩
        have nw' := nw.next x s
        refine ⟨c', m', r'.set i none, fs, dd, vs, nw', er'.unset i _, rfl, rfl, hd, q, ?_, ?_⟩
        · have hl : i < σ'.length := by
            rw [← er'.len]; exact hlen
          rw [List.getElem?_set_self hl]
        · cases ef : fh fs (r'.set i none) m' with
          | rt y m2 => rw [ef] at w; exact SW.ext (o := .rt y m2) w x
          | _ => rw [ef] at w; exact False.elim w
      · simp only [if_neg hk] at w
        split at w
        · rename_i hks
          exact ⟨false, h0 k hks, fun z => by (cases z), fun _ => w c' σ' x er' dd vs s hd q⟩
        · exact False.elim w⟩
end
end DL
/-! DL16: max with a default, sorted down; dict displays, dict comprehensions. -/
namespace DL
open PySem PySem.Spec PyProof.Rows L2

/-! ### built-in functions by keywords -/
def CdDK (X : Cx) (C : CE) (ρ : List V → List V → Hp → VK → Prop) (fn : List D → List D → Option D) : Prop :=
  ∀ (c : RC) (m : Store) (ds es : List D) (vs zs : List V) (d : D) (Q : VK), Now X.K C c.H c m → SeesL c ds vs → SeesL c es zs → fn ds es = some d → (∀ c' v, Ext c c' → SRep c' m → Rep c' d v → Q v c'.H) → ρ vs zs c.H Q
def eCBK (fn : List D → List D → Option D) (g gk : DA) : DE := fun r m => (g r m).bind fun ds m => (gk r m).bind fun es m => ofO m (fn (ds.map (vw m)) (es.map (vw m)))
section
variable {X : Cx} {C : CE} {W : WX}
theorem de_cbk {id : String} {x : Str} {p pos : Pos} {e : Expr} {es : List Expr} {kws : List Keyword} {ks : List Str} {ρ : List V → List V → Hp → VK → Prop} {fn : List D → List D → Option D} {g gk : DA} (hc : CallRK X (.builtin id) ks ρ) (hd : CdDK X C ρ fn) (hm : X.mg x = none) (ha : PA X (e :: es) (tA X.K C W g)) (hk : PKD X C W kws gk)
    (hv : bootBuiltins x = some (.builtin id) := by decide +kernel) (hg : Gl X x := by rfl) (hn : x ≠ "__name__" := by decide) (hdb : (x == ("__debug__" : Str)) = false := by decide)
    (he : backTo pos (starEach (e :: es) X.env) = (false, eval e X.env) :: backTo pos (starEach es X.env) := by rfl) (hpl : (backTo pos (starEach (e :: es) X.env)).any (·.1) = false := by rfl)
    (hall : (backToKw pos (keywordEach kws X.env)).all (·.1.isSome) = true := by rfl) (hnone : (backToKw pos (keywordEach kws X.env)).any (·.1.isNone) = false := by rfl) (hks : (backToKw pos (keywordEach kws X.env)).filterMap (·.1) = ks := by rfl) :
    PE X (.Call (.Name x p) (e :: es) kws pos) (tE X.K C W (eCBK fn g gk)) :=
  PE.imp (pe_callBK hc hg hm hv ha hk.h hn hdb he hpl hall hnone hks) fun σ H Q ⟨c, m, r, n, er, w⟩ => tA_bind n er w fun c1 ds m1 vs n1 x1 er1 q w1 => tA_bind n1 er1 w1 fun c2 ds2 m2 vs2 n2 x2 er2 q2 w2 => by
    cases ef : fn (ds.map (vw m2)) (ds2.map (vw m2)) with
    | none => rw [ef] at w2; exact False.elim w2
    | some d => rw [ef] at w2; exact hd c2 m2 _ _ vs vs2 d _ n2 (Reps.seesL n2.s (Reps.mono x2 n1.s.wok q)) (Reps.seesL n2.s q2) ef fun c' v x s q' => w2 c' v x s q'
/-! max(xs, default=d) -/
def fMaxD : List D → List D → Option D
  | [.lst xs], [.int d] => match intsD xs with | some l => some (.int ((maxI l).getD d)) | none => none
  | _, _ => none
def rMaxDf (K : PySem.W.Frag) : List V → List V → Hp → VK → Prop := fun xs zs H Q => ∃ a l d, xs = [.ref a] ∧ zs = [.int d] ∧ SqL K H a (l.map V.int) ∧ Q (.int ((maxI l).getD d)) H
theorem ints_reads {h : Heap} : ∀ {its : List Value} {l : List Int}, Vals (l.map V.int) its → ∃ as, ReadsAll h its (l.map .int) as
  | [], [], _ => ⟨_, .nil⟩
  | u :: us, i :: l, .cons r t => by
    obtain ⟨tk, rfl⟩ := r
    obtain ⟨as, q⟩ := ints_reads (h := h) t
    exact ⟨_, .cons (.int i tk) q⟩
theorem maxI_eq (a : Int) (l : List Int) : (maxI (a :: l)).getD 0 = l.foldl max a := rfl
theorem cr_maxDf (hc : X.calm = true) (hu : X.A.units + 64 < cLine) : CallRK X (.builtin "max") [Str.ofString "default"] (rMaxDf X.K) := by
  intro pins s σ H xs zs us ws Q I r rz h
  obtain ⟨a, l, d, rfl, rfl, hs, q⟩ := h
  obtain rfl := Vals.ref1 r
  obtain ⟨w1, rfl, e1⟩ := vals1 rz
  obtain ⟨t, rfl⟩ := (show ∃ t, w1 = Value.int d t from e1)
  obtain ⟨its, rv, hl, hz⟩ := I.list hs
  obtain ⟨as, ra⟩ := ints_reads (h := s.heap) rv
  have dep : PyData.depthAll (l.map PyData.int) = 0 := by
    clear ra rv q hs hz
    induction l with
    | nil => rfl
    | cons a l ih => show max (PyData.depth (.int a)) _ = 0; rw [ih]; rfl
  have alike : PySem.W.AlikeAll (l.map PyData.int) := by
    refine ⟨fun x hx y hy => ?_, fun x hx => ?_⟩
    · obtain ⟨i, _, rfl⟩ := List.mem_map.mp hx
      obtain ⟨j, _, rfl⟩ := List.mem_map.mp hy
      rfl
    · obtain ⟨i, _, rfl⟩ := List.mem_map.mp hx
      intro z; cases z
  refine PySem.W.max_list_default (I.ok.hd hc) (hl.isList) (by simpa using ra) alike (by rw [dep]; omega) (fun e h' tk hk => ?_) fun y ys i v h' tk bs e hv rd hk => ?_
  · cases l with
    | nil => exact ⟨.int d, H, I.kept hk, ⟨t, rfl⟩, q⟩
    | cons _ _ => cases e
  · cases l with
    | nil => cases e
    | cons i0 l =>
      cases e
      rw [PySem.W.maxD_ints] at rd
      cases rd with
      | int _ tk' => exact ⟨.int (l.foldl max i0), H, I.kept hk, ⟨tk', rfl⟩, q⟩
theorem cd_maxDf : CdDK X C (rMaxDf X.K) fMaxD := by
  intro c m ds es vs zs d Q n qs qz e k
  unfold fMaxD at e
  split at e
  · split at e
    · rename_i l hl
      cases e
      obtain ⟨v, rfl, q⟩ := seesL1 qs
      obtain ⟨z, rfl, q2⟩ := seesL1 qz
      obtain ⟨a, ws, rfl, h, r⟩ := q.lst_inv
      rw [intsD_rep r hl] at h
      exact ⟨a, l, _, rfl, by rw [q2.int_inv], .inl (.inl h), k_at n k (.int _)⟩
    · cases e
  · cases e
/-! sorted(d, reverse=True), at most one key -/
def fSortedR : List D → List D → Option D
  | [.dic kvs], [.bl true] => if kvs.length ≤ 1 then some (.lst (kvs.map fun kv => kD kv.1)) else none
  | _, _ => none
def rSortedR1 : List V → List V → Hp → VK → Prop := fun xs zs H Q => ∃ a kvs, xs = [.ref a] ∧ zs = [.bl true] ∧ Rd H a (.dK kvs) ∧ kvs.length ≤ 1 ∧ ∀ p, H p = none → Q (.ref p) (upd H p (.lst (kvs.map fun kv => kV kv.1)))
theorem one_rev {α : Type} {l : List α} (h : l.length ≤ 1) : l.reverse = l := by
  match l, h with
  | [], _ => rfl
  | [_], _ => rfl
theorem cr_sortedR1 (hc : X.calm = true) : CallRK X (.builtin "sorted") [Str.ofString "reverse"] rSortedR1 := by
  intro pins s σ H xs zs us ws Q I r rz h
  obtain ⟨a, kvs, rfl, rfl, hd, h1, q⟩ := h
  obtain rfl := Vals.ref1 r
  obtain ⟨w1, rfl, e1⟩ := vals1 rz
  obtain rfl : w1 = Value.bool true := e1
  obtain ⟨z, lo, vs, rel, dd⟩ := dk_rd I.hok hd
  obtain ⟨ep, hat⟩ := dd.dictAt
  have hlv : vs.length ≤ 1 := by rw [← rel.length]; exact h1
  have hb : vs.length ≤ sizeLine := Nat.le_trans hlv (by rw [sizeLine_eq]; omega)
  refine PyProof.Rows.call_function_entry_kw PyProof.Rows.kind_sorted PyProof.Rows.plain_sorted PyProof.Rows.entry_sorted (PyProof.Rows.args_sorted_rev _ _) ?_
  unfold Builtin.«sorted»
  refine wpAny_bind (m := checkCount "sorted" 1 1 _) (wpAny_pure (wpAny_bind (PySem.W.kdu_collect (A := X.A.in1) (PySem.W.kdl_dict (knd := mixKind X.prog X.w) (kvs := vs) (ep := ep) lo) (I.ok.hd hc) hat hb fun h' tk acc hk hacc => ?_)))
  have hal : acc.toList.length = vs.length := by rw [Array.length_toList, hacc.1]
  have hv : Vals (vs.map fun p => kV p.1) acc.toList := L2.keys_at (by rw [Array.length_toList]; exact hacc.1) fun j v e => hacc.2 j v (by rw [← Array.getElem?_toList]; exact e)
  have I1 : Inv X pins σ H { s with heap := h', toks := tk } := I.kept hk
  refine wpAny_bind (wpAny_newList ?_ (by rw [hal]; exact hb))
  have ho : (h'.push (seqObj "list" acc.toList.toArray 0)).get? h'.objs.size = some (seqObj "list" acc.toList.toArray 0) := Heap.get?_push_size _ rfl
  show wpAny _ _ _ _ _ { s with heap := h'.push (seqObj "list" acc.toList.toArray 0), toks := tk }
  refine wpAny_bind (wpAny_holding (PyProof.Rows.wpAny_call_entry_kw PyProof.Rows.slot_list_sort ⟨_, ho, rfl⟩ PyProof.Rows.entry_list_sort ?_ (PyProof.Rows.args_list_sort_rev _ _)))
  refine SrtR.list_sort_ordR (s := { s with heap := h'.push (seqObj "list" acc.toList.toArray 0), toks := tk }) SrtO.swo_int ho (by rw [hal]; exact hb) (fun h2 => absurd h2 (by omega)) fun out g1 g2 => ⟨_, rfl, ?_⟩
  have e2 : (if true = true then out.toArray.reverse else out.toArray) = acc.toList.toArray := by
    rw [if_pos rfl]
    have p : out.Perm acc.toList := by
      have := g2.perm
      rw [if_pos rfl, one_rev (by rw [hal]; exact hlv)] at this
      exact this
    have e : out = acc.toList := by
      have hl2 : acc.toList.length ≤ 1 := by rw [hal]; exact hlv
      match hacc2 : acc.toList, hl2 with
      | [], _ => rw [hacc2] at p; exact List.perm_nil.mp p
      | [y], _ => rw [hacc2] at p; exact List.perm_singleton.mp p
    rw [e, List.reverse_toArray, one_rev (by rw [hal]; exact hlv)]
  rw [e2]
  obtain ⟨e', he'⟩ := PyProof.Rows.sortedHeap_at (vs := acc.toList) (out := acc.toList.toArray) ho
  have ek : (kvs.map fun kv => kV kv.1) = vs.map fun p => kV p.1 := by
    have e := congrArg (List.map kV) rel.keys
    rw [List.map_map, List.map_map] at e
    exact e
  refine wpAny_pure ⟨_, rfl, .ref h'.objs.size, upd H h'.objs.size (.lst (kvs.map fun kv => kV kv.1)), I1.laid (t' := tk) (fun b u e => ?_) (Nat.le_refl _)
    (show ObjOk X.prog X.w _ _ _ (.lst (kvs.map fun kv => kV kv.1)) from ⟨by rw [List.length_map]; exact z, acc.toList, e', by rw [ek]; exact hv, he'⟩), rfl, q _ (I1.hok.fresh (Nat.le_refl _))⟩
  have hb2 : b < h'.objs.size := Heap.lt_size e
  rw [PyProof.Rows.sortedHeap_old (Nat.ne_of_lt hb2) (by rw [size_push']; exact Nat.lt_succ_of_lt hb2)]
  exact Heap.get?_push_of_some _ e
theorem cd_sortedR1 : CdDK X C rSortedR1 fSortedR := by
  intro c m ds es vs zs d Q n qs qz e k
  unfold fSortedR at e
  split at e
  · split at e
    · rename_i h1
      cases e
      obtain ⟨v, rfl, q⟩ := seesL1 qs
      obtain ⟨z, rfl, q2⟩ := seesL1 qz
      obtain ⟨a, ws, rfl, h, r⟩ := q.dic_inv
      exact ⟨a, ws, rfl, by rw [q2.bl_inv], h, by rw [(paired_at r).1]; exact h1, fun p hp => k_lst n k (keys_rep r) p hp⟩
    · cases e
  · cases e
end
end DL
/-! DL17: dict displays, dict comprehensions. -/
namespace DL
open PySem PySem.Spec PyProof.Rows L2

def mergeKD (kvs more : List (Key × D)) : List (Key × D) := more.foldl (fun acc kv => putKD acc kv.1 kv.2) kvs
theorem mergeKD_rep {c : RC} : ∀ {more : List (Key × D)} {mv : List (Key × V)} {kvs : List (Key × D)} {vs : List (Key × V)}, RepsK c more mv → RepsK c kvs vs → RepsK c (mergeKD kvs more) (mergeK vs mv)
  | _, _, _, _, .nil, h => h
  | p :: ps, q :: qs, _, _, .cons r t, h => by
    show RepsK c (mergeKD (putKD _ p.1 p.2) ps) (mergeK (putK _ q.1 q.2) qs)
    refine mergeKD_rep t ?_
    rw [r.1]
    exact putKD_rep h r.2
/-- the pairs of a display -/
def ePairs : List (DE × DE) → DEnv → Store → Res (List (Key × D))
  | [], _, m => .ok [] m
  | (fk, fv) :: fs, r, m => (fk r m).bind fun k m => (fv r m).bind fun d m => match keyD k with
    | some key => (ePairs fs r m).bind fun l m => .ok ((key, d) :: l) m
    | none => .bad
def eDisp (fs : List (DE × DE)) : DE := fun r m => (ePairs fs r m).bind fun kvs m => if kvs.length ≤ 15 then .ok (.dic (mergeKD [] kvs)) m else .bad
theorem keyD_kV {c : RC} {d : D} {v : V} {k : Key} (h : Rep c d v) (e : keyD d = some k) : v = kV k := keyD_inv h.sees0 e
section
variable {X : Cx} {C : CE} {W : WX}
abbrev trsD (K : PySem.W.Frag) (C : CE) (W : WX) (fs : List (DE × DE)) : List (TE × TE) := fs.map fun p => (tE K C W p.1, tE K C W p.2)
/-- a display's pairs, the new dict being owned -/
theorem tPairs_of {γ δ : Type} {rep' : RC → γ → δ → Prop} {Q : δ → Hp → Prop} {σ : L2.St} : ∀ {fs : List (DE × DE)} {c : RC} {m : Store} {r : DEnv} {H : Hp} {g : List (Key × D) → Store → Res γ} {R : List (V × V) → Hp → Prop} (_ : Now X.K C H c m) (_ : ER c r σ) (_ : RW C rep' c ((ePairs fs r m).bind g) Q (fun cls d H' => W cls d σ H'))
    (_ : ∀ c' kvs m' vs, Now X.K C c'.H c' m' → Ext c c' → ER c' r σ → RepsK c' kvs vs → RW C rep' c' (g kvs m') Q (fun cls d H' => W cls d σ H') → R (vs.map fun kv => (kV kv.1, kv.2)) c'.H), tPairs (trsD X.K C W fs) σ H R
  | [], c, m, r, H, g, R, n, er, w, k => by
    have := k c [] m [] (n.next (Ext.refl c) n.s) (Ext.refl c) er .nil w
    rw [n.H] at this; exact this
  | (fk, fv) :: fs, c, m, r, H, g, R, n, er, w, k => by
    unfold ePairs at w
    rw [bind_assoc] at w
    refine tE_bind n er w fun c1 kd m1 kv n1 x1 er1 q1 w1 => ?_
    rw [bind_assoc] at w1
    refine tE_bind n1 er1 w1 fun c2 d m2 v n2 x2 er2 q2 w2 => ?_
    cases hk : keyD kd with
    | none => rw [hk] at w2; exact False.elim w2
    | some key =>
      rw [hk] at w2
      simp only [bind_assoc] at w2
      have q1' := q1.mono x2 n1.s.wok
      have ek := keyD_kV q1' hk
      subst ek
      refine tPairs_of (fs := fs) n2 er2 w2 fun c3 kvs m3 vs n3 x3 er3 q3 w3 => ?_
      exact k c3 ((key, d) :: kvs) m3 ((key, v) :: vs) n3 (x1.trans (x2.trans x3)) er3 (.cons ⟨rfl, q2.mono x3 n2.s.wok⟩ q3) w3
structure PPD (X : Cx) (C : CE) (W : WX) (pos : Pos) (keys : List (Option Expr)) (values : List Expr) (fs : List (DE × DE)) : Prop where
  h : PPs X pos keys values (trsD X.K C W fs)
theorem dpp_nil {pos : Pos} : PPD X C W pos [] [] [] := ⟨pps_nil⟩
theorem dpp_cons {pos : Pos} {k v : Expr} {ks : List (Option Expr)} {vs : List Expr} {fk fv : DE} {fs : List (DE × DE)} (hk : PE X k (tE X.K C W fk)) (hv : PE X v (tE X.K C W fv)) (hr : PPD X C W pos ks vs fs) : PPD X C W pos (some k :: ks) (v :: vs) ((fk, fv) :: fs) := ⟨pps_cons hk hv hr.h⟩
theorem de_disp {keys : List (Option Expr)} {values : List Expr} {fs : List (DE × DE)} {pos : Pos} (h : PPD X C W0 pos keys values fs) (hall : keys.all (·.isSome) = true := by rfl) (hl : keys.length = values.length := by rfl) (h0 : keys ≠ [] := by simp) (h15 : keys.length ≤ 15 := by decide) :
    PE X (.Dict keys values pos) (tE X.K C W fun r m => noX (eDisp fs r m)) :=
  PE.imp (pe_disp h.h hall hl h0 h15) fun σ H Q ⟨c, m, r, n, er, w⟩ p hp => by
    obtain ⟨hH⟩ : Nonempty (c.H = H) := ⟨n.H⟩
    subst hH
    have b := InB.start (o := .dK []) n.s hp
    have s2 := tmp_rep (o := .dK []) n.s hp trivial
    have n2 : Now X.K C (c.tmp p (.dK [])).H (c.tmp p (.dK [])) m := ⟨n.K, n.C, rfl, s2⟩
    have er2 : ER (c.tmp p (.dK [])) r σ := er.mono0 b.toExt0 n.s.wok
    have w1 : RW C (fun c (a : List (Key × D)) (b : List (Key × V)) => RepsK c a b) (c.tmp p (.dK [])) ((ePairs fs r m).bind fun l m => .ok l m) (fun (vs : List (Key × V)) H2 => H2 p = some (.dK []) ∧ ∃ kvs : List (Key × V), (vs.map fun kv => (kV kv.1, kv.2)) = kvs.map (fun kv => (kV kv.1, kv.2)) ∧ kvs.length ≤ 15 ∧ Q (.ref p) (upd H2 p (.dK (mergeK [] kvs)))) (fun cls d H' => W0 cls d σ H') := by
      have w : RW C Rep c (noX (eDisp fs r m)) Q (fun cls d H' => W cls d σ H') := w
      unfold eDisp at w
      cases e : ePairs fs r m with
      | bad => rw [e] at w; exact False.elim w
      | ex k gs m' => rw [e] at w; exact False.elim w
      | ok kvs m' =>
        rw [e] at w
        simp only [bind_ok] at w ⊢
        split at w
        · rename_i hlen
          intro c3 vs x3 s3 q3
          have b3 := b.next x3
          have hp3 : c3.H p = some (.dK []) := (x3.TH p List.mem_cons_self).trans upd_same
          refine ⟨hp3, vs, rfl, by rw [(paired_at q3).1]; exact hlen, ?_⟩
          obtain ⟨b4, s4, x4⟩ := InB.grow (o := .dK (mergeK [] vs)) n.s hp b3 s3 trivial
          obtain ⟨xo, so, xo0, wo⟩ := b4.out n.s hp s4
          have r4 : RepsK (c3.grow p (.dK (mergeK [] vs))) (mergeKD [] kvs) (mergeK [] vs) := (mergeKD_rep q3 .nil).mono0 x4 s3.wok
          exact w ((c3.grow p (.dK (mergeK [] vs))).out c.T p) (.ref p) xo so (.dic' wo (.inl upd_same) (r4.mono0 xo0 s4.wok))
        · exact False.elim w
    exact tPairs_of n2 er2 w1 fun c3 kvs m3 vs n3 x3 er3 q3 w3 => RW.now w3 n3.s q3
/-! ### dict comprehensions -/
def compDN (g : DG) (ft : DT) (fk fv : DE) (r : DEnv) : List D → List (Key × D) → Store → Res (List (Key × D))
  | [], acc, m => .ok acc m
  | x :: xs, acc, m => match g x r with
    | none => .bad
    | some r' => (noX (ft r' m)).bind fun b m => if b = true then (noX (fk r' m)).bind fun k m => (noX (fv r' m)).bind fun d m => match keyD k with
      | some key => if acc.length < sizeLine then compDN g ft fk fv r xs (putKD acc key d) m else .bad
      | none => .bad else compDN g ft fk fv r xs acc m
def eDc (vs : List Nat) (fi : DA) (g : DG) (ft : DT) (fk fv : DE) : DE := fun r m => (fi r m).bind fun xs m => (compDN g ft fk fv (wipeD r vs) xs [] m).bind fun ys m => .ok (.dic ys) m
theorem tDc_of {vs : List Nat} {fi : DA} {g : DG} {ft : DT} {fk fv : DE} {σ : L2.St} {H : Hp} {Q : VK} (h : tE X.K C W (eDc vs fi g ft fk fv) σ H Q) :
    tDc (tI X.K C W fi) (tGv X.K C vs g) (tT X.K C W0 ft) (tE X.K C W0 fk) (tE X.K C W0 fv) vs σ H Q := by
  obtain ⟨c, m, r, n, er, w⟩ := h
  unfold eDc at w
  refine ⟨c, m, r, n, er, RW.imp (RW.bind (rep := WalkD) w) fun J H' ⟨c1, xs, m1, e, x1, s1, wk, w1⟩ => ?_⟩
  subst e
  intro p hp
  have er1 := er.mono x1 n.s.wok
  refine ⟨fun i k H => k = xs.length - i ∧ i ≤ xs.length ∧ ∃ c2 m2 acc us, InB c1 p c2 ∧ SRep c2 m2 ∧ c2.H = H ∧ c2.H p = some (.dK us) ∧ RepsK c2 acc us ∧
    RW C Rep c1 ((compDN g ft fk fv (wipeD r vs) (xs.drop i) acc m2).bind fun ys m => .ok (.dic ys) m) Q (fun cls d H' => W cls d σ H'),
    ⟨xs.length, by simp, Nat.zero_le _, c1.tmp p (.dK []), m1, [], [], InB.start s1 hp, tmp_rep s1 hp trivial, rfl, upd_same, .nil, by simpa using w1⟩, ?_⟩
  rintro i k H ⟨rfl, hi, c2, m2, acc, us, b, s2, rfl, hD, ra, w2⟩
  obtain ⟨go, stop⟩ := wk c2 m2 b.toExt0 s2 i
  by_cases hlt : i < xs.length
  · have hx : xs[i]? = some xs[i] := by simp [hlt]
    obtain ⟨g1, y1⟩ := go _ hx
    refine .inr ⟨g1, fun H' => ∃ c2 m2 acc us, InB c1 p c2 ∧ SRep c2 m2 ∧ c2.H = H' ∧ c2.H p = some (.dK us) ∧ RepsK c2 acc us ∧
      RW C Rep c1 ((compDN g ft fk fv (wipeD r vs) (xs.drop (i + 1)) acc m2).bind fun ys m => .ok (.dic ys) m) Q (fun cls d H' => W cls d σ H'), fun H' h => ⟨xs.length - (i + 1), by omega, rfl, hlt, h⟩, fun x H' yy => ?_⟩
    obtain ⟨c3, e3, x3, s3, q3⟩ := y1 x H' yy
    subst e3
    rw [List.drop_eq_getElem_cons hlt] at w2
    unfold compDN at w2
    have b3 := b.next x3
    cases eg : g xs[i] (wipeD r vs) with
    | none => rw [eg] at w2; exact False.elim w2
    | some r3 =>
      rw [eg] at w2
      simp only at w2
      have n3 : Now X.K C c3.H c3 m2 := ⟨b3.K.trans (x1.K.trans n.K), b3.C.trans (x1.C.trans n.C), rfl, s3⟩
      have er3 : ER c3 (wipeD r vs) (wipe σ vs) := er_wipe (er1.mono0 b3.toExt0 s1.wok) vs
      have keep : ∀ {c' m'} , Ext c3 c' → SRep c' m' → c'.H p = some (.dK us) ∧ RepsK c' acc us := fun {c' m'} x s => by
        refine ⟨?_, (ra.mono0 x3.toExt0 s2.wok).mono0 x.toExt0 s3.wok⟩
        rw [x.TH p (by rw [b3.T]; exact List.mem_cons_self), x3.TH p (by rw [b.T]; exact List.mem_cons_self)]
        exact hD
      refine ⟨c3, m2, wipeD r vs, xs[i], r3, n3, er3, q3, eg, fun c4 σ4 x4 s4 er4 hw => ⟨hw.trans (wipe_twice σ vs), c4, m2, r3, n3.next x4 s4, er4, ?_⟩⟩
      cases et : ft r3 m2 with
      | bad => rw [et] at w2; exact False.elim w2
      | ex _ _ _ => rw [et] at w2; exact False.elim w2
      | ok bb m5 =>
        rw [et] at w2
        simp only [noX_ok, bind_ok] at w2
        intro c5 bv x5 s5 eb
        subst eb
        have x35 := x4.trans x5
        cases bb with
        | false =>
          simp only [Bool.false_eq_true, if_false] at w2 ⊢
          obtain ⟨k1, k2⟩ := keep x35 s5
          exact ⟨c5, m5, acc, us, b3.next x35, s5, rfl, k1, k2, w2⟩
        | true =>
          simp only [if_pos] at w2 ⊢
          have n5 := (n3.next x4 s4).next x5 s5
          have er5 := er4.mono x5 s4.wok
          refine ⟨c5, m5, r3, n5, er5, ?_⟩
          cases ek : fk r3 m5 with
          | bad => rw [ek] at w2; exact False.elim w2
          | ex _ _ _ => rw [ek] at w2; exact False.elim w2
          | ok kd m6 =>
            rw [ek] at w2
            simp only [noX_ok, bind_ok] at w2
            intro c6 kv x6 s6 qk
            refine ⟨c6, m6, r3, n5.next x6 s6, er5.mono x6 s5.wok, ?_⟩
            cases ev : fv r3 m6 with
            | bad => rw [ev] at w2; exact False.elim w2
            | ex _ _ _ => rw [ev] at w2; exact False.elim w2
            | ok d m7 =>
              rw [ev] at w2
              simp only [noX_ok, bind_ok] at w2
              intro c7 v x7 s7 qv
              have x37 := (x35.trans x6).trans x7
              obtain ⟨k1, k2⟩ := keep x37 s7
              cases hk : keyD kd with
              | none => rw [hk] at w2; exact False.elim w2
              | some key =>
                rw [hk] at w2
                simp only at w2
                split at w2
                · rename_i hlen
                  obtain ⟨b8, s8, x8⟩ := InB.grow (o := .dK (putK us key v)) s1 hp (b3.next x37) s7 trivial
                  exact ⟨us, key, keyD_kV qk hk, k1, by rw [(paired_at k2).1]; exact hlen, c7.grow p (.dK (putK us key v)), m7, putKD acc key d, putK us key v, b8, s8, rfl, upd_same, (putKD_rep k2 qv).mono0 x8 s7.wok, w2⟩
                · exact False.elim w2
  · have e : i = xs.length := by omega
    subst e
    refine .inl ⟨stop (Nat.le_refl _), ?_⟩
    rw [List.drop_length] at w2
    obtain ⟨xo, so, xo0, wo⟩ := b.out s1 hp s2
    exact w2 (c2.out c1.T p) (.ref p) xo so (.dic' wo (.inl hD) (ra.mono0 xo0 s2.wok))
theorem de_dc {kx vx tg iter : Expr} {ifs : List Expr} {scope : Scope} {own : List (Str × Nat)} {pos : Pos} {fi : DA} {g : DG} {ft : DT} {fk fv : DE} (hc : X.calm = true) (hN : X.N.Nodup) (ok : blkC X.N X.env.scope scope own = true) (hi : PI X tg iter (tI X.K C W fi))
    (hg : ∀ (s : Shared) (H : Hp) (B : Addr) (cl : List (Str × Addr)) (fp : List Addr), PG (X.blk s H scope (compEnvC scope cl B X.env) fp) tg (tGv X.K C (own.map (·.2)) g)) (ht : ∀ (s : Shared) (H : Hp) (B : Addr) (cl : List (Str × Addr)) (fp : List Addr), PTs (X.blk s H scope (compEnvC scope cl B X.env) fp) ifs (tT X.K C W0 ft))
    (hk : ∀ (s : Shared) (H : Hp) (B : Addr) (cl : List (Str × Addr)) (fp : List Addr), PE (X.blk s H scope (compEnvC scope cl B X.env) fp) kx (tE X.K C W0 fk))
    (hv : ∀ (s : Shared) (H : Hp) (B : Addr) (cl : List (Str × Addr)) (fp : List Addr), PE (X.blk s H scope (compEnvC scope cl B X.env) fp) vx (tE X.K C W0 fv)) (hs : ∀ x, foldedSetIterable iter X.env x = pure x := by intro _; rfl) :
    PE X (.DictComp kx vx [⟨tg, iter, ifs, 0⟩] scope pos) (tE X.K C W (eDc (own.map (·.2)) fi g ft fk fv)) :=
  PE.imp (pe_dc hc hN hi (blkOk_by ok) hg ht hk hv hs) fun σ H Q h => tDc_of h
end
end DL
/-! DL18: sets of texts: comprehensions with two clauses, membership, sorted of an empty one. -/
namespace DL
open PySem PySem.Spec PyProof.Rows L2

def hasS (ks : List Str) : Key → Bool
  | .inl _ => false
  | .inr x => decide (x ∈ ks)
/-- the set of the texts ks at a -/
def SetSO (P : Program) (w : World) (ks : List Str) (a : Addr) : HO := .ext fun h => (∃ n, n ≤ ks.length ∧ h.SetOf (mixKind P w) a (hasS ks) n) ∧ (ks = [] → SetR w h a (fun _ => false) 0)
def addS (ks : List Str) (x : Str) : List Str := if x ∈ ks then ks else ks ++ [x]
theorem setSO_mk {P : Program} {w : World} {H : Hp} {h : Heap} {a : Addr} {ks : List Str} {n : Nat} (hn : n ≤ ks.length) (R : h.SetOf (mixKind P w) a (hasS ks) n) (h0 : ks = [] → SetR w h a (fun _ => false) 0) : ObjOk P w H h a (SetSO P w ks a) := by
  have ⟨o, _, _, _, ho, _⟩ := R
  refine ⟨⟨⟨n, hn, R⟩, h0⟩, ⟨o, ho⟩, fun h1 h2 p k => ?_⟩
  obtain ⟨⟨n', hn', R'⟩, p0⟩ := p
  exact ⟨⟨n', hn', setOf_at R' k⟩, fun e => (p0 e).at k⟩
section
variable {X : Cx} {pins : List (Addr × Obj)} {σ : L2.St} {H : Hp} {s : Shared}
theorem setSO_at {a : Addr} {ks : List Str} (I : Inv X pins σ H s) (ha : H a = some (SetSO X.prog X.w ks a)) : (∃ n, n ≤ ks.length ∧ s.heap.SetOf (mixKind X.prog X.w) a (hasS ks) n) ∧ (ks = [] → SetR X.w s.heap a (fun _ => false) 0) := (I.hok a _ ha).1
theorem mem_addS {ks : List Str} {x : Str} (j : Key) : hasS (addS ks x) j = (hasS ks j || decide (j = Sum.inr x)) := by
  cases j with
  | inl i => simp [hasS]
  | inr y =>
    show decide (y ∈ addS ks x) = (decide (y ∈ ks) || decide ((Sum.inr y : Key) = Sum.inr x))
    rw [key_rr]
    unfold addS
    split
    · rename_i hx
      by_cases e : y = x
      · subst e; simp [hx]
      · simp [e]
    · simp [List.mem_append]
theorem addS_add {E : Value → Shared → Prop} {a : Addr} {ks : List Str} {x : Str} {v : Value} {Q : Value → Shared → Prop} (I : Inv X pins σ H s) (ha : H a = some (SetSO X.prog X.w ks a)) (room : ks.length + 1 < scanBound) (r : RelV (.str x) v)
    (h : ∀ s', Inv X pins σ (upd H a (SetSO X.prog X.w (addS ks x) a)) s' → Q .none s') : wpAny (model X.prog X.w) X.A (call (.builtin "set.add") [.ref a, v]) Q E s := by
  obtain ⟨⟨n, hn, R⟩, _⟩ := setSO_at I ha
  refine call_set_add (k := (Sum.inr x : Key)) (kV_is r) (key_scan (k := Sum.inr x) r) R (by omega) fun h' sb new => ?_
  have he : ∃ u, h'.get? a = some u := by
    have ⟨o, _, _, _, ho, _⟩ := new
    exact ⟨o, ho⟩
  have e1 : hasS (addS ks x) = fun j => hasS ks j || decide (j = (Sum.inr x : Key)) := funext fun j => mem_addS j
  refine h _ (I.write (e := a) (t' := s.toks + 1) (by rw [ha]; trivial) (.inl rfl) (fun b u hb hu => (sb.2 b hb).trans hu) he (setSO_mk (n := if hasS ks (Sum.inr x) = true then n else n + 1) ?_ (by rw [e1]; exact new) ?_))
  · unfold addS
    by_cases hx : x ∈ ks
    · rw [if_pos hx, if_pos (show hasS ks (Sum.inr x) = true from decide_eq_true hx)]; exact hn
    · rw [if_neg hx, if_neg (show ¬ hasS ks (Sum.inr x) = true from by show ¬ decide (x ∈ ks) = true; simpa using hx)]; simp; exact hn
  · intro e
    unfold addS at e
    split at e
    · rename_i hx; rw [e] at hx; cases hx
    · simp at e
end

/-! ### the block of {elt for t0 in i0 if .. for t1 in i1 if ..} -/
abbrev S2 (elt t0 i0 t1 i1 : Expr) (ifs0 ifs1 : List Expr) (scope : Scope) (pos : Pos) : Expr := .SetComp elt [⟨t0, i0, ifs0, 0⟩, ⟨t1, i1, ifs1, 0⟩] scope pos
theorem turn_out (elt t0 i0 t1 i1 : Expr) (ifs0 ifs1 : List Expr) (scope : Scope) (pos : Pos) (it acc : Value) (env : Env) : compTurn (S2 elt t0 i0 t1 i1 ifs0 ifs1 scope pos) 0 it acc env = (do
      standAt i0.pos
      match ← pyNext it with
      | none => pure (.done .next)
      | some v =>
        letOwnedTupleGo t0 it v
        assign t0 env v
        let mut ok := true
        for c in ifs0 do
          if ok then ok ← isTrue c env (eval c env)
        if ok then
          let x ← eval i1 env
          standAt i1.pos
          let x ← foldedSetIterable i1 env x
          let _ ← runOwn (.compStart (S2 elt t0 i0 t1 i1 ifs0 ifs1 scope pos) 1 (← holding [x] (pyIter x)) acc env) env
        again (.compLoop (S2 elt t0 i0 t1 i1 ifs0 ifs1 scope pos) 0 it acc env)) := by rfl
theorem turn_in (elt t0 i0 t1 i1 : Expr) (ifs0 ifs1 : List Expr) (scope : Scope) (pos : Pos) (it acc : Value) (env : Env) : compTurn (S2 elt t0 i0 t1 i1 ifs0 ifs1 scope pos) 1 it acc env = (do
      standAt i1.pos
      match ← pyNext it with
      | none => pure (.done .next)
      | some v =>
        letOwnedTupleGo t1 it v
        assign t1 env v
        let mut ok := true
        for c in ifs1 do
          if ok then ok ← isTrue c env (eval c env)
        if ok then
          (do let v ← eval elt env; standAt elt.pos; let _ ← call (.builtin "set.add") [acc, v])
        again (.compLoop (S2 elt t0 i0 t1 i1 ifs0 ifs1 scope pos) 1 it acc env)) := by rfl
section
variable {prog : Program} {w : World} {A : Around} {R : Result → Shared → Prop} {s : Shared} {elt t0 i0 t1 i1 : Expr} {ifs0 ifs1 : List Expr} {scope : Scope} {pos : Pos} {it acc : Value} {env : Env}
abbrev nB (prog : Program) (w : World) (A : Around) (env : Env) (R : Result → Shared → Prop) : Value → Shared → Prop := notedBy (model prog w) A env fun x s' => R (.error x) s'
abbrev tstS (ifs : List Expr) (env : Env) : Sem Bool := forIn ifs true fun c r => if r = true then do let ok ← isTrue c env (eval c env); pure (ForInStep.yield ok) else pure (ForInStep.yield r)
theorem loop_out (hs : ∀ x, foldedSetIterable i1 env x = pure x) (I : Nat → Shared → Prop)
    (turn : ∀ n s, I n s → wpAny (model prog w) A (pyNext it) (fun r s1 => match r with
      | none => R (.ok .next) s1
      | some v => wpAny (model prog w) A (letOwnedTupleGo t0 it v) (fun _ s2 => wpAny (model prog w) A (assign t0 env v) (fun _ s3 => wpAny (model prog w) A (tstS ifs0 env) (fun ok s4 =>
            if ok = true then wpAny (model prog w) A (eval i1 env) (fun x s5 => wpAny (model prog w) A (pyIter x) (fun it1 s6 => codeAny (model prog w) A (.compStart (S2 elt t0 i0 t1 i1 ifs0 ifs1 scope pos) 1 it1 acc env) (fun r s' => match r with
                | .ok _ => ∃ m, m < n ∧ I m s'
                | .error _ => False) s6) (nB prog w A env R) s5) (nB prog w A env R) s4
            else ∃ m, m < n ∧ I m s4) (nB prog w A env R) s3) (nB prog w A env R) s2) (nB prog w A env R) s1) (nB prog w A env R) s)
    (n : Nat) (h : I n s) : codeAny (model prog w) A (.compLoop (S2 elt t0 i0 t1 i1 ifs0 ifs1 scope pos) 0 it acc env) R s := by
  refine codeAny_loop rfl I (fun n s hI => ?_) n h
  show wpAny _ A ((compTurn (S2 elt t0 i0 t1 i1 ifs0 ifs1 scope pos) 0 it acc env).onRaise (fun x => do noteFrame x env; theTreesLotGoes x)) _ _ s
  refine wpAny_noted ?_
  rw [turn_out]
  refine wpAny_bind (wpAny_standAt (wpAny_bind (wpAny_mono (turn n s hI) (fun r s1 h1 => ?_) fun _ _ z => z)))
  cases r with
  | none => exact wpAny_pure h1
  | some v =>
    refine wpAny_bind (wpAny_mono h1 (fun _ s2 h2 => wpAny_bind (wpAny_mono h2 (fun _ s3 h3 => wpAny_bind (wpAny_mono h3 (fun ok s4 h4 => ?_) fun _ _ z => z)) fun _ _ z => z)) fun _ _ z => z)
    cases ok with
    | false => exact wpAny_pure ⟨rfl, h4⟩
    | true =>
      refine wpAny_bind (wpAny_mono h4 (fun x s5 h5 => wpAny_bind (wpAny_standAt (wpAny_bind (wpAny_of_eq (hs x) (wpAny_bind (wpAny_holding (wpAny_mono h5 (fun it1 s6 h6 => ?_) fun _ _ z => z))))))) fun _ _ z => z)
      refine wpAny_bind (wpAny_runOwn ?_)
      rw [Around.mark_none]
      refine codeAny_mono h6 fun r s' hr => ?_
      cases r with
      | ok f => first | exact wpAny_pure ⟨rfl, hr⟩ | exact wpAny_bind (wpAny_pure (wpAny_pure ⟨rfl, hr⟩))
      | error e => exact hr.elim
theorem loop_in (I : Nat → Shared → Prop)
    (turn : ∀ n s, I n s → wpAny (model prog w) A (pyNext it) (fun r s1 => match r with
      | none => R (.ok .next) s1
      | some v => wpAny (model prog w) A (letOwnedTupleGo t1 it v) (fun _ s2 => wpAny (model prog w) A (assign t1 env v) (fun _ s3 => wpAny (model prog w) A (tstS ifs1 env) (fun ok s4 =>
            if ok = true then wpAny (model prog w) A (eval elt env) (fun x s5 => wpAny (model prog w) A (call (.builtin "set.add") [acc, x]) (fun _ s6 => ∃ m, m < n ∧ I m s6) (nB prog w A env R) s5) (nB prog w A env R) s4
            else ∃ m, m < n ∧ I m s4) (nB prog w A env R) s3) (nB prog w A env R) s2) (nB prog w A env R) s1) (nB prog w A env R) s)
    (n : Nat) (h : I n s) : codeAny (model prog w) A (.compLoop (S2 elt t0 i0 t1 i1 ifs0 ifs1 scope pos) 1 it acc env) R s := by
  refine codeAny_loop rfl I (fun n s hI => ?_) n h
  show wpAny _ A ((compTurn (S2 elt t0 i0 t1 i1 ifs0 ifs1 scope pos) 1 it acc env).onRaise (fun x => do noteFrame x env; theTreesLotGoes x)) _ _ s
  refine wpAny_noted ?_
  rw [turn_in]
  refine wpAny_bind (wpAny_standAt (wpAny_bind (wpAny_mono (turn n s hI) (fun r s1 h1 => ?_) fun _ _ z => z)))
  cases r with
  | none => exact wpAny_pure h1
  | some v =>
    refine wpAny_bind (wpAny_mono h1 (fun _ s2 h2 => wpAny_bind (wpAny_mono h2 (fun _ s3 h3 => wpAny_bind (wpAny_mono h3 (fun ok s4 h4 => ?_) fun _ _ z => z)) fun _ _ z => z)) fun _ _ z => z)
    cases ok with
    | false => exact wpAny_pure ⟨rfl, h4⟩
    | true => exact wpAny_bind (wpAny_bind (wpAny_mono h4 (fun x s5 h5 => wpAny_bind (wpAny_standAt (wpAny_bind (wpAny_mono h5 (fun _ s6 h6 => wpAny_pure (wpAny_pure ⟨rfl, h6⟩)) fun _ _ z => z)))) fun _ _ z => z))
theorem start_in (h0 : codeAny (model prog w) A (.compLoop (S2 elt t0 i0 t1 i1 ifs0 ifs1 scope pos) 1 it acc env) R s)
    (h : wpAny (model prog w) A (pyIter it) (fun it' s' => codeAny (model prog w) A (.compLoop (S2 elt t0 i0 t1 i1 ifs0 ifs1 scope pos) 1 it' acc env) R s') (nB prog w A env R) s) : codeAny (model prog w) A (.compStart (S2 elt t0 i0 t1 i1 ifs0 ifs1 scope pos) 1 it acc env) R s := by
  refine codeAny_of_tree ?_
  show wpAny _ _ ((compStart (S2 elt t0 i0 t1 i1 ifs0 ifs1 scope pos) 1 it acc env).onRaise (fun x => do noteFrame x env; standAt theWindowsPlace)) _ _ s
  refine wpAny_notedAt ?_
  unfold compStart
  show wpAny _ _ (ask >>= _) _ _ s
  refine wpAny_bind (wpAny_askSetting (wpAny_ite ?_))
  split
  · first | exact wpAny_bind (wpAny_pure (wpAny_pure (And.intro rfl h0))) | exact wpAny_pure (And.intro rfl h0)
  · first
      | exact wpAny_bind (wpAny_rule (wpAny_bind (wpAny_standAt (wpAny_bind (wpAny_mono h (fun _ _ z => wpAny_pure (And.intro rfl z)) fun _ _ z => z)))))
      | (refine wpAny_bind (wpAny_rule ?_); show wpAny _ _ (standAt i1.pos >>= _) _ _ s; exact wpAny_bind (wpAny_standAt (wpAny_bind (wpAny_mono h (fun _ _ z => wpAny_pure (And.intro rfl z)) fun _ _ z => z))))
end
section
variable {X : Cx}
/-- the reading -/
def tSc2 (S : List Str → Addr → HO) (wi : TI) (g : TG) (tt : TT) (wi1 : TI) (g1 : TG) (tt1 : TT) (te : TE) (vs vs1 : List Nat) : TE := fun σ H Q => wi σ H fun J H1 => ∀ D, H1 D = none → ∃ M : Nat → Nat → Hp → Prop, (∃ m, M 0 m (upd H1 D (S [] D))) ∧ ∀ i m H, M i m H →
  (J.stop i H ∧ Q (.ref D) H) ∨ (J.go i H ∧ ∃ Nx : Hp → Prop, (∀ H', Nx H' → ∃ m', m' < m ∧ M (i + 1) m' H') ∧ ∀ x H', J.yld i H x H' → g x (wipe σ vs) H' fun σ2 H2 => wipe σ2 vs = wipe σ vs ∧ tt σ2 H2 fun b H3 =>
    if b = true then wi1 σ2 H3 fun J1 H4 => ∃ M1 : Nat → Nat → Hp → Prop, (∃ m, M1 0 m H4) ∧ ∀ j k H, M1 j k H →
      (J1.stop j H ∧ Nx H) ∨ (J1.go j H ∧ ∃ Ny : Hp → Prop, (∀ H', Ny H' → ∃ k', k' < k ∧ M1 (j + 1) k' H') ∧ ∀ x H', J1.yld j H x H' → g1 x (wipe σ2 vs1) H' fun σ3 H5 => wipe σ3 vs1 = wipe σ2 vs1 ∧ tt1 σ3 H5 fun b H6 =>
        if b = true then te σ3 H6 fun y H7 => ∃ ks x, y = .str x ∧ H7 D = some (S ks D) ∧ ks.length + 1 < scanBound ∧ Ny (upd H7 D (S (addS ks x) D)) else Ny H6)
    else Nx H3)
theorem sc2_core {pins : List (Addr × Obj)} {s : Shared} {σ : L2.St} {H : Hp} {Q : VK} {elt tg iter tg1 iter1 : Expr} {ifs ifs1 : List Expr} {scope : Scope} {own : List (Str × Nat)} {vs1 : List Nat} {pos pos' : Pos} {wi wi1 : TI} {g g1 : TG} {tt tt1 : TT} {te : TE} {use : Option (Value → Sem Unit)} {Qf : Value → Shared → Prop}
    (hc : X.calm = true) (hN : X.N.Nodup) (I : Inv X pins σ H s) (hi : PI X tg iter wi) (ok : BlkOk X.N X.env.scope scope own) (hv : ∀ i ∈ vs1, i ∈ own.map (·.2))
    (hg : ∀ (s : Shared) (H : Hp) (B : Addr) (cl : List (Str × Addr)) (fp : List Addr), PG (X.blk s H scope (compEnvC scope cl B X.env) fp) tg g ∧ PTs (X.blk s H scope (compEnvC scope cl B X.env) fp) ifs tt ∧ PE (X.blk s H scope (compEnvC scope cl B X.env) fp) elt te ∧ PI (X.blk s H scope (compEnvC scope cl B X.env) fp) tg1 iter1 wi1 ∧
      PG (X.blk s H scope (compEnvC scope cl B X.env) fp) tg1 g1 ∧ PTs (X.blk s H scope (compEnvC scope cl B X.env) fp) ifs1 tt1)
    (hs : ∀ x, foldedSetIterable iter X.env x = pure x) (hs1 : ∀ env x, foldedSetIterable iter1 env x = pure x) (h : tSc2 (SetSO X.prog X.w) wi g tt wi1 g1 tt1 te (own.map (·.2)) vs1 σ H Q)
    (hRR : ∀ D C s' m H', Inv X pins σ H' s' → Q (.ref D) H' → s'.heap.Ns C m → FpOk X pins H' C → compPost (model X.prog X.w) X.A X.xe use Qf (.ref D) C (.ok .next) s') :
    wpAny (model X.prog X.w) X.A (comprehension (S2 elt tg iter tg1 iter1 ifs ifs1 scope pos) scope X.env pos' (newSet (.type "set")) false (eval iter X.env) use) Qf X.xe s := by
  have hfree : ∀ y ∈ scope.names, y.2 = .free → ∃ c, X.env.cells.lookup y.1 = some c := fun y hy e => (ok.free y hy e).elim (fun k => I.ok.has _ (.inl k)) fun k => I.ok.has _ (.inr k)
  refine wpAny_comprehension_free (use := use) rfl hs (closure_ok hfree) ok.kind (fun y hy e => by rw [ok.uniq y hy, e]) (thn (hi.run pins s σ H _ I h) fun xv s1 hx => thn hx fun itv s2 h2 => ?_)
  obtain ⟨it, fp, tn, J, H2, e, I2, T, st2, f2, q⟩ := h2
  subst e
  refine PpSet.newSet_ok (newEnv_comp ?_)
  generalize eD : s2.heap.objs.size = D
  obtain ⟨M, ⟨m0, w0⟩, turn⟩ := q D (I2.hok.fresh (Nat.le_of_eq eD))
  generalize e3 : ({ s2 with heap := s2.heap.push { cls := .type "set", dict := none, data := .set #[] 0 (.fresh 0 0 (!X.w.params.followText "set-order")) } } : Shared) = s3
  have h3 : s3.heap = s2.heap.push { cls := .type "set", dict := none, data := .set #[] 0 (.fresh 0 0 (!X.w.params.followText "set-order")) } := by rw [← e3]
  have grow : ∀ b o, s2.heap.get? b = some o → s3.heap.get? b = some o := fun b o e => by rw [h3]; exact Heap.get?_push_of_some _ e
  have I3 : Inv X pins σ (upd H2 D (SetSO X.prog X.w [] D)) s3 := by
    rw [← e3]
    refine I2.laid (t' := s2.toks) (fun b o e => Heap.get?_push_of_some _ e) (Nat.le_of_eq eD) ?_
    rw [← eD]
    exact setSO_mk (n := 0) (Nat.le_refl _) ⟨_, #[], 0, _, Heap.get?_push_size _ rfl, ⟨rfl, rfl, rfl⟩, rfl, (fun e he => by simp at he), (fun k => by cases k <;> simp [hasS]), (by decide), (by rfl), rfl⟩ fun _ => setR_fresh X.w
  have f3 : ∀ b ∈ fp, FpOk X pins (upd H2 D (SetSO X.prog X.w [] D)) b ∧ b < s3.heap.objs.size := fun b hb => by
    obtain ⟨o, e, _⟩ := T.obj _ _ st2 b hb
    have lt := Heap.lt_size e
    exact ⟨⟨by rw [upd_ne (by rw [← eD]; exact Nat.ne_of_lt lt)]; exact (f2 b hb).1, (f2 b hb).2⟩, by rw [h3, Heap.size_push]; exact Nat.lt_succ_of_lt lt⟩
  have st3 : tn 0 s3.heap := T.keep _ _ _ st2 fun b _ o e => grow b o e
  have I4 := block_start I3 ok hN f3
  obtain ⟨pg, pt, pe, pi1, pg1, pt1⟩ := hg s3 (upd H2 D (SetSO X.prog X.w [] D)) s3.heap.objs.size (cellsFrom (s3.heap.objs.size + 1) scope.names (cloFrom X.env.cells scope.names [])) fp
  show codeAny _ _ (.compStart (S2 elt tg iter tg1 iter1 ifs ifs1 scope pos) 0 (.ref it) (.ref D) (compEnvC scope (cellsFrom (s3.heap.objs.size + 1) scope.names (cloFrom X.env.cells scope.names [])) s3.heap.objs.size X.env)) (compPost (model X.prog X.w) X.A X.xe use Qf (.ref D) s3.heap.objs.size) { s3 with heap := pushCells (s3.heap.push { cls := .type "dict", data := .dict #[] }) scope.names }
  have fr0 : ∀ b ∈ fp, (upd H2 D (SetSO X.prog X.w [] D)) b = none := fun b hb => (f3 b hb).1.1
  generalize hce : compEnvC scope (cellsFrom (s3.heap.objs.size + 1) scope.names (cloFrom X.env.cells scope.names [])) s3.heap.objs.size X.env = ce at I4 pg pt pe pi1 pg1 pt1 ⊢
  have eL : ce.locals = s3.heap.objs.size := by subst hce; rfl
  generalize eH : upd H2 D (SetSO X.prog X.w [] D) = H3 at I3 I4 pg pt pe pi1 pg1 pt1 w0 fr0 f3
  generalize e4 : ({ s3 with heap := pushCells (s3.heap.push { cls := .type "dict", data := .dict #[] }) scope.names } : Shared) = s4 at I4 ⊢
  have st4 : tn 0 s4.heap := T.keep _ _ _ st3 fun b _ o e => by rw [← e4]; exact pushCells_keeps _ _ _ _ (Heap.get?_push_of_some _ e)
  -- the block's context
  have hB : (X.blk s3 H3 scope ce fp).calm = true := hc
  have fpB : ∀ {σ' : L2.St} {H' : Hp} {s' : Shared}, Inv (X.blk s3 H3 scope ce fp) [] σ' H' s' → (∀ b ∈ fp, H' b = none) → ∀ b ∈ fp, FpOk (X.blk s3 H3 scope ce fp) [] H' b := fun {σ' H' s'} J hn b hb => by
    refine ⟨hn b hb, (J.ok.exf b hb).1, J.ok.exfs b hb, .inl hb, (J.ok.exf b hb).2, fun p hp => ?_⟩
    exact absurd (show p ∈ ([] : List (Addr × Obj)) ++ [] from hp) (by simp)
  have loop : codeAny (model X.prog X.w) X.A (.compLoop (S2 elt tg iter tg1 iter1 ifs ifs1 scope pos) 0 (.ref it) (.ref D) ce) (compPost (model X.prog X.w) X.A X.xe use Qf (.ref D) s3.heap.objs.size) s4 := by
    refine loop_out (hs1 ce) (fun n s' => ∃ i H', Inv (X.blk s3 H3 scope ce fp) [] (wipe σ (own.map (·.2))) H' s' ∧ tn i s'.heap ∧ (∀ b ∈ fp, H' b = none) ∧ M i n H') ?_ m0 ⟨0, H3, I4, st4, fr0, w0⟩
    rintro n s5 ⟨i, H5, I5, st5, n5, w5⟩
    rcases turn i n H5 w5 with ⟨stop, qq⟩ | ⟨go, Nx, hNx, step⟩
    · refine thnF (T.done (X.blk s3 H3 scope ce fp) rfl rfl rfl hB i [] s5 _ H5 (fun _ _ => False) I5 (fpB I5 n5) st5 stop) fun r s6 ⟨hr, I6⟩ => ?_
      subst hr
      have I7 : Inv X pins σ H5 s6 := I3.call' (ch := fp) I6.os I6.base I6.hok I6.bare fun b hb => let z := (f3 b hb).1.2; ⟨z.2.2.1, z.1, z.2.2.2.1, z.2.2.2.2⟩
      obtain ⟨m, hn, _⟩ := I6.loc
      have hn : s6.heap.Ns ce.locals m := hn
      have hfree0 : H5 ce.locals = none := I6.free
      rw [eL] at hn hfree0
      exact hRR _ _ s6 m H5 I7 qq hn (I3.fpOk (Nat.le_refl _) hfree0)
    · refine thnF (T.item (X.blk s3 H3 scope ce fp) rfl rfl rfl hB i [] s5 _ H5 (fun _ _ => False) I5 (fpB I5 n5) st5 go) fun r s6 ⟨u, hr, h6⟩ => ?_
      subst hr
      refine thnF h6 fun _ s7 ⟨x, H7, I7, r7, y7, st7, n7⟩ => thnF (pg.run _ s7 _ H7 x u _ (I7.pinned (fpB I7 n7) (T.obj _ _ st7)) r7 (step x H7 y7)) fun _ s8 ⟨σ8, H8, I8, hw8, q8⟩ => ?_
      refine thnF (pt.run _ s8 σ8 H8 _ I8 q8) fun b s9 ⟨H9, I9, q9⟩ => ?_
      have back : ∀ {σ9 : L2.St} {s' : Shared} {H' : Hp}, Inv (X.blk s3 H3 scope ce fp) ([] ++ pinsAt fp s7.heap) σ9 H' s' → (wipe σ (own.map (·.2))).length = σ9.length → (∀ (j : Nat) v, (wipe σ (own.map (·.2)))[j]? = some (some v) → σ9[j]? = some (some v)) → Nx H' →
          ∃ m, m < n ∧ ∃ i H', Inv (X.blk s3 H3 scope ce fp) [] (wipe σ (own.map (·.2))) H' s' ∧ tn i s'.heap ∧ (∀ b ∈ fp, H' b = none) ∧ M i m H' := fun {σ9 s' H'} J hl hk nx => by
        obtain ⟨m', hm, w'⟩ := hNx H' nx
        have still : ∀ b ∈ fp, ∀ o, s7.heap.get? b = some o → s'.heap.get? b = some o ∧ H' b = none := fun b hb o e => by
          have z := J.pin (b, o) (List.mem_append_right _ (List.mem_append_right _ (mem_pinsAt hb e)))
          exact ⟨z.1, z.2.1⟩
        refine ⟨m', hm, i + 1, H', (J.unpinned (pins := [])).weak hl hk, T.keep _ _ _ st7 fun b hb o e => (still b hb o e).1, fun b hb => ?_, w'⟩
        obtain ⟨o, e, _⟩ := T.obj _ _ st7 b hb
        exact (still b hb o e).2
      have len8 : (wipe σ (own.map (·.2))).length = σ8.length := by rw [← hw8, wipe_length]
      have kn8 : ∀ (j : Nat) v, (wipe σ (own.map (·.2)))[j]? = some (some v) → σ8[j]? = some (some v) ∧ j ∉ vs1 := fun j v e => by
        rw [← hw8] at e
        obtain ⟨a, b⟩ := wipe_some e
        exact ⟨a, fun z => b (hv j z)⟩
      cases b with
      | false =>
        simp only [Bool.false_eq_true, if_false] at q9 ⊢
        exact back I9 len8 (fun j v e => (kn8 j v e).1) q9
      | true =>
        simp only [if_true] at q9 ⊢
        refine thnF (pi1.run _ s9 σ8 H9 _ I9 q9) fun xv s10 hx => thnF hx fun itv s11 h11 => ?_
        obtain ⟨it1, fp1, tn1, J1, H11, e1, I11, T1, st11, f11, M1, ⟨m1, w1⟩, turn1⟩ := h11
        subst e1
        have fpI : ∀ {H' : Hp}, (∀ b ∈ fp1, H' b = none) → ∀ b ∈ fp1, FpOk (X.blk s3 H3 scope ce fp) ([] ++ pinsAt fp s7.heap) H' b := fun hn b hb => ⟨hn b hb, (f11 b hb).2⟩
        have loop1 : codeAny (model X.prog X.w) X.A (.compLoop (S2 elt tg iter tg1 iter1 ifs ifs1 scope pos) 1 (.ref it1) (.ref D) ce)
            (fun r s' => match r with
              | .ok _ => ∃ m, m < n ∧ ∃ i H', Inv (X.blk s3 H3 scope ce fp) [] (wipe σ (own.map (·.2))) H' s' ∧ tn i s'.heap ∧ (∀ b ∈ fp, H' b = none) ∧ M i m H'
              | .error _ => False) s11 := by
          refine loop_in (fun k s' => ∃ j H', Inv (X.blk s3 H3 scope ce fp) ([] ++ pinsAt fp s7.heap) (wipe σ8 vs1) H' s' ∧ tn1 j s'.heap ∧ (∀ b ∈ fp1, H' b = none) ∧ M1 j k H') ?_ m1 ⟨0, H11, I11.weak (wipe_length _ _) (fun j v e => (wipe_some e).1), st11, fun b hb => (f11 b hb).1, w1⟩
          rintro k s12 ⟨j, H12, I12, st12, n12, w12⟩
          rcases turn1 j k H12 w12 with ⟨stop1, nx1⟩ | ⟨go1, Ny, hNy, step1⟩
          · refine thnF (T1.done (X.blk s3 H3 scope ce fp) rfl rfl rfl hB j _ s12 (wipe σ8 vs1) H12 (fun _ _ => False) I12 (fpI n12) st12 stop1) fun r s13 ⟨hr, I13⟩ => ?_
            subst hr
            refine back I13 (len8.trans (wipe_length σ8 vs1).symm) (fun j v e => ?_) nx1
            rw [wipe_out (kn8 j v e).2]; exact (kn8 j v e).1
          · refine thnF (T1.item (X.blk s3 H3 scope ce fp) rfl rfl rfl hB j _ s12 (wipe σ8 vs1) H12 (fun _ _ => False) I12 (fpI n12) st12 go1) fun r s13 ⟨u1, hr, h13⟩ => ?_
            subst hr
            refine thnF h13 fun _ s14 ⟨x1, H14, I14, r14, y14, st14, n14⟩ => thnF (pg1.run _ s14 (wipe σ8 vs1) H14 x1 u1 _ (I14.pinned (fpI n14) (T1.obj _ _ st14)) r14 (step1 x1 H14 y14)) fun _ s15 ⟨σ15, H15, I15, hw15, q15⟩ => ?_
            refine thnF (pt1.run _ s15 σ15 H15 _ I15 q15) fun b1 s16 ⟨H16, I16, q16⟩ => ?_
            have back1 : ∀ {s' : Shared} {H' : Hp}, Inv (X.blk s3 H3 scope ce fp) (([] ++ pinsAt fp s7.heap) ++ pinsAt fp1 s14.heap) σ15 H' s' → Ny H' → ∃ m, m < k ∧ ∃ j H', Inv (X.blk s3 H3 scope ce fp) ([] ++ pinsAt fp s7.heap) (wipe σ8 vs1) H' s' ∧ tn1 j s'.heap ∧ (∀ b ∈ fp1, H' b = none) ∧ M1 j m H' := fun {s' H'} J nx => by
              obtain ⟨m', hm, w'⟩ := hNy H' nx
              have still : ∀ b ∈ fp1, ∀ o, s14.heap.get? b = some o → s'.heap.get? b = some o ∧ H' b = none := fun b hb o e => by
                have z := J.pin (b, o) (List.mem_append_right _ (List.mem_append_right _ (mem_pinsAt hb e)))
                exact ⟨z.1, z.2.1⟩
              refine ⟨m', hm, j + 1, H', J.unpinned.weak (by rw [← hw15, wipe_length]) (fun j v e => by rw [← hw15] at e; exact (wipe_some e).1), T1.keep _ _ _ st14 fun b hb o e => (still b hb o e).1, fun b hb => ?_, w'⟩
              obtain ⟨o, e, _⟩ := T1.obj _ _ st14 b hb
              exact (still b hb o e).2
            cases b1 with
            | false =>
              simp only [Bool.false_eq_true, if_false] at q16 ⊢
              exact back1 I16 q16
            | true =>
              simp only [if_true] at q16 ⊢
              refine thnF (pe.run _ s16 σ15 H16 _ I16 q16) fun z s17 ⟨yv, H17, I17, r17, ks, x, ey, hD17, room, nx⟩ => ?_
              subst ey
              exact addS_add (X := X.blk s3 H3 scope ce fp) I17 hD17 room r17 fun s18 I18 => back1 I18 nx
        exact start_in loop1 (T1.self X.A 0 _ _ _ st11 loop1)
  exact PpSet.codeAny_compStart_set loop (T.self X.A 0 _ _ _ st4 loop)

theorem sc2_run {pins : List (Addr × Obj)} {s : Shared} {σ : L2.St} {H : Hp} {Q : VK} {elt tg iter tg1 iter1 : Expr} {ifs ifs1 : List Expr} {scope : Scope} {own : List (Str × Nat)} {vs1 : List Nat} {pos : Pos} {wi wi1 : TI} {g g1 : TG} {tt tt1 : TT} {te : TE}
    (hc : X.calm = true) (hN : X.N.Nodup) (I : Inv X pins σ H s) (hi : PI X tg iter wi) (ok : BlkOk X.N X.env.scope scope own) (hv : ∀ i ∈ vs1, i ∈ own.map (·.2))
    (hg : ∀ (s : Shared) (H : Hp) (B : Addr) (cl : List (Str × Addr)) (fp : List Addr), PG (X.blk s H scope (compEnvC scope cl B X.env) fp) tg g ∧ PTs (X.blk s H scope (compEnvC scope cl B X.env) fp) ifs tt ∧ PE (X.blk s H scope (compEnvC scope cl B X.env) fp) elt te ∧ PI (X.blk s H scope (compEnvC scope cl B X.env) fp) tg1 iter1 wi1 ∧
      PG (X.blk s H scope (compEnvC scope cl B X.env) fp) tg1 g1 ∧ PTs (X.blk s H scope (compEnvC scope cl B X.env) fp) ifs1 tt1)
    (hs : ∀ x, foldedSetIterable iter X.env x = pure x) (hs1 : ∀ env x, foldedSetIterable iter1 env x = pure x) (h : tSc2 (SetSO X.prog X.w) wi g tt wi1 g1 tt1 te (own.map (·.2)) vs1 σ H Q) :
    wpAny (model X.prog X.w) X.A (eval (S2 elt tg iter tg1 iter1 ifs ifs1 scope pos) X.env) (EP X pins σ Q) X.xe s := by
  show wpAny (model X.prog X.w) X.A (comprehension (S2 elt tg iter tg1 iter1 ifs ifs1 scope pos) scope X.env (firstIterPos [⟨tg, iter, ifs, 0⟩, ⟨tg1, iter1, ifs1, 0⟩] pos) (newSet (.type "set")) false (eval iter X.env)) _ _ s
  refine sc2_core hc hN I hi ok hv hg hs hs1 h fun D C s' m H' I' q hn f => ⟨m, hn, fun h'' sb => ?_⟩
  obtain ⟨f0, f1, f2, f3, f4, f5⟩ := f
  exact ⟨.ref D, H', I'.turned (t' := s'.toks) (fun b o hb e => (sb.2 b hb).trans e) f0 f1 f3 f4 f5, rfl, q⟩
/-- name = {.. for .. for ..} on one line, the name a local -/
theorem ps_setSc2 {i : Nat} {y : Str} {py : Pos} {elt tg iter tg1 iter1 : Expr} {ifs ifs1 : List Expr} {scope : Scope} {own : List (Str × Nat)} {vs1 : List Nat} {pos spos : Pos} {wi wi1 : TI} {g g1 : TG} {tt tt1 : TT} {te : TE}
    (hc : X.calm = true) (hN : X.N.Nodup) (hy : X.N[i]? = some y) (hyl : X.env.scope.names.lookup y = some .local) (hsw : swapsWith (S2 elt tg iter tg1 iter1 ifs ifs1 scope pos) (some (.Name y py)) spos.line X.env = pure true)
    (hi : PI X tg iter wi) (ok : BlkOk X.N X.env.scope scope own) (hv : ∀ i ∈ vs1, i ∈ own.map (·.2))
    (hg : ∀ (s : Shared) (H : Hp) (B : Addr) (cl : List (Str × Addr)) (fp : List Addr), PG (X.blk s H scope (compEnvC scope cl B X.env) fp) tg g ∧ PTs (X.blk s H scope (compEnvC scope cl B X.env) fp) ifs tt ∧ PE (X.blk s H scope (compEnvC scope cl B X.env) fp) elt te ∧ PI (X.blk s H scope (compEnvC scope cl B X.env) fp) tg1 iter1 wi1 ∧
      PG (X.blk s H scope (compEnvC scope cl B X.env) fp) tg1 g1 ∧ PTs (X.blk s H scope (compEnvC scope cl B X.env) fp) ifs1 tt1)
    (hs : ∀ x, foldedSetIterable iter X.env x = pure x) (hs1 : ∀ env x, foldedSetIterable iter1 env x = pure x) :
    PS X (.Assign [.Name y py] (S2 elt tg iter tg1 iter1 ifs ifs1 scope pos) spos) (tAsg (tSc2 (SetSO X.prog X.w) wi g tt wi1 g1 tt1 te (own.map (·.2)) vs1) (L2.gName i)) := by
  refine ⟨fun pins s σ H D I h => ?_⟩
  rw [exec_Assign_Name_used _ _ _ _ hsw]
  refine wpAny_bind (wpAny_standAt (wpAny_bind ?_))
  show wpAny _ X.A (do let _ ← comprehension (S2 elt tg iter tg1 iter1 ifs ifs1 scope pos) scope X.env (firstIterPos [⟨tg, iter, ifs, 0⟩, ⟨tg1, iter1, ifs1, 0⟩] pos) (newSet (.type "set")) false (eval iter X.env) (some (assign (.Name y py) X.env))) _ _ s
  have h : tSc2 (SetSO X.prog X.w) wi g tt wi1 g1 tt1 te (own.map (·.2)) vs1 σ H (fun x H1 => L2.gName i x σ H1 D.nx) := h
  refine wpAny_bind (thn (sc2_core (Qf := fun _ s' => SP X pins D .next s') hc hN I hi ok hv hg hs hs1 h fun L C s' m H' I' q hn f => ?_) fun _ s' hq => wpAny_pure (wpAny_pure hq))
  show wpAny _ _ (assign (.Name y py) X.env (.ref L)) _ _ _
  refine wpAny_assign_Name (store_ok2 (v := V.ref L) I' hN hy (.inl hyl) rfl (fun s2 I2 ⟨a, sb, ha⟩ => ?_) (.inr hyl))
  obtain ⟨f0, f1, f2, f3, f4, f5⟩ := f
  have haC : C ≠ a := by
    rcases ha with z | z
    · rw [z]; exact f1
    · exact fun e => f4 y a z e.symm
  refine ⟨m, hn.sameBut sb haC, fun h3 sb3 => ?_⟩
  exact ⟨_, H', I2.turned (t' := s2.toks) (fun b o hb e => (sb3.2 b hb).trans e) f0 f1 f3 f4 f5, q⟩
theorem sw_trueS {elt : Expr} {gs : List Comprehension} {scope : Scope} {pos py : Pos} {y : Str} {l : Nat} {env : Env} (hk : env.scope.kind = .function) (hy : env.scope.names.lookup y = some .local) (hl : (py.line == pos.line) = true)
    (ha : (scope.names.any fun (n, k) => n == y && (k == .local || k == .cell)) = false) : swapsWith (.SetComp elt gs scope pos) (some (.Name y py)) l env = pure true := by
  have ky : env.kindOf y = some .local := hy
  have hb : env.blockKind = .function := by unfold Env.blockKind; rw [hk]; rfl
  unfold swapsWith
  simp only [hb, ky, ha, Expr.pos, hl]
  rfl
end
end DL
/-! DL19: set comprehensions, read by trees; what is asked of sets. -/
namespace DL
open PySem PySem.Spec PyProof.Rows L2

def strD : D → Option Str
  | .str x => some x
  | _ => none
def inS2 (g1 : DG) (ft1 : DT) (fe : DE) (r : DEnv) : List D → List Str → Store → Res (List Str)
  | [], ks, m => .ok ks m
  | y :: ys, ks, m => match g1 y r with
    | none => .bad
    | some r3 => (noX (ft1 r3 m)).bind fun b m => if b = true then (noX (fe r3 m)).bind fun d m => match strD d with
      | some x => if ks.length + 1 < scanBound then inS2 g1 ft1 fe r ys (addS ks x) m else .bad
      | none => .bad else inS2 g1 ft1 fe r ys ks m
def outS2 (vs1 : List Nat) (g : DG) (ft : DT) (fi1 : DA) (g1 : DG) (ft1 : DT) (fe : DE) (r : DEnv) : List D → List Str → Store → Res (List Str)
  | [], ks, m => .ok ks m
  | x :: xs, ks, m => match g x r with
    | none => .bad
    | some r2 => (noX (ft r2 m)).bind fun b m => if b = true then (noX (fi1 r2 m)).bind fun ys m => (inS2 g1 ft1 fe (wipeD r2 vs1) ys ks m).bind fun ks m => outS2 vs1 g ft fi1 g1 ft1 fe r xs ks m else outS2 vs1 g ft fi1 g1 ft1 fe r xs ks m
def eSc2 (vs vs1 : List Nat) (fi : DA) (g : DG) (ft : DT) (fi1 : DA) (g1 : DG) (ft1 : DT) (fe : DE) : DE := fun r m => (fi r m).bind fun xs m => (outS2 vs1 g ft fi1 g1 ft1 fe (wipeD r vs) xs [] m).bind fun ks m => .ok (.set ks) m
section
variable {X : Cx} {C : CE} {W : WX}
theorem mut_set (ks : List Str) (a : Addr) : Mut (some (SetSO X.prog X.w ks a)) := trivial
theorem tSc2_of {vs vs1 : List Nat} {fi fi1 : DA} {g g1 : DG} {ft ft1 : DT} {fe : DE} {σ : L2.St} {H : Hp} {Q : VK} (hS : C.S = SetSO X.prog X.w) (h : tE X.K C W (eSc2 vs vs1 fi g ft fi1 g1 ft1 fe) σ H Q) :
    tSc2 (SetSO X.prog X.w) (tI X.K C W fi) (tGv X.K C vs g) (tT X.K C W0 ft) (tI X.K C W0 fi1) (tGv X.K C vs1 g1) (tT X.K C W0 ft1) (tE X.K C W0 fe) vs vs1 σ H Q := by
  obtain ⟨c, m, r, n, er, w⟩ := h
  unfold eSc2 at w
  refine ⟨c, m, r, n, er, RW.imp (RW.bind (rep := WalkD) w) fun J H' ⟨c1, xs, m1, e, x1, s1, wk, w1⟩ => ?_⟩
  subst e
  intro p hp
  have er1 := er.mono x1 n.s.wok
  have K1 : c1.K = X.K := x1.K.trans n.K
  have C1 : c1.C = C := x1.C.trans n.C
  refine ⟨fun i k H => k = xs.length - i ∧ i ≤ xs.length ∧ ∃ c2 m2 ks, InB c1 p c2 ∧ SRep c2 m2 ∧ c2.H = H ∧ c2.H p = some (SetSO X.prog X.w ks p) ∧
    RW C Rep c1 ((outS2 vs1 g ft fi1 g1 ft1 fe (wipeD r vs) (xs.drop i) ks m2).bind fun ks m => .ok (.set ks) m) Q (fun cls d H' => W cls d σ H'),
    ⟨xs.length, by simp, Nat.zero_le _, c1.tmp p (SetSO X.prog X.w [] p), m1, [], InB.start s1 hp, tmp_rep s1 hp (mut_set (X := X) _ _), rfl, upd_same, by simpa using w1⟩, ?_⟩
  rintro i k H ⟨rfl, hi, c2, m2, ks, b, s2, rfl, hD, w2⟩
  obtain ⟨go, stop⟩ := wk c2 m2 b.toExt0 s2 i
  by_cases hlt : i < xs.length
  case neg =>
    have e : i = xs.length := by omega
    subst e
    refine .inl ⟨stop (Nat.le_refl _), ?_⟩
    rw [List.drop_length] at w2
    obtain ⟨xo, so, xo0, wo⟩ := b.out s1 hp s2
    refine w2 (c2.out c1.T p) (.ref p) xo so (.set wo ?_)
    rw [show (c2.out c1.T p).C = C from b.C.trans C1, hS]; exact hD
  have hx : xs[i]? = some xs[i] := by simp [hlt]
  obtain ⟨g0, y1⟩ := go _ hx
  refine .inr ⟨g0, fun H' => ∃ c2 m2 ks, InB c1 p c2 ∧ SRep c2 m2 ∧ c2.H = H' ∧ c2.H p = some (SetSO X.prog X.w ks p) ∧
    RW C Rep c1 ((outS2 vs1 g ft fi1 g1 ft1 fe (wipeD r vs) (xs.drop (i + 1)) ks m2).bind fun ks m => .ok (.set ks) m) Q (fun cls d H' => W cls d σ H'), fun H' h => ⟨xs.length - (i + 1), by omega, rfl, hlt, h⟩, fun x H' yy => ?_⟩
  obtain ⟨c3, e3, x3, s3, q3⟩ := y1 x H' yy
  subst e3
  rw [List.drop_eq_getElem_cons hlt] at w2
  unfold outS2 at w2
  have b3 := b.next x3
  have T3 : p ∈ c3.T := by rw [b3.T]; exact List.mem_cons_self
  have D3 : c3.H p = some (SetSO X.prog X.w ks p) := (x3.TH p (by rw [b.T]; exact List.mem_cons_self)).trans hD
  cases eg : g xs[i] (wipeD r vs) with
  | none => rw [eg] at w2; exact False.elim w2
  | some r3 =>
    rw [eg] at w2
    simp only at w2
    have n3 : Now X.K C c3.H c3 m2 := ⟨b3.K.trans K1, b3.C.trans C1, rfl, s3⟩
    have er3 : ER c3 (wipeD r vs) (wipe σ vs) := er_wipe (er1.mono0 b3.toExt0 s1.wok) vs
    refine ⟨c3, m2, wipeD r vs, xs[i], r3, n3, er3, q3, eg, fun c4 σ4 x4 s4 er4 hw => ⟨hw.trans (wipe_twice σ vs), c4, m2, r3, n3.next x4 s4, er4, ?_⟩⟩
    cases et : ft r3 m2 with
    | bad => rw [et] at w2; exact False.elim w2
    | ex _ _ _ => rw [et] at w2; exact False.elim w2
    | ok bb m5 =>
      rw [et] at w2
      simp only [noX_ok, bind_ok] at w2
      intro c5 bv x5 s5 eb
      subst eb
      have b5 := b3.next (x4.trans x5)
      have D5 : c5.H p = some (SetSO X.prog X.w ks p) := ((x4.trans x5).TH p T3).trans D3
      have n5 := (n3.next x4 s4).next x5 s5
      have er5 := er4.mono x5 s4.wok
      cases bb with
      | false =>
        simp only [Bool.false_eq_true, if_false] at w2 ⊢
        exact ⟨c5, m5, ks, b5, s5, rfl, D5, w2⟩
      | true =>
        simp only [if_pos] at w2 ⊢
        refine ⟨c5, m5, r3, n5, er5, ?_⟩
        cases ei : fi1 r3 m5 with
        | bad => rw [ei] at w2; exact False.elim w2
        | ex _ _ _ => rw [ei] at w2; exact False.elim w2
        | ok ys m6 =>
          rw [ei] at w2
          simp only [noX_ok, bind_ok] at w2
          intro c6 J1 x6 s6 wk1
          have b6 := b5.next x6
          have T5 : p ∈ c5.T := by rw [b5.T]; exact List.mem_cons_self
          have D6 : c6.H p = some (SetSO X.prog X.w ks p) := (x6.TH p T5).trans D5
          have n6 := n5.next x6 s6
          have er6 := er5.mono x6 s5.wok
          refine ⟨fun j k H => k = ys.length - j ∧ j ≤ ys.length ∧ ∃ c7 m7 ks, InB c1 p c7 ∧ Ext0 c6 c7 ∧ SRep c7 m7 ∧ c7.H = H ∧ c7.H p = some (SetSO X.prog X.w ks p) ∧
            RW C Rep c1 (((inS2 g1 ft1 fe (wipeD r3 vs1) (ys.drop j) ks m7).bind fun ks m => outS2 vs1 g ft fi1 g1 ft1 fe (wipeD r vs) (xs.drop (i + 1)) ks m).bind fun ks m => .ok (.set ks) m) Q (fun cls d H' => W cls d σ H'),
            ⟨ys.length, by simp, Nat.zero_le _, c6, m6, ks, b6, (Ext.refl c6).toExt0, s6, rfl, D6, by simpa using w2⟩, ?_⟩
          rintro j k H ⟨rfl, hj, c7, m7, ks7, b7, x67, s7, rfl, D7, w7⟩
          obtain ⟨go1, stop1⟩ := wk1 c7 m7 x67 s7 j
          by_cases hlt1 : j < ys.length
          case neg =>
            have e : j = ys.length := by omega
            subst e
            refine .inl ⟨stop1 (Nat.le_refl _), c7, m7, ks7, b7, s7, rfl, D7, ?_⟩
            rw [List.drop_length] at w7
            exact w7
          have hy : ys[j]? = some ys[j] := by simp [hlt1]
          obtain ⟨g2, y2⟩ := go1 _ hy
          refine .inr ⟨g2, fun H' => ∃ c7 m7 ks, InB c1 p c7 ∧ Ext0 c6 c7 ∧ SRep c7 m7 ∧ c7.H = H' ∧ c7.H p = some (SetSO X.prog X.w ks p) ∧
            RW C Rep c1 (((inS2 g1 ft1 fe (wipeD r3 vs1) (ys.drop (j + 1)) ks m7).bind fun ks m => outS2 vs1 g ft fi1 g1 ft1 fe (wipeD r vs) (xs.drop (i + 1)) ks m).bind fun ks m => .ok (.set ks) m) Q (fun cls d H' => W cls d σ H'), fun H' h => ⟨ys.length - (j + 1), by omega, rfl, hlt1, h⟩, fun x H' yy => ?_⟩
          obtain ⟨c8, e8, x8, s8, q8⟩ := y2 x H' yy
          subst e8
          rw [List.drop_eq_getElem_cons hlt1] at w7
          unfold inS2 at w7
          have b8 := b7.next x8
          have T8 : p ∈ c8.T := by rw [b8.T]; exact List.mem_cons_self
          have D8 : c8.H p = some (SetSO X.prog X.w ks7 p) := (x8.TH p (by rw [b7.T]; exact List.mem_cons_self)).trans D7
          cases eg1 : g1 ys[j] (wipeD r3 vs1) with
          | none => rw [eg1] at w7; exact False.elim w7
          | some r9 =>
            rw [eg1] at w7
            simp only at w7
            have n8 : Now X.K C c8.H c8 m7 := ⟨b8.K.trans K1, b8.C.trans C1, rfl, s8⟩
            have x68 : Ext0 c6 c8 := x67.trans x8.toExt0
            have er8 : ER c8 (wipeD r3 vs1) (wipe σ4 vs1) := er_wipe (er6.mono0 x68 s6.wok) vs1
            refine ⟨c8, m7, wipeD r3 vs1, ys[j], r9, n8, er8, q8, eg1, fun c9 σ9 x9 s9 er9 hw9 => ⟨hw9.trans (wipe_twice σ4 vs1), c9, m7, r9, n8.next x9 s9, er9, ?_⟩⟩
            cases et1 : ft1 r9 m7 with
            | bad => rw [et1] at w7; exact False.elim w7
            | ex _ _ _ => rw [et1] at w7; exact False.elim w7
            | ok b1 m10 =>
              rw [et1] at w7
              simp only [noX_ok, bind_ok] at w7
              intro c10 bv x10 s10 eb
              subst eb
              have x80 := x9.trans x10
              cases b1 with
              | false =>
                simp only [Bool.false_eq_true, if_false] at w7 ⊢
                exact ⟨c10, m10, ks7, b8.next x80, x68.trans x80.toExt0, s10, rfl, (x80.TH p T8).trans D8, w7⟩
              | true =>
                simp only [if_pos] at w7 ⊢
                refine ⟨c10, m10, r9, (n8.next x9 s9).next x10 s10, er9.mono x10 s9.wok, ?_⟩
                cases ee : fe r9 m10 with
                | bad => rw [ee] at w7; exact False.elim w7
                | ex _ _ _ => rw [ee] at w7; exact False.elim w7
                | ok d m11 =>
                  rw [ee] at w7
                  simp only [noX_ok, bind_ok] at w7
                  intro c11 v x11 s11 q11
                  have x81 := x80.trans x11
                  cases d with
                  | str z =>
                    cases q11
                    simp only [strD] at w7
                    split at w7
                    · rename_i room
                      obtain ⟨b12, s12, x12⟩ := InB.grow (o := SetSO X.prog X.w (addS ks7 z) p) s1 hp (b8.next x81) s11 (mut_set (X := X) _ _)
                      exact ⟨ks7, z, rfl, (x81.TH p T8).trans D8, room, c11.grow p (SetSO X.prog X.w (addS ks7 z) p), m11, addS ks7 z, b12, (x68.trans x81.toExt0).trans x12, s12, rfl, upd_same, w7⟩
                    · exact False.elim w7
                  | _ => exact False.elim w7
theorem de_sc2 {elt tg iter tg1 iter1 : Expr} {ifs ifs1 : List Expr} {scope : Scope} {own : List (Str × Nat)} {vs1 : List Nat} {pos : Pos} {fi fi1 : DA} {g g1 : DG} {ft ft1 : DT} {fe : DE} (hS : C.S = SetSO X.prog X.w) (hc : X.calm = true) (hN : X.N.Nodup) (ok : blkC X.N X.env.scope scope own = true) (hv : ∀ i ∈ vs1, i ∈ own.map (·.2)) (hi : PI X tg iter (tI X.K C W fi))
    (hg : ∀ (s : Shared) (H : Hp) (B : Addr) (cl : List (Str × Addr)) (fp : List Addr), PG (X.blk s H scope (compEnvC scope cl B X.env) fp) tg (tGv X.K C (own.map (·.2)) g))
    (ht : ∀ (s : Shared) (H : Hp) (B : Addr) (cl : List (Str × Addr)) (fp : List Addr), PTs (X.blk s H scope (compEnvC scope cl B X.env) fp) ifs (tT X.K C W0 ft))
    (he : ∀ (s : Shared) (H : Hp) (B : Addr) (cl : List (Str × Addr)) (fp : List Addr), PE (X.blk s H scope (compEnvC scope cl B X.env) fp) elt (tE X.K C W0 fe))
    (hi1 : ∀ (s : Shared) (H : Hp) (B : Addr) (cl : List (Str × Addr)) (fp : List Addr), PI (X.blk s H scope (compEnvC scope cl B X.env) fp) tg1 iter1 (tI X.K C W0 fi1))
    (hg1 : ∀ (s : Shared) (H : Hp) (B : Addr) (cl : List (Str × Addr)) (fp : List Addr), PG (X.blk s H scope (compEnvC scope cl B X.env) fp) tg1 (tGv X.K C vs1 g1))
    (ht1 : ∀ (s : Shared) (H : Hp) (B : Addr) (cl : List (Str × Addr)) (fp : List Addr), PTs (X.blk s H scope (compEnvC scope cl B X.env) fp) ifs1 (tT X.K C W0 ft1))
    (hs : ∀ x, foldedSetIterable iter X.env x = pure x := by intro _; rfl) (hs1 : ∀ env x, foldedSetIterable iter1 env x = pure x := by intro _ _; rfl) :
    PE X (.SetComp elt [⟨tg, iter, ifs, 0⟩, ⟨tg1, iter1, ifs1, 0⟩] scope pos) (tE X.K C W (eSc2 (own.map (·.2)) vs1 fi g ft fi1 g1 ft1 fe)) :=
  ⟨fun pins s σ H Q I h => sc2_run hc hN I hi (blkOk_by ok) hv (fun s H B cl fp => ⟨hg s H B cl fp, ht s H B cl fp, he s H B cl fp, hi1 s H B cl fp, hg1 s H B cl fp, ht1 s H B cl fp⟩) hs hs1 (tSc2_of hS h)⟩
theorem ds_setSc2 {elt tg iter tg1 iter1 : Expr} {ifs ifs1 : List Expr} {scope : Scope} {own : List (Str × Nat)} {vs1 : List Nat} {pos spos py : Pos} {i : Nat} {y : Str} {fi fi1 : DA} {g g1 : DG} {ft ft1 : DT} {fe : DE} (hS : C.S = SetSO X.prog X.w) (hc : X.calm = true) (hN : X.N.Nodup) (ok : blkC X.N X.env.scope scope own = true) (hv : ∀ i ∈ vs1, i ∈ own.map (·.2)) (hi : PI X tg iter (tI X.K C W fi))
    (hg : ∀ (s : Shared) (H : Hp) (B : Addr) (cl : List (Str × Addr)) (fp : List Addr), PG (X.blk s H scope (compEnvC scope cl B X.env) fp) tg (tGv X.K C (own.map (·.2)) g))
    (ht : ∀ (s : Shared) (H : Hp) (B : Addr) (cl : List (Str × Addr)) (fp : List Addr), PTs (X.blk s H scope (compEnvC scope cl B X.env) fp) ifs (tT X.K C W0 ft))
    (he : ∀ (s : Shared) (H : Hp) (B : Addr) (cl : List (Str × Addr)) (fp : List Addr), PE (X.blk s H scope (compEnvC scope cl B X.env) fp) elt (tE X.K C W0 fe))
    (hi1 : ∀ (s : Shared) (H : Hp) (B : Addr) (cl : List (Str × Addr)) (fp : List Addr), PI (X.blk s H scope (compEnvC scope cl B X.env) fp) tg1 iter1 (tI X.K C W0 fi1))
    (hg1 : ∀ (s : Shared) (H : Hp) (B : Addr) (cl : List (Str × Addr)) (fp : List Addr), PG (X.blk s H scope (compEnvC scope cl B X.env) fp) tg1 (tGv X.K C vs1 g1))
    (ht1 : ∀ (s : Shared) (H : Hp) (B : Addr) (cl : List (Str × Addr)) (fp : List Addr), PTs (X.blk s H scope (compEnvC scope cl B X.env) fp) ifs1 (tT X.K C W0 ft1))
    (hy : X.N[i]? = some y := by rfl) (hyl : X.env.scope.names.lookup y = some .local := by rfl)
    (hk : X.env.scope.kind = .function := by rfl) (hl : (py.line == pos.line) = true := by rfl) (ha : (scope.names.any fun (n, k) => n == y && (k == .local || k == .cell)) = false := by rfl)
    (hs : ∀ x, foldedSetIterable iter X.env x = pure x := by intro _; rfl) (hs1 : ∀ env x, foldedSetIterable iter1 env x = pure x := by intro _ _; rfl) :
    PS X (.Assign [.Name y py] (.SetComp elt [⟨tg, iter, ifs, 0⟩, ⟨tg1, iter1, ifs1, 0⟩] scope pos) spos) (tS X.K C W (sSet i (eSc2 (own.map (·.2)) vs1 fi g ft fi1 g1 ft1 fe))) :=
  PS.imp (ps_setSc2 hc hN hy hyl (sw_trueS hk hyl hl ha) hi (blkOk_by ok) hv (fun s H B cl fp => ⟨hg s H B cl fp, ht s H B cl fp, he s H B cl fp, hi1 s H B cl fp, hg1 s H B cl fp, ht1 s H B cl fp⟩) hs hs1) fun D σ H ⟨c, m, r, n, er, w⟩ => tSc2_of hS (tE_thenS n er w fun c1 d m1 v n1 x1 er1 q w1 => w1 c1 _ (Ext.refl _) n1.s (er1.set i q))
/-! x in s, sorted(s) -/
def dInS (a b : D) : Option D := match inS a b with | some k => some (.bl k) | none => none
def rInSD (P : Program) (w : World) : R2 := fun x y H Q => ∃ z ks a, x = .str z ∧ y = .ref a ∧ H a = some (SetSO P w ks a) ∧ Q (.bl (decide (z ∈ ks))) H
theorem op_inS : OpR X (compareOp .In) (rInSD X.prog X.w) := by
  intro pins s σ H x y v u Q I rx ry h
  obtain ⟨z, ks, a, rfl, rfl, ha, q⟩ := h
  obtain rfl : u = Value.ref a := ry
  obtain ⟨⟨n, hn, R⟩, _⟩ := setSO_at I ha
  exact wpAny_inSet_of (k := (Sum.inr z : Key)) (kV_is rx) (key_scan (k := Sum.inr z) rx) R ⟨.bl (decide (z ∈ ks)), H, I.tok _, rfl, q⟩
theorem od_inS (hS : C.S = SetSO X.prog X.w) : OpD X C (rInSD X.prog X.w) dInS := by
  intro c m a b d x y Q n qa qb e k
  unfold dInS at e
  split at e
  · rename_i kk h
    cases e
    unfold inS at h
    split at h
    · rename_i z ks
      cases h
      obtain ⟨p, rfl, hp⟩ := qb.set_inv
      rw [n.C, hS] at hp
      exact ⟨z, ks, p, by rw [qa.str_inv], rfl, hp, k_at n k (.bl _)⟩
    · cases h
  · cases e
/-- sorted of an empty set -/
def fSortSet : List D → Option D
  | [.set []] => some (.lst [])
  | _ => none
def rSortSet (P : Program) (w : World) : List V → Hp → VK → Prop := fun xs H Q => ∃ a, xs = [.ref a] ∧ H a = some (SetSO P w [] a) ∧ ∀ p, H p = none → Q (.ref p) (upd H p (.lst []))
theorem cr_sortSet (hc : X.calm = true) : CallR X (.builtin "sorted") (rSortSet X.prog X.w) := by
  intro pins s σ H vs us Q I r h
  obtain ⟨a, rfl, ha, q⟩ := h
  have R := (setSO_at I ha).2 rfl
  rw [Vals.ref1 r]
  refine sorted_set R (I.ok.hd hc) (by decide) fun s' p out c ns k g o hp hg hi hs hm hl => ?_
  have en : ns = [] := List.eq_nil_of_length_eq_zero hl
  subst en
  cases hi' : out.toList with
  | cons _ _ => rw [hi'] at hi; cases hi
  | nil =>
    have J : Inv X pins σ (upd H p (.lst [])) { s with heap := s'.heap, gens := s'.gens, drawn := s'.drawn, toks := s'.toks } :=
      I.call (ch := []) (Un.laid k hp (I.hok.fresh hp)) (I.hok.laid k hp ⟨Nat.zero_le _, [], c, .nil, by rw [← hi', Array.toArray_toList]; exact hg⟩) (by rw [g]; exact I.bare) (fun _ z => nomatch z)
    have e : s' = { s with heap := s'.heap, gens := s'.gens, drawn := s'.drawn, toks := s'.toks } := by
      cases s'; cases s; cases o; rfl
    rw [e]
    exact ⟨.ref p, _, J, rfl, q p (I.hok.fresh hp)⟩
theorem cd_sortSet (hS : C.S = SetSO X.prog X.w) : CdD X C (rSortSet X.prog X.w) fSortSet := by
  intro c m ds vs d Q n qs e k
  unfold fSortSet at e
  split at e
  · cases e
    obtain ⟨v, rfl, q⟩ := seesL1 qs
    obtain ⟨p, rfl, hp⟩ := q.set_inv
    rw [n.C, hS] at hp
    exact ⟨p, rfl, hp, fun l hl => k_lst n k .nil l hl⟩
  · cases e
end
end DL
/-! DL20: dict of pairs; the end: a law whose def is called where nothing is under way. -/
namespace DL
open PySem PySem.Spec PyProof.Rows L2

section
variable {X : Cx} {C : CE} {W : WX}
/-! ### dict(pairs) -/
def pairsD : List D → Option (List (Key × D))
  | [] => some []
  | .tup [k, d] :: xs => match keyD k, pairsD xs with | some key, some l => some ((key, d) :: l) | _, _ => none
  | _ => none
def fDict : List D → Option D
  | [.lst xs] => match pairsD xs with | some l => some (.dic (mergeKD [] l)) | none => none
  | _ => none
theorem pairsD_rep {c : RC} : ∀ {xs : List D} {vs : List V} {l : List (Key × D)}, Reps c xs vs → pairsD xs = some l → ∃ (ps : List Addr) (kvs : List (Key × V)), vs = ps.map V.ref ∧ Paired (fun p kv => SqT c.K c.H p [kV kv.1, kv.2]) ps kvs ∧ RepsK c l kvs
  | [], _, l, .nil, h => by cases h; exact ⟨[], [], rfl, .nil, .nil⟩
  | x :: xs, v :: vs, l, .cons r t, h => by
    unfold pairsD at h
    split at h
    · simp at *
    · rename_i k d xs' heq
      cases heq
      split at h
      · rename_i key l' hk hl
        cases h
        obtain ⟨ps, kvs, e1, e2, e3⟩ := pairsD_rep t hl
        obtain ⟨a, us, rfl, ha, ra⟩ := r.tup_inv
        cases ra with
        | cons r1 ra =>
          cases ra with
          | cons r2 ra =>
            cases ra
            rw [keyD_kV r1 hk] at ha
            exact ⟨a :: ps, (key, _) :: kvs, by rw [e1]; rfl, .cons ha e2, .cons ⟨rfl, r2⟩ e3⟩
      · cases h
    · cases h
def rDictP (K : PySem.W.Frag) : List V → Hp → VK → Prop := fun xs H Q => ∃ (a : Addr) (ps : List Addr) (kvs : List (Key × V)), xs = [.ref a] ∧ SqL K H a (ps.map V.ref) ∧ Paired (fun p kv => SqT K H p [kV kv.1, kv.2]) ps kvs ∧ ∀ p, H p = none → Q (.ref p) (upd H p (.dK (mergeK [] kvs)))
theorem cd_dict : CdD X C (rDictP X.K) fDict := by
  intro c m ds vs d Q n qs e k
  unfold fDict at e
  split at e
  · split at e
    · rename_i l hl
      cases e
      obtain ⟨v, rfl, q⟩ := seesL1 qs
      obtain ⟨a, ws, rfl, h, r⟩ := q.lst_inv
      obtain ⟨ps, kvs, e1, e2, e3⟩ := pairsD_rep r hl
      subst e1
      rw [n.K] at e2
      exact ⟨a, ps, kvs, rfl, .inl (.inl h), e2, fun p hp => k_dic n k (mergeKD_rep e3 .nil) p hp⟩
    · cases e
  · cases e
end
/-! ### the end -/
/-- the law's call over its script -/
theorem law_end {P : Program} {w : World} {K : PySem.W.Frag} {mg mb : Str → Option Value} {k : Nat} {fa a : Addr} {C : CE} {G : List D → Store → Res D} {s : Shared} {vs : List Value} {ns : List Int}
    (kin : K.In s.heap) (hmg : s.heap.Ns mainGlobals mg) (hmb : s.heap.Ns builtinsNs mb) (hbb : ∀ x : Str, x ≠ "__name__" → mb x = bootBuiltins x) (lim : s.heap.NoLimit) (gens : s.gens = #[])
    (ha : s.heap.get? a = some { cls := .type "list", data := .seq vs.toArray }) (hi : IntsAre vs ns) (hl : ns.length ≤ sizeLine) (hr : Room k callerA)
    (F : ∀ base : Heap, K.In base → base.Ns mainGlobals mg → FnGg P w K mg base k fa C G) (hG : ∃ m, G [.scr ns] [] = .ok (.bl true) m) :
    codeAny (model P w) callerA (.call (.ref fa) ⟨[.ref a], []⟩) (fun r s' => r = .ok (.ret (.bool true)) ∧ OldK s.heap s'.heap ∧ s'.os = s.os ∧ AllBare s'.gens) s := by
  have vi := vals_ints hi
  have dictA : ∀ {b : Addr} {o : Obj} {es : Array DictEntry} {ep : Nat}, s.heap.get? b = some o → o.data = .dict es ep → b ≠ a := fun {b o es ep} h1 h2 z => by
    rw [z, ha] at h1
    cases h1
    exact nomatch (show Data.seq vs.toArray _ = Data.dict es ep from h2)
  -- what is tracked at first: the script alone, or nothing (it is one of the module's)
  suffices main : ∀ H : Hp, (∀ b, H b = none ∨ (b = a ∧ K.lookup a = none ∧ H b = some (.frz { cls := .type "list", data := .seq vs.toArray } (.lst (ns.map V.int))))) → HOk P w H s.heap → (Rd H a (.lst (ns.map V.int)) ∨ SqL K (fun _ => none) a (ns.map V.int)) →
      codeAny (model P w) callerA (.call (.ref fa) ⟨[.ref a], []⟩) (fun r s' => r = .ok (.ret (.bool true)) ∧ OldK s.heap s'.heap ∧ s'.os = s.os ∧ AllBare s'.gens) s by
    cases hk : K.lookup a with
    | some o =>
      have e := kin a o hk
      rw [ha] at e; cases e
      exact main (fun _ => none) (fun _ => .inl rfl) (fun b u z => nomatch z) (.inr (.inr ⟨_, vs.toArray, _, hk, rfl, rfl, rfl, by rw [List.size_toArray, hi.length]; exact hl, by simpa using vi⟩))
    | none =>
      have at_ : ∀ {b : Addr} {u : HO}, upd (fun _ => none) a (.frz { cls := .type "list", data := .seq vs.toArray } (.lst (ns.map V.int))) b = some u → b = a ∧ u = .frz { cls := .type "list", data := .seq vs.toArray } (.lst (ns.map V.int)) := fun {b u} z => by
        by_cases e : b = a
        · subst e; rw [upd_same] at z; cases z; exact ⟨rfl, rfl⟩
        · rw [upd_ne e] at z; cases z
      refine main (upd (fun _ => none) a (.frz { cls := .type "list", data := .seq vs.toArray } (.lst (ns.map V.int)))) (fun b => ?_) (fun b u z => ?_) (.inl (.inr ⟨_, upd_same⟩))
      · cases q : upd (fun _ => none) a (.frz { cls := .type "list", data := .seq vs.toArray } (.lst (ns.map V.int))) b with
        | none => exact .inl rfl
        | some u => obtain ⟨e1, e2⟩ := at_ q; exact .inr ⟨e1, hk, by rw [e2]⟩
      · obtain ⟨rfl, rfl⟩ := at_ z
        exact ⟨ha, by rw [List.length_map]; exact hl, vs, _, vi, ha⟩
  intro H only hok sq
  have free : ∀ {b : Addr}, (b ≠ a ∨ K.lookup a ≠ none) → H b = none := fun {b} h => by
    rcases only b with z | ⟨e, z, _⟩
    · exact z
    · rcases h with h | h
      · exact absurd e h
      · exact absurd z h
  have nsB : ∀ {b : Addr} {m : Str → Option Value}, s.heap.Ns b m → (hidT s.heap H).Ns b m := fun {b m} ⟨o, es, ep, e, d, z⟩ => ⟨o, es, ep, hidT_get e (free (.inl (dictA e d))), d, z⟩
  have kinB : K.In (hidT s.heap H) := fun b o e => by
    refine hidT_get (kin b o e) ?_
    by_cases z : b = a
    · subst z; exact free (.inr (by rw [e]; simp))
    · exact free (.inl z)
  have e0 : Env0 P w K mg (hidT s.heap H) callerA [] s H := by
    refine ⟨rfl, ⟨kinB, nsB hmg, ⟨mb, nsB hmb, hbb⟩, ?_⟩, fun b o e => of_hidT e, Nat.le_of_eq (hidT_size _ _), trivial, fun b hb => ?_, hok, .of_eq gens⟩
    · obtain ⟨mc, h1, h2⟩ := lim
      exact ⟨mc, nsB h1, h2⟩
    · exact absurd (show b ∈ ([] : List Addr) from hb) (by simp)
  obtain ⟨m1, hG⟩ := hG
  have s0 : SRep ⟨K, C, [], [], fun _ => False, H⟩ [] := by
    refine ⟨rfl, List.nodup_nil, fun b => ⟨fun z => z.elim, fun z => ?_⟩, fun n b d h => ?_, fun n b h => ?_, fun b h => ?_, fun n b h => ?_⟩
    · rcases z with ⟨n, d, h, _⟩ | h
      · simp at h
      · cases h
    · simp at h
    · simp at h
    · cases h
    · simp at h
  have sp : spG K C G [.ref a] H (fun v _ => v = .bl true) fun _ _ _ => False := by
    refine ⟨⟨K, C, [], [], fun _ => False, H⟩, [], [.scr ns], ⟨rfl, rfl, rfl, s0⟩, .cons (.scr (sq.imp (fun z => ⟨fun z => z, z⟩) id)) .nil, ?_⟩
    rw [hG]
    intro c' v x s q
    cases q; rfl
  refine codeAny_mono (F _ kinB (nsB hmg) callerA [] s H [.ref a] [.ref a] _ _ hr rfl e0 (.cons rfl .nil) sp) fun r s' h => ?_
  cases r with
  | error e =>
    obtain ⟨_, _, _, _, _, _, _, _, _, _, _, _, z⟩ := h
    exact z.elim
  | ok fl =>
    cases fl with
    | ret u =>
      obtain ⟨v, H', os, bare, un, hok', rv, q⟩ := h
      cases (show v = V.bl true from q)
      obtain rfl : u = Value.bool true := rv
      refine ⟨rfl, OldK.of_keep fun b o e => ?_, os, bare⟩
      rcases only b with z | ⟨rfl, _, z⟩
      · exact un.keep b o e z (fun z => absurd (show b ∈ ([] : List Addr) from z) (by simp)) (by simp)
      · have z2 := un.frzs b _ _ z
        rw [ha] at e; cases e
        exact (hok' b _ z2).1
    | next => exact False.elim h
    | brk => exact False.elim h
    | cont => exact False.elim h
/-- a law, by what its def comes to over a script -/
theorem walk_end {l : PySem.W.OpenLaw} {n k : Nat} {q : Program} {loose : List Str} {XP : (Str → Option Value) → Heap → Prop} {YP : World → Heap → Prop} {d : DefRec} {G : World → PySem.W.Frag → List D → Store → Res D} (hn : l.most = some n) (hn2 : n ≤ sizeLine) (hdf : d.params.defaults = []) (hr : Room k callerA)
    (F : ∀ (w : World) (mg : Str → Option Value) (fa : Addr) (h : Heap), YP w h → h.Ns mainGlobals mg → mg d.name = some (.ref fa) → ∃ (K : PySem.W.Frag) (C : CE), K.In h ∧ ∀ base : Heap, K.In base → base.Ns mainGlobals mg → FnGg l.prog w K mg base k fa C (G w K))
    (hG : ∀ (w : World) (K : PySem.W.Frag) (ns : List Int), ns.length ≤ n → ∃ m, G w K [.scr ns] [] = .ok (.bl true) m) : PySem.W.WalkO q loose XP YP l.row.toRowW d [] (fun f vs => PySem.call f vs) := by
  refine Att.attach_call hn hdf fun w s0 s1 mg mb fa o pm cd doc a vs ns Gr Y ho hd hcd hmg hobj hints hlen hg => ?_
  obtain ⟨K, C, kin, hF⟩ := F w mg fa _ Y Gr.T.g hmg
  exact law_end kin Gr.T.g Gr.T.b Gr.T.builtins Gr.T.nolimit hg hobj hints (Nat.le_trans hlen hn2) hr hF (hG w K ns hlen)
end DL
/-! DL21: what the kernel tells of the first heap, by number. -/
namespace DL
open PySem PySem.Spec PyProof.Rows L2
open PySem.W (Frag findIn typeIn keepIn subIn hasDictIn clsIn codeIn specialIn takesIn recIn fnIn isFn kitOne mroIn readsIn)
theorem prpB_ok {K : Frag} {C : Addr} {m : Str} (h : prpB K C m = true) : PropOf K C m (He.ma K C m) (He5.wf K C "property" m) := by
  obtain ⟨h1, h⟩ := He.ba h
  obtain ⟨h2, h⟩ := He.ba h
  obtain ⟨h3, h4⟩ := He.ba h
  refine ⟨He.eqO_ok h1, He.eqO_ok h2, of_decide_eq_true h3, ?_⟩
  unfold He5.wf
  split at h4
  · rename_i f r e; exact ⟨r, by rw [e]⟩
  · cases h4
theorem clsB_ok {K : Frag} {C : Addr} (h : clsB K C = true) : Cls K C := by
  obtain ⟨h1, h⟩ := He.ba h
  obtain ⟨h2, h⟩ := He.ba h
  obtain ⟨h3, h4⟩ := He.ba h
  exact ⟨h1, h2, h3, He.eqO_ok h4⟩
theorem exsB_ok {K : Frag} {C : Addr} {newId : String} {tl : List Value} (h : exsB K C newId tl = true) : ∃ nm q N bs bm sn sub ab col dd k0 k1 k2 k3 k5, K.lookup C = some (excClassObj nm q C N bs bm true sn sub ab col dd k0 k1 k2 k3 k5 newId) ∧ refsT tl bm = true := by
  unfold exsB at h
  split at h
  · rename_i ty dd cd sl e
    obtain ⟨h1, h⟩ := He.ba h
    obtain ⟨h2, h⟩ := He.ba h
    obtain ⟨h3, h⟩ := He.ba h
    obtain ⟨h4, h⟩ := He.ba h
    obtain ⟨h5, h⟩ := He.ba h
    obtain ⟨h6, h7⟩ := He.ba h
    obtain ⟨nm, bs, mro, N, q, hd, sn, sub, ab, col, del⟩ := cd
    dsimp only at h2 h3 h4 h5
    have e1 : ty = "type" := of_decide_eq_true h1
    have e2 : mro.head? = some (.ref C) := of_decide_eq_true h2
    have e6 : sl.toList.length = 6 := of_decide_eq_true h6
    have e7 : sl.toList[4]? = some (some (.builtin newId)) := of_decide_eq_true h7
    subst e1
    subst h4
    obtain ⟨l⟩ := sl
    have e5 : del = false := by cases del <;> simp_all
    subst e5
    cases mro with
    | nil => cases e2
    | cons z bm =>
      cases e2
      match l, e6, e7 with
      | [k0, k1, k2, k3, k4, k5], _, e7 =>
        cases e7
        exact ⟨nm, q, N, bs, bm, sn, sub, ab, col, dd, k0, k1, k2, k3, k5, e, h3⟩
  · cases h
section
variable {K : Frag} {h : Heap} {mg : Str → Option Value}
theorem excT_of {x qn : Str} {newId : String} {tl : List Value} {fd : FuncData} {dvs : List V} {kws : List (Str × V)} {p1 p2 q1 q2 q3 q4 : Pos} (X : K.In h) (G : h.Ns mainGlobals mg) (c : excB K x newId tl = true) (c2 : exsB K (He.ga K x) newId tl = true)
    (F : FunD K "__init__" qn (xA p1 p2) (xB q1 q2 q3 q4) xS dvs kws (He.ma K (He.ga K x) "__init__") fd) (hd : dvs = []) : ExcT K mg x qn (He.ga K x) (He.ma K (He.ga K x) "__init__") newId tl := by
  obtain ⟨h1, c⟩ := He.ba c
  obtain ⟨h2, c⟩ := He.ba c
  obtain ⟨h3, c⟩ := He.ba c
  obtain ⟨h4, c⟩ := He.ba c
  obtain ⟨h5, c⟩ := He.ba c
  obtain ⟨h6, c⟩ := He.ba c
  obtain ⟨h7, c⟩ := He.ba c
  obtain ⟨h8, c⟩ := He.ba c
  obtain ⟨h9, c⟩ := He.ba c
  obtain ⟨h10, h11⟩ := He.ba c
  refine ⟨He.glo_ok X G h1, exsB_ok c2, He.eqO_ok h2, He.eqO_ok h3, He.eqO_ok h4, He.eqO_ok h5, He.eqO_ok h6, of_decide_eq_true h7, h8, of_decide_eq_true h9, of_decide_eq_true h10, h11, ?_⟩
  obtain ⟨oc, od, dV, kV, doc, pm, an, cdv, ct, osl, e, l, cc, dd, _⟩ := F.ex
  subst hd
  rcases dd with ⟨_, e2⟩ | ⟨e2, _⟩
  · subst e2
    subst e
    exact ⟨oc, od, kV, doc, pm, an, cdv, ct, osl, p1, p2, q1, q2, q3, q4, l, cc⟩
  · exact absurd rfl e2
theorem tpoB_ok {a : Addr} (h : tpoB K a = true) : ∃ o, K.lookup a = some o ∧ o.cls = .type "tuple" ∧ o.dict = none := by
  unfold tpoB at h
  split at h
  · rename_i c dt sl e
    exact ⟨_, e, congrArg Value.type (of_decide_eq_true h), rfl⟩
  · cases h
/-- what is known all the way -/
structure Kt (ft : List Ft) (fn : List He5.DefA) (K : Frag) (mg : Str → Option Value) : Prop where
  m : ∃ h : Heap, K.In h ∧ h.Ns mainGlobals mg
  c : SaysF ft fn K
variable {ft : List Ft} {fn : List He5.DefA}
theorem Kt.at_ (Z : Kt ft fn K mg) (i : Nat) {f : Ft} (h : ft[i]? = some f) : f.ok K = true := by
  have c1 := (He.ba (show ((ft.all fun f => f.ok K) && fn.all fun d => d.ok K) = true from congrArg (fun z : He.AlD => z.1) Z.c)).1
  exact List.all_eq_true.mp c1 f (List.mem_of_getElem? h)
theorem Kt.fun_ (Z : Kt ft fn K mg) (i : Nat) {d : He5.DefA} (h : fn[i]? = some d) : ∃ fd, FunD K d.name d.qual d.params d.body d.scope (d.dvs K) (d.kws K) (d.at_ K) fd := by
  have c2 := (He.ba (show ((ft.all fun f => f.ok K) && fn.all fun d => d.ok K) = true from congrArg (fun z : He.AlD => z.1) Z.c)).2
  have e : fn.map (fun d => He5.fnA K (d.at_ K)) = fn.map He5.DefA.val := congrArg (fun z : He.AlD => z.2) Z.c
  have e2 : (fn.map fun d => He5.fnA K (d.at_ K))[i]? = (fn.map He5.DefA.val)[i]? := by rw [e]
  rw [List.getElem?_map, List.getElem?_map, h] at e2
  exact He5.DefA.funD (Option.some.inj e2) (List.all_eq_true.mp c2 d (List.mem_of_getElem? h))
theorem Kt.glo (Z : Kt ft fn K mg) (i : Nat) {x : Str} (h : ft[i]? = some (.h (.glo x))) : mg x = some (.ref (He.ga K x)) := by
  obtain ⟨hp, X, G⟩ := Z.m
  exact He.glo_ok X G (Z.at_ i h)
theorem Kt.free (Z : Kt ft fn K mg) (i : Nat) {x : Str} (h : ft[i]? = some (.h (.free x))) : mg x = none := by
  obtain ⟨hp, X, G⟩ := Z.m
  exact He.free_ok X G (Z.at_ i h)
theorem Kt.int (Z : Kt ft fn K mg) (i : Nat) {x : Str} {n : Int} (h : ft[i]? = some (.h (.int x n))) : ∃ t, mg x = some (.int n t) := by
  obtain ⟨hp, X, G⟩ := Z.m
  exact He.int_ok X G (Z.at_ i h)
theorem Kt.str (Z : Kt ft fn K mg) (i : Nat) {x n : Str} (h : ft[i]? = some (.h (.str x n))) : ∃ t, mg x = some (.str n t) := by
  obtain ⟨hp, X, G⟩ := Z.m
  exact He.str_ok X G (Z.at_ i h)
theorem Kt.tup (Z : Kt ft fn K mg) (i : Nat) {x : Str} {vs : List He.Dv} (h : ft[i]? = some (.tup x vs)) : mg x = some (.ref (He.ga K x)) ∧ ∀ H, SqT K H (He.ga K x) (vs.map (He.Dv.v K)) := by
  obtain ⟨hp, X, G⟩ := Z.m
  obtain ⟨h1, h2⟩ := He.ba (Z.at_ i h)
  exact ⟨He.glo_ok X G h1, He.tupB_ok h2⟩
theorem Kt.tpo (Z : Kt ft fn K mg) (i : Nat) {x : Str} (h : ft[i]? = some (.tpo x)) : ∃ o, K.lookup (He.ga K x) = some o ∧ o.cls = .type "tuple" ∧ o.dict = none := tpoB_ok (Z.at_ i h)
theorem Kt.cls (Z : Kt ft fn K mg) (i : Nat) {x : Str} (h : ft[i]? = some (.h (.cls x))) : Cls K (He.ga K x) := He.cls_ok (Z.at_ i h)
theorem Kt.noat (Z : Kt ft fn K mg) (i : Nat) {x f : Str} (h : ft[i]? = some (.h (.noat x f))) : NoAttr K (He.ga K x) f := He.noat_ok (Z.at_ i h)
theorem Kt.meth (Z : Kt ft fn K mg) (i : Nat) {x m : Str} (h : ft[i]? = some (.h (.meth x m))) : Meth K (He.ga K x) m (He.ma K (He.ga K x) m) := He.meth_ok (Z.at_ i h)
theorem Kt.mkr (Z : Kt ft fn K mg) (i : Nat) {x : Str} (h : ft[i]? = some (.h (.mkr x))) : Mk K (He.ga K x) (He.ma K (He.ga K x) "__init__") := He.mkr_ok (Z.at_ i h)
theorem Kt.exm (Z : Kt ft fn K mg) (i : Nat) {x y : Str} {b : Bool} (h : ft[i]? = some (.h (.exm x y b))) : PySem.W.exmOne K (.ref (He.ga K x)) (.ref (He.ga K y)) = some b := He.exm_ok (Z.at_ i h)
theorem Kt.keep (Z : Kt ft fn K mg) (i : Nat) {x : Str} (h : ft[i]? = some (.h (.keep x))) : keepIn K (.ref (He.ga K x)) = true := He.keep_ok (Z.at_ i h)
theorem Kt.prp (Z : Kt ft fn K mg) (i : Nat) {x m : Str} (h : ft[i]? = some (.prp x m)) : PropOf K (He.ga K x) m (He.ma K (He.ga K x) m) (He5.wf K (He.ga K x) "property" m) := prpB_ok (Z.at_ i h)
theorem Kt.sta (Z : Kt ft fn K mg) (i : Nat) {x m : Str} (h : ft[i]? = some (.sta x m)) : SMet K (He.ga K x) (.type "type") m (He.ma K (He.ga K x) m) (He5.wf K (He.ga K x) "staticmethod" m) := by
  obtain ⟨h1, h2⟩ := He.ba (Z.at_ i h)
  obtain ⟨g1, g2⟩ := He5.wrapB_ok h1
  exact ⟨g1, g2, h2⟩
theorem Kt.clm (Z : Kt ft fn K mg) (i : Nat) {x m : Str} (h : ft[i]? = some (.clm x m)) : ClX.CMet K (He.ga K x) (.type "type") m (He.ma K (He.ga K x) m) (He5.wf K (He.ga K x) "classmethod" m) := by
  obtain ⟨h1, h2⟩ := He.ba (Z.at_ i h)
  obtain ⟨g1, g2⟩ := He5.wrapB_ok h1
  exact ⟨g1, g2, h2⟩
theorem Kt.rd (Z : Kt ft fn K mg) (i : Nat) {x : Str} (h : ft[i]? = some (.rd x)) : ClX.CRead K (He.ga K x) (.type "type") := by
  obtain ⟨h1, h2⟩ := He.ba (Z.at_ i h)
  exact ⟨h1, He.eqO_ok h2⟩
theorem Kt.own (Z : Kt ft fn K mg) (i : Nat) {x m : Str} (h : ft[i]? = some (.own x m)) : findIn K (.ref (He.ga K x)) m = some (some (.ref (He.ma K (He.ga K x) m))) ∧ fnIn K (He.ma K (He.ga K x) m) = true ∧ isFn K (.ref (He.ma K (He.ga K x) m)) = true := by
  obtain ⟨h1, h⟩ := He.ba (Z.at_ i h)
  obtain ⟨h2, h3⟩ := He.ba h
  exact ⟨He.eqO_ok h1, h2, h3⟩
theorem Kt.isi (Z : Kt ft fn K mg) (i : Nat) {t c : Tn} {b : Bool} (h : ft[i]? = some (.isi t c b)) : kitOne K (t.v K) (c.v K) = some b := of_decide_eq_true (Z.at_ i h)
theorem Kt.exc (Z : Kt ft fn K mg) (i : Nat) {x qn : Str} {newId : String} {tl : List Value} (h : ft[i]? = some (.exc x newId tl)) {fd : FuncData} {dvs : List V} {kws : List (Str × V)} {p1 p2 q1 q2 q3 q4 : Pos}
    (F : FunD K "__init__" qn (xA p1 p2) (xB q1 q2 q3 q4) xS dvs kws (He.ma K (He.ga K x) "__init__") fd) (hd : dvs = []) : ExcT K mg x qn (He.ga K x) (He.ma K (He.ga K x) "__init__") newId tl := by
  obtain ⟨hp, X, G⟩ := Z.m
  obtain ⟨h1, h2⟩ := He.ba (Z.at_ i h)
  exact excT_of X G h1 h2 F hd
/-- the classes of the text by number, the sets' reading -/
def CC (P : Program) (w : World) (K : Frag) (cn : List Str) : CE := ⟨fun j => He.ga K (cn.getD j "?"), SetSO P w, fun _ _ h => h⟩
theorem CC_S {P : Program} {w : World} {K : Frag} {cn : List Str} : (CC P w K cn).S = SetSO P w := rfl
theorem Kt.kit (Z : Kt ft fn K mg) (i : Nat) {C : CE} {k : Nat} {x : Str} (hC : C k = He.ga K x) (h : ft[i]? = some (.kit x)) : KitF K C k := by
  obtain ⟨h1, h⟩ := He.ba (Z.at_ i h)
  obtain ⟨h2, h⟩ := He.ba h
  obtain ⟨h3, h⟩ := He.ba h
  obtain ⟨h4, h5⟩ := He.ba h
  rw [← hC] at h1 h2 h5
  exact ⟨clsB_ok h1, He.eqO_ok h2, He.eqO_ok h3, of_decide_eq_true h4, of_decide_eq_true h5⟩
/-- a def of the text: its object, its promise over every base, its parameters -/
def GoodP (P : Program) (w : World) (K : Frag) (mg : Str → Option Value) (base : Heap) (k : Nat) (f : Addr) (ps : List Str) (C : CE) (G : List D → Store → Res D) : Prop := ∃ fd, FnOk P w K mg base (L2.CX P w) k f fd ps (spG K C G) ∧ Binds K fd ps []
theorem GoodP.g {P : Program} {w : World} {base : Heap} {k : Nat} {f : Addr} {ps : List Str} {C : CE} {G : List D → Store → Res D} (F : GoodP P w K mg base k f ps C G) : FnG P w K mg base k f C G := by
  obtain ⟨fd, h1, h2⟩ := F
  exact FnG.of h1 h2
end
/-! ### what is never reached -/
section
variable {X : Cx} {C : CE} {W : WX}
def eNever : DE := fun _ _ => .bad
def tNever : DT := fun _ _ => .bad
def aNever : DA := fun _ _ => .bad
theorem de_never {e : Expr} : PE X e (tE X.K C W eNever) := ⟨fun _ _ _ _ _ _ ⟨_, _, _, _, _, w⟩ => w.elim⟩
theorem dt_never {e : Expr} : PT X e (tT X.K C W tNever) := ⟨fun _ _ _ _ _ _ ⟨_, _, _, _, _, w⟩ => w.elim⟩
/-! ### the classes of isinstance -/
theorem isi_ty {x : Str} {n : String} {pos : Pos} {bs : List String} {ks : List Nat} {ans : String → Bool} {ansO : Nat → Bool} (hm : X.mg x = none) (hb : ∀ t ∈ bs, kitOne X.K (.type t) (.type n) = some (ans t)) (hk : ∀ k ∈ ks, kitOne X.K (.ref (C k)) (.type n) = some (ansO k) ∧ KitF X.K C k)
    (hv : bootBuiltins x = some (.type n) := by decide +kernel) (hg : Gl X x := by rfl) (hn : x ≠ "__name__" := by decide) (hd : (x == ("__debug__" : Str)) = false := by decide) : IsiC X C (.Name x pos) bs ks ans ansO :=
  ⟨⟨.ty n, .type n, pe_bltn hg hm hv rfl hn hd, .ty n, hb, hk⟩⟩
theorem isi_own {x : Str} {a : Addr} {pos : Pos} {bs : List String} {ks : List Nat} {ans : String → Bool} {ansO : Nat → Bool} (hm : X.mg x = some (.ref a)) (hb : ∀ t ∈ bs, kitOne X.K (.type t) (.ref a) = some (ans t)) (hk : ∀ k ∈ ks, kitOne X.K (.ref (C k)) (.ref a) = some (ansO k) ∧ KitF X.K C k)
    (hg : Gl X x := by rfl) (hd : (x == ("__debug__" : Str)) = false := by decide) : IsiC X C (.Name x pos) bs ks ans ansO :=
  ⟨⟨.ref a, .ref a, pe_glob hg hm rfl hd, .own a, hb, hk⟩⟩
end
end DL
/-! DL22: small helps for the printed walks. -/
namespace DL
open PySem PySem.Spec PyProof.Rows L2
section
variable {X : Cx} {C : CE} {W : WX} {e : Expr} {pos : Pos}
theorem de_propG {j k : Nat} {p g : Addr} {nm : Str} {G : List D → Store → Res D} {fo : DE} {ps : List Str} (hr : Room (k + 1) X.A) (cl : Cls X.K (C j)) (hp : PropOf X.K (C j) nm p g) (F : GoodP X.prog X.w X.K X.mg X.base k g ps C G) (he : PE X e (tE X.K C W fo))
    (hab : attributeBase e nm X.env (eval e X.env) = eval e X.env := by rfl) : PE X (.Attribute e nm pos) (tE X.K C W (eProp' j G fo)) := by
  obtain ⟨fd, h1, h2⟩ := F
  exact de_prop (f := g) hr cl hp h1 h2 he hab
theorem hu65 {k : Nat} {A : Around} (r : Room k A) : A.units + 65 < cLine := by have := r.un; omega
theorem hu1 {k : Nat} {A : Around} (r : Room k A) : A.units + 1 < cLine := by have := r.un; omega
theorem hu66 {k : Nat} {A : Around} (r : Room k A) : A.units + 66 < cLine := by have := r.un; omega
end
theorem gsl0 : ∀ ds r r', gsNil ds r = some r' → ds.length = 0 := by
  intro ds r r' h
  cases ds with
  | nil => rfl
  | cons => cases h
theorem gsl {i n : Nat} {gs : DGs} (hl : ∀ ds r r', gs ds r = some r' → ds.length = n) : ∀ ds r r', gsCons (gName i) gs ds r = some r' → ds.length = n + 1 := by
  intro ds r r' h
  cases ds with
  | nil => cases h
  | cons d ds => exact congrArg Nat.succ (hl ds _ r' h)
theorem kb0 {K : PySem.W.Frag} {x qual : Str} {params : Arguments} {body : List Stmt} {scope : Scope} {kws : List (Str × V)} {f : Addr} {fd : FuncData} {ps : List Str} (F : FunD K x qual params body scope [] kws f fd) (n : Nat) (ks : List Str) (hk : kws ≠ [])
    (h : ∀ (D : Addr) (doc pm : Value) (an : Option Addr) (cdv ct : Value) (us ws : List Value), us.length = n → ws.length = ks.length → bindArgs (PySem.W.fnOf x qual params body scope .none (.ref D) doc pm an cdv ct) ⟨us, ks.zip ws⟩ = pure (ps.zip (us ++ ws))) :
    KBn K fd ps n ks (fun us ws => us ++ ws) (fun vs zs => vs ++ zs) := by
  obtain ⟨mv, h2⟩ := F.kbinds0 (ps := ps) n ks [] (fun vs _ zs => vs ++ zs) hk (fun q hq => by cases hq) (fun h1 _ h3 => Paired.append h1 h3) (fun D doc pm an cdv ct us mv ws h1 h2 h3 => h D doc pm an cdv ct us ws h1 h3)
  exact h2
theorem FnGK.of0 {P : Program} {w : World} {K : PySem.W.Frag} {mg : Str → Option Value} {base : Heap} {k : Nat} {f : Addr} {C : CE} {G : List D → Store → Res D} {fd : FuncData} {ps ks : List Str} {n : Nat} (F : FnOk P w K mg base (L2.CX P w) k f fd ps (spG K C G)) (hb : KBn K fd ps n ks (fun us ws => us ++ ws) (fun vs zs => vs ++ zs)) :
    FnGK P w K mg base k f n ks C fun ds es m => G (ds ++ es) m :=
  FnGK.of F hb fun c ds vs es zs h1 h2 => Paired.append h1 h2
/-! ### a module's tuple of texts: where a text stands -/
def eTix (ys : List Str) (fe : DE) : DE := fun r m => (fe r m).bind fun d m => match d with
  | .str z => if z ∈ ys then .ok (.int (ys.idxOf z : Nat)) m else .bad
  | _ => .bad
theorem de_tix {X : Cx} {C : CE} {W : WX} {x : Str} {a : Addr} {ys : List Str} {p apos cpos : Pos} {e : Expr} {fe : DE} (hm : X.mg x = some (.ref a)) (ho : ∃ o, X.K.lookup a = some o ∧ o.cls = .type "tuple" ∧ o.dict = none) (hs : ∀ H, SqT X.K H a (ys.map V.str)) (he : PE X e (tE X.K C W fe)) (hg : Gl X x := by rfl) (hd : (x == ("__debug__" : Str)) = false := by decide)
    (hbase : attributeBase (.Name x p) "index" X.env (eval (.Name x p) X.env) = eval (.Name x p) X.env := by rfl)
    (hfew : ((backTo cpos (starEach (e :: []) X.env)).all (fun x => !x.1) && (backToKw cpos (keywordEach [] X.env)).all (fun x => x.1.isSome)
      && decide ((e :: []).length + ([] : List Keyword).length + (if ([] : List Keyword).isEmpty then 0 else 1) < 30)) = true := by rfl)
    (hline : (apos.endLine == cpos.line) = true := by rfl) (hst : starEach (e :: []) X.env = (false, eval e X.env) :: starEach [] X.env := by rfl) (hplain : (backTo cpos (starEach [] X.env)).any (·.1) = false := by rfl) :
    PE X (.Call (.Attribute (.Name x p) "index" apos) [e] [] cpos) (tE X.K C W (eTix ys fe)) :=
  PE.imp (pe_bm PySem.F.plainAttrs_tuple PySem.F.slot_tuple_index PySem.F.type_tuple_index mt_tup_index (pe_glob (v := .ref a) hg hm rfl hd) (pa_cons he pa_nil hst) hbase hfew hline hst hplain) fun σ H Q ⟨c, m, r, n, er, w⟩ => by
    refine ⟨.inr (.inl ⟨rfl, ho⟩), tE_bind n er w fun c1 d m1 v n1 x1 er1 q1 w1 => ?_⟩
    split at w1
    · rename_i z
      split at w1
      · rename_i hz
        cases q1
        refine ⟨a, ys, z, ys.idxOf z, rfl, rfl, hs _, ?_, fun k hk e => ?_, RW.now w1 n1.s (.int _)⟩
        · rw [List.getElem?_eq_getElem (List.idxOf_lt_length_of_mem hz)]
          exact congrArg some (List.getElem_idxOf _)
        · obtain ⟨hk2, e2⟩ := List.getElem?_eq_some_iff.mp e
          have := List.not_of_lt_findIdx (p := (· == z)) (xs := ys) hk
          simp [e2] at this
      · exact False.elim w1
    · exact False.elim w1
/-! ### o[i] by the class's own def -/
def eIxo (j : Nat) (G : List D → Store → Res D) (fa fb : DE) : DE := fun r m => (fa r m).bind fun d m => (fb r m).bind fun i m => match objD j d m with
  | some _ => noEx (G [d, i] m)
  | none => .bad
theorem FnG.bad {P : Program} {w : World} {K : PySem.W.Frag} {mg : Str → Option Value} {base : Heap} {k : Nat} {f : Addr} {C : CE} : FnG P w K mg base k f C fun _ _ => .bad := fun A outer s H us vs Q E _ _ _ ⟨_, _, _, _, _, w⟩ => w.elim
def eFs (fs : List (Str × D)) (f : Str) : DE := fun _ m => ofO m (fs.lookup f)
end DL
namespace DL
open PySem PySem.Spec PyProof.Rows L2

abbrev CL (P : Program) (w : World) (K : PySem.W.Frag) : CE := CC P w K CN
abbrev KZ (K : PySem.W.Frag) (mg : Str → Option Value) : Prop := Kt FT FN K mg
section
variable {P : Program} {w : World} {K : PySem.W.Frag} {mg : Str → Option Value} {base : Heap}
theorem zf_max (Z : KZ K mg) : mg "max" = none := Z.free 0 rfl
theorem zf_len (Z : KZ K mg) : mg "len" = none := Z.free 1 rfl
theorem zf_range (Z : KZ K mg) : mg "range" = none := Z.free 2 rfl
theorem zg_law_numbers (Z : KZ K mg) : mg "_law_numbers" = some (.ref (He.ga K "_law_numbers")) := Z.glo 3 rfl
theorem zkp_law_numbers (Z : KZ K mg) : PySem.W.keepIn K (.ref (He.ga K "_law_numbers")) = true := Z.keep 4 rfl
theorem zg_law_draw (Z : KZ K mg) : mg "_law_draw" = some (.ref (He.ga K "_law_draw")) := Z.glo 5 rfl
theorem zkp_law_draw (Z : KZ K mg) : PySem.W.keepIn K (.ref (He.ga K "_law_draw")) = true := Z.keep 6 rfl
theorem zf_str (Z : KZ K mg) : mg "str" = none := Z.free 7 rfl
theorem zg_law_sign (Z : KZ K mg) : mg "_law_sign" = some (.ref (He.ga K "_law_sign")) := Z.glo 8 rfl
theorem zkp_law_sign (Z : KZ K mg) : PySem.W.keepIn K (.ref (He.ga K "_law_sign")) = true := Z.keep 9 rfl
theorem zis_str_str (Z : KZ K mg) : PySem.W.kitOne K (.type "str") (.type "str") = some true := Z.isi 10 rfl
theorem zf_isinstance (Z : KZ K mg) : mg "isinstance" = none := Z.free 11 rfl
theorem zi_MAX_LETTERS (Z : KZ K mg) : ∃ t, mg "MAX_LETTERS" = some (.int 8 t) := Z.int 12 rfl
theorem zs_LOWERCASE (Z : KZ K mg) : ∃ t, mg "LOWERCASE" = some (.str "abcdefghijklmnopqrstuvwxyz" t) := Z.str 13 rfl
theorem zf_all (Z : KZ K mg) : mg "all" = none := Z.free 14 rfl
theorem zg_is_letters (Z : KZ K mg) : mg "is_letters" = some (.ref (He.ga K "is_letters")) := Z.glo 15 rfl
theorem zkp_is_letters (Z : KZ K mg) : PySem.W.keepIn K (.ref (He.ga K "is_letters")) = true := Z.keep 16 rfl
theorem zg_is_name (Z : KZ K mg) : mg "is_name" = some (.ref (He.ga K "is_name")) := Z.glo 17 rfl
theorem zkp_is_name (Z : KZ K mg) : PySem.W.keepIn K (.ref (He.ga K "is_name")) = true := Z.keep 18 rfl
theorem zc_Source (Z : KZ K mg) : Cls K ((CL P w K).a 2) := Z.cls 19 rfl
theorem zn_Source_own_parts (Z : KZ K mg) : NoAttr K ((CL P w K).a 2) "own_parts" := Z.noat 20 rfl
theorem zo_Source_contains (Z : KZ K mg) : PySem.W.findIn K (.ref ((CL P w K).a 2)) "__contains__" = some (some (.ref (He.ma K (He.ga K "Source") "__contains__"))) ∧ PySem.W.fnIn K (He.ma K (He.ga K "Source") "__contains__") = true ∧ PySem.W.isFn K (.ref (He.ma K (He.ga K "Source") "__contains__")) = true := Z.own 21 rfl
theorem zm_Source_require (Z : KZ K mg) : Meth K ((CL P w K).a 2) "require" (He.ma K (He.ga K "Source") "require") := Z.meth 22 rfl
theorem zn_Source_own_sizes (Z : KZ K mg) : NoAttr K ((CL P w K).a 2) "own_sizes" := Z.noat 23 rfl
theorem zm_Source_length (Z : KZ K mg) : Meth K ((CL P w K).a 2) "length" (He.ma K (He.ga K "Source") "length") := Z.meth 24 rfl
theorem zi_LEAST_RING (Z : KZ K mg) : ∃ t, mg "LEAST_RING" = some (.int 3 t) := Z.int 25 rfl
theorem zc_Line (Z : KZ K mg) : Cls K ((CL P w K).a 3) := Z.cls 26 rfl
theorem zn_Line_own_source (Z : KZ K mg) : NoAttr K ((CL P w K).a 3) "own_source" := Z.noat 27 rfl
theorem zn_Line_own_part (Z : KZ K mg) : NoAttr K ((CL P w K).a 3) "own_part" := Z.noat 28 rfl
theorem zn_Line_own_kind (Z : KZ K mg) : NoAttr K ((CL P w K).a 3) "own_kind" := Z.noat 29 rfl
theorem zs_START (Z : KZ K mg) : ∃ t, mg "START" = some (.str "start" t) := Z.str 30 rfl
theorem zs_DIGITS (Z : KZ K mg) : ∃ t, mg "DIGITS" = some (.str "0123456789" t) := Z.str 31 rfl
theorem zg_run_length (Z : KZ K mg) : mg "run_length" = some (.ref (He.ga K "run_length")) := Z.glo 32 rfl
theorem zkp_run_length (Z : KZ K mg) : PySem.W.keepIn K (.ref (He.ga K "run_length")) = true := Z.keep 33 rfl
theorem zg_tokens_of (Z : KZ K mg) : mg "tokens_of" = some (.ref (He.ga K "tokens_of")) := Z.glo 34 rfl
theorem zkp_tokens_of (Z : KZ K mg) : PySem.W.keepIn K (.ref (He.ga K "tokens_of")) = true := Z.keep 35 rfl
theorem zs_NUMBER (Z : KZ K mg) : ∃ t, mg "NUMBER" = some (.str "number" t) := Z.str 36 rfl
theorem zs_PART (Z : KZ K mg) : ∃ t, mg "PART" = some (.str "part" t) := Z.str 37 rfl
theorem zs_FREE (Z : KZ K mg) : ∃ t, mg "FREE" = some (.str "?" t) := Z.str 38 rfl
theorem zi_LENGTH (Z : KZ K mg) : ∃ t, mg "LENGTH" = some (.int 4 t) := Z.int 39 rfl
theorem zg_is_statement_text (Z : KZ K mg) : mg "is_statement_text" = some (.ref (He.ga K "is_statement_text")) := Z.glo 40 rfl
theorem zkp_is_statement_text (Z : KZ K mg) : PySem.W.keepIn K (.ref (He.ga K "is_statement_text")) = true := Z.keep 41 rfl
theorem zr_Statement (Z : KZ K mg) : ClX.CRead K ((CL P w K).a 0) (.type "type") := Z.rd 42 rfl
theorem zst_Statement_is_text (Z : KZ K mg) : SMet K ((CL P w K).a 0) (.type "type") "is_text" (He.ma K (He.ga K "Statement") "is_text") (He5.wf K (He.ga K "Statement") "staticmethod" "is_text") := Z.sta 43 rfl
theorem zg_Statement (Z : KZ K mg) : mg "Statement" = some (.ref ((CL P w K).a 0)) := Z.glo 44 rfl
theorem zg_is_person_text (Z : KZ K mg) : mg "is_person_text" = some (.ref (He.ga K "is_person_text")) := Z.glo 45 rfl
theorem zkp_is_person_text (Z : KZ K mg) : PySem.W.keepIn K (.ref (He.ga K "is_person_text")) = true := Z.keep 46 rfl
theorem zs_PERSON (Z : KZ K mg) : ∃ t, mg "PERSON" = some (.str "person" t) := Z.str 47 rfl
theorem zg_leaf_tree (Z : KZ K mg) : mg "leaf_tree" = some (.ref (He.ga K "leaf_tree")) := Z.glo 48 rfl
theorem zkp_leaf_tree (Z : KZ K mg) : PySem.W.keepIn K (.ref (He.ga K "leaf_tree")) = true := Z.keep 49 rfl
theorem zg_leaf_of_token (Z : KZ K mg) : mg "leaf_of_token" = some (.ref (He.ga K "leaf_of_token")) := Z.glo 50 rfl
theorem zkp_leaf_of_token (Z : KZ K mg) : PySem.W.keepIn K (.ref (He.ga K "leaf_of_token")) = true := Z.keep 51 rfl
theorem zg_state_behind (Z : KZ K mg) : mg "state_behind" = some (.ref (He.ga K "state_behind")) := Z.glo 52 rfl
theorem zkp_state_behind (Z : KZ K mg) : PySem.W.keepIn K (.ref (He.ga K "state_behind")) = true := Z.keep 53 rfl
theorem zs_JOIN (Z : KZ K mg) : ∃ t, mg "JOIN" = some (.str "join" t) := Z.str 54 rfl
theorem zf_sum (Z : KZ K mg) : mg "sum" = none := Z.free 55 rfl
theorem zf_tuple (Z : KZ K mg) : mg "tuple" = none := Z.free 56 rfl
theorem zg_tree_of (Z : KZ K mg) : mg "tree_of" = some (.ref (He.ga K "tree_of")) := Z.glo 57 rfl
theorem zkp_tree_of (Z : KZ K mg) : PySem.W.keepIn K (.ref (He.ga K "tree_of")) = true := Z.keep 58 rfl
theorem zg_closed_group (Z : KZ K mg) : mg "closed_group" = some (.ref (He.ga K "closed_group")) := Z.glo 59 rfl
theorem zkp_closed_group (Z : KZ K mg) : PySem.W.keepIn K (.ref (He.ga K "closed_group")) = true := Z.keep 60 rfl
theorem zg_read_tree (Z : KZ K mg) : mg "read_tree" = some (.ref (He.ga K "read_tree")) := Z.glo 61 rfl
theorem zkp_read_tree (Z : KZ K mg) : PySem.W.keepIn K (.ref (He.ga K "read_tree")) = true := Z.keep 62 rfl
theorem zi_MAX_NODES (Z : KZ K mg) : ∃ t, mg "MAX_NODES" = some (.int 500 t) := Z.int 63 rfl
theorem zi_MAX_LEVELS_expressions (Z : KZ K mg) : ∃ t, mg "MAX_LEVELS_expressions" = some (.int 30 t) := Z.int 64 rfl
theorem zg_require_measures (Z : KZ K mg) : mg "require_measures" = some (.ref (He.ga K "require_measures")) := Z.glo 65 rfl
theorem zkp_require_measures (Z : KZ K mg) : PySem.W.keepIn K (.ref (He.ga K "require_measures")) = true := Z.keep 66 rfl
theorem zg_expression_of (Z : KZ K mg) : mg "expression_of" = some (.ref (He.ga K "expression_of")) := Z.glo 67 rfl
theorem zkp_expression_of (Z : KZ K mg) : PySem.W.keepIn K (.ref (He.ga K "expression_of")) = true := Z.keep 68 rfl
theorem zc_Expression (Z : KZ K mg) : Cls K ((CL P w K).a 1) := Z.cls 69 rfl
theorem zn_Expression_own_kind (Z : KZ K mg) : NoAttr K ((CL P w K).a 1) "own_kind" := Z.noat 70 rfl
theorem zf_list (Z : KZ K mg) : mg "list" = none := Z.free 71 rfl
theorem zn_Expression_own_parts (Z : KZ K mg) : NoAttr K ((CL P w K).a 1) "own_parts" := Z.noat 72 rfl
theorem zn_Expression_own_times (Z : KZ K mg) : NoAttr K ((CL P w K).a 1) "own_times" := Z.noat 73 rfl
theorem zn_Expression_own_nodes (Z : KZ K mg) : NoAttr K ((CL P w K).a 1) "own_nodes" := Z.noat 74 rfl
theorem zp_Expression_nodes (Z : KZ K mg) : PropOf K ((CL P w K).a 1) "nodes" (He.ma K (He.ga K "Expression") "nodes") (He5.wf K (He.ga K "Expression") "property" "nodes") := Z.prp 75 rfl
theorem zn_Expression_own_levels (Z : KZ K mg) : NoAttr K ((CL P w K).a 1) "own_levels" := Z.noat 76 rfl
theorem zm_Expression_levels (Z : KZ K mg) : Meth K ((CL P w K).a 1) "levels" (He.ma K (He.ga K "Expression") "levels") := Z.meth 77 rfl
theorem zs_NAME (Z : KZ K mg) : ∃ t, mg "NAME" = some (.str "name" t) := Z.str 78 rfl
theorem zp_Expression_kind (Z : KZ K mg) : PropOf K ((CL P w K).a 1) "kind" (He.ma K (He.ga K "Expression") "kind") (He5.wf K (He.ga K "Expression") "property" "kind") := Z.prp 79 rfl
theorem zn_Expression_own_text (Z : KZ K mg) : NoAttr K ((CL P w K).a 1) "own_text" := Z.noat 80 rfl
theorem zp_Expression_text (Z : KZ K mg) : PropOf K ((CL P w K).a 1) "text" (He.ma K (He.ga K "Expression") "text") (He5.wf K (He.ga K "Expression") "property" "text") := Z.prp 81 rfl
theorem zg_enclosed_text (Z : KZ K mg) : mg "enclosed_text" = some (.ref (He.ga K "enclosed_text")) := Z.glo 82 rfl
theorem zkp_enclosed_text (Z : KZ K mg) : PySem.W.keepIn K (.ref (He.ga K "enclosed_text")) = true := Z.keep 83 rfl
theorem zg_text_of_parts (Z : KZ K mg) : mg "text_of_parts" = some (.ref (He.ga K "text_of_parts")) := Z.glo 84 rfl
theorem zkp_text_of_parts (Z : KZ K mg) : PySem.W.keepIn K (.ref (He.ga K "text_of_parts")) = true := Z.keep 85 rfl
theorem zk_Expression (Z : KZ K mg) : Mk K ((CL P w K).a 1) (He.ma K (He.ga K "Expression") "__init__") := Z.mkr 86 rfl
theorem zg_Expression (Z : KZ K mg) : mg "Expression" = some (.ref ((CL P w K).a 1)) := Z.glo 87 rfl
theorem zr_Expression (Z : KZ K mg) : ClX.CRead K ((CL P w K).a 1) (.type "type") := Z.rd 88 rfl
theorem zcm_Expression_read (Z : KZ K mg) : ClX.CMet K ((CL P w K).a 1) (.type "type") "read" (He.ma K (He.ga K "Expression") "read") (He5.wf K (He.ga K "Expression") "classmethod" "read") := Z.clm 89 rfl
theorem zis_dict_dict (Z : KZ K mg) : PySem.W.kitOne K (.type "dict") (.type "dict") = some true := Z.isi 90 rfl
theorem zf_dict (Z : KZ K mg) : mg "dict" = none := Z.free 91 rfl
theorem zi_MAX_NAMES (Z : KZ K mg) : ∃ t, mg "MAX_NAMES" = some (.int 60 t) := Z.int 92 rfl
theorem zis_Expression_Expression (Z : KZ K mg) : PySem.W.kitOne K (.ref ((CL P w K).a 1)) (.ref ((CL P w K).a 1)) = some true := Z.isi 93 rfl
theorem zkit_Expression (Z : KZ K mg) : KitF K (CL P w K) 1 := Z.kit 94 rfl rfl
theorem zg_is_definitions (Z : KZ K mg) : mg "is_definitions" = some (.ref (He.ga K "is_definitions")) := Z.glo 95 rfl
theorem zkp_is_definitions (Z : KZ K mg) : PySem.W.keepIn K (.ref (He.ga K "is_definitions")) = true := Z.keep 96 rfl
theorem zf_sorted (Z : KZ K mg) : mg "sorted" = none := Z.free 97 rfl
theorem zm_Expression_names (Z : KZ K mg) : Meth K ((CL P w K).a 1) "names" (He.ma K (He.ga K "Expression") "names") := Z.meth 98 rfl
theorem zn_Source_own_links (Z : KZ K mg) : NoAttr K ((CL P w K).a 2) "own_links" := Z.noat 99 rfl
theorem zg_reached_from (Z : KZ K mg) : mg "reached_from" = some (.ref (He.ga K "reached_from")) := Z.glo 100 rfl
theorem zkp_reached_from (Z : KZ K mg) : PySem.W.keepIn K (.ref (He.ga K "reached_from")) = true := Z.keep 101 rfl
theorem zg_ordered_names (Z : KZ K mg) : mg "ordered_names" = some (.ref (He.ga K "ordered_names")) := Z.glo 102 rfl
theorem zkp_ordered_names (Z : KZ K mg) : PySem.W.keepIn K (.ref (He.ga K "ordered_names")) = true := Z.keep 103 rfl
theorem zn_Source_own_order (Z : KZ K mg) : NoAttr K ((CL P w K).a 2) "own_order" := Z.noat 104 rfl
theorem zm_Expression_parts (Z : KZ K mg) : Meth K ((CL P w K).a 1) "parts" (He.ma K (He.ga K "Expression") "parts") := Z.meth 105 rfl
theorem zg_persons_within (Z : KZ K mg) : mg "persons_within" = some (.ref (He.ga K "persons_within")) := Z.glo 106 rfl
theorem zkp_persons_within (Z : KZ K mg) : PySem.W.keepIn K (.ref (He.ga K "persons_within")) = true := Z.keep 107 rfl
theorem zs_REPEAT (Z : KZ K mg) : ∃ t, mg "REPEAT" = some (.str "repeat" t) := Z.str 108 rfl
theorem zg_all_lengths (Z : KZ K mg) : mg "all_lengths" = some (.ref (He.ga K "all_lengths")) := Z.glo 109 rfl
theorem zkp_all_lengths (Z : KZ K mg) : PySem.W.keepIn K (.ref (He.ga K "all_lengths")) = true := Z.keep 110 rfl
theorem zi_MAX_SIZE (Z : KZ K mg) : ∃ t, mg "MAX_SIZE" = some (.int 1000000000000000000000000000000000000000000000000000000000000 t) := Z.int 111 rfl
theorem zf_any (Z : KZ K mg) : mg "any" = none := Z.free 112 rfl
theorem zg_levels_of (Z : KZ K mg) : mg "levels_of" = some (.ref (He.ga K "levels_of")) := Z.glo 113 rfl
theorem zkp_levels_of (Z : KZ K mg) : PySem.W.keepIn K (.ref (He.ga K "levels_of")) = true := Z.keep 114 rfl
theorem zg_all_levels (Z : KZ K mg) : mg "all_levels" = some (.ref (He.ga K "all_levels")) := Z.glo 115 rfl
theorem zkp_all_levels (Z : KZ K mg) : PySem.W.keepIn K (.ref (He.ga K "all_levels")) = true := Z.keep 116 rfl
theorem zi_MAX_LEVELS_sources (Z : KZ K mg) : ∃ t, mg "MAX_LEVELS_sources" = some (.int 200 t) := Z.int 117 rfl
theorem zk_Source (Z : KZ K mg) : Mk K ((CL P w K).a 2) (He.ma K (He.ga K "Source") "__init__") := Z.mkr 118 rfl
theorem zg_Source (Z : KZ K mg) : mg "Source" = some (.ref ((CL P w K).a 2)) := Z.glo 119 rfl
theorem zk_Line (Z : KZ K mg) : Mk K ((CL P w K).a 3) (He.ma K (He.ga K "Line") "__init__") := Z.mkr 120 rfl
theorem zr_Line (Z : KZ K mg) : ClX.CRead K ((CL P w K).a 3) (.type "type") := Z.rd 121 rfl
theorem zcm_Line_of_text (Z : KZ K mg) : ClX.CMet K ((CL P w K).a 3) (.type "type") "of_text" (He.ma K (He.ga K "Line") "of_text") (He5.wf K (He.ga K "Line") "classmethod" "of_text") := Z.clm 122 rfl
theorem zg_Line (Z : KZ K mg) : mg "Line" = some (.ref ((CL P w K).a 3)) := Z.glo 123 rfl
theorem zg_law_line (Z : KZ K mg) : mg "_law_line" = some (.ref (He.ga K "_law_line")) := Z.glo 124 rfl
theorem zkp_law_line (Z : KZ K mg) : PySem.W.keepIn K (.ref (He.ga K "_law_line")) = true := Z.keep 125 rfl
theorem zp_Line_size (Z : KZ K mg) : PropOf K ((CL P w K).a 3) "size" (He.ma K (He.ga K "Line") "size") (He5.wf K (He.ga K "Line") "property" "size") := Z.prp 126 rfl
theorem zi_MAX_PERSONS (Z : KZ K mg) : ∃ t, mg "MAX_PERSONS" = some (.int 400 t) := Z.int 127 rfl
theorem zg_require_size (Z : KZ K mg) : mg "require_size" = some (.ref (He.ga K "require_size")) := Z.glo 128 rfl
theorem zkp_require_size (Z : KZ K mg) : PySem.W.keepIn K (.ref (He.ga K "require_size")) = true := Z.keep 129 rfl
theorem zis_int_int (Z : KZ K mg) : PySem.W.kitOne K (.type "int") (.type "int") = some true := Z.isi 130 rfl
theorem zf_int (Z : KZ K mg) : mg "int" = none := Z.free 131 rfl
theorem zis_int_bool (Z : KZ K mg) : PySem.W.kitOne K (.type "int") (.type "bool") = some false := Z.isi 132 rfl
theorem zf_bool (Z : KZ K mg) : mg "bool" = none := Z.free 133 rfl
theorem zg_is_integer (Z : KZ K mg) : mg "is_integer" = some (.ref (He.ga K "is_integer")) := Z.glo 134 rfl
theorem zkp_is_integer (Z : KZ K mg) : PySem.W.keepIn K (.ref (He.ga K "is_integer")) = true := Z.keep 135 rfl
theorem zg_is_between (Z : KZ K mg) : mg "is_between" = some (.ref (He.ga K "is_between")) := Z.glo 136 rfl
theorem zkp_is_between (Z : KZ K mg) : PySem.W.keepIn K (.ref (He.ga K "is_between")) = true := Z.keep 137 rfl
theorem zg_is_person (Z : KZ K mg) : mg "is_person" = some (.ref (He.ga K "is_person")) := Z.glo 138 rfl
theorem zkp_is_person (Z : KZ K mg) : PySem.W.keepIn K (.ref (He.ga K "is_person")) = true := Z.keep 139 rfl
theorem zt_LETTERS_statements (Z : KZ K mg) : mg "LETTERS_statements" = some (.ref (He.ga K "LETTERS_statements")) ∧ ∀ H, SqT K H (He.ga K "LETTERS_statements") [(.str "T"), (.str "L")] := Z.tup 140 rfl
theorem zg_is_letter (Z : KZ K mg) : mg "is_letter" = some (.ref (He.ga K "is_letter")) := Z.glo 141 rfl
theorem zkp_is_letter (Z : KZ K mg) : PySem.W.keepIn K (.ref (He.ga K "is_letter")) = true := Z.keep 142 rfl
theorem zg_is_facts (Z : KZ K mg) : mg "is_facts" = some (.ref (He.ga K "is_facts")) := Z.glo 143 rfl
theorem zkp_is_facts (Z : KZ K mg) : PySem.W.keepIn K (.ref (He.ga K "is_facts")) = true := Z.keep 144 rfl
theorem zp_Line_source (Z : KZ K mg) : PropOf K ((CL P w K).a 3) "source" (He.ma K (He.ga K "Line") "source") (He5.wf K (He.ga K "Line") "property" "source") := Z.prp 145 rfl
theorem zp_Line_part (Z : KZ K mg) : PropOf K ((CL P w K).a 3) "part" (He.ma K (He.ga K "Line") "part") (He5.wf K (He.ga K "Line") "property" "part") := Z.prp 146 rfl
theorem zm_Source_uses (Z : KZ K mg) : Meth K ((CL P w K).a 2) "uses" (He.ma K (He.ga K "Source") "uses") := Z.meth 147 rfl
theorem zm_Source_order (Z : KZ K mg) : Meth K ((CL P w K).a 2) "order" (He.ma K (He.ga K "Source") "order") := Z.meth 148 rfl
theorem zo_Source_getitem (Z : KZ K mg) : PySem.W.findIn K (.ref ((CL P w K).a 2)) "__getitem__" = some (some (.ref (He.ma K (He.ga K "Source") "__getitem__"))) ∧ PySem.W.fnIn K (He.ma K (He.ga K "Source") "__getitem__") = true ∧ PySem.W.isFn K (.ref (He.ma K (He.ga K "Source") "__getitem__")) = true := Z.own 149 rfl
theorem zc_Statement (Z : KZ K mg) : Cls K ((CL P w K).a 0) := Z.cls 150 rfl
theorem zn_Statement_own_text (Z : KZ K mg) : NoAttr K ((CL P w K).a 0) "own_text" := Z.noat 151 rfl
theorem zk_Statement (Z : KZ K mg) : Mk K ((CL P w K).a 0) (He.ma K (He.ga K "Statement") "__init__") := Z.mkr 152 rfl
theorem zp_Expression_statement (Z : KZ K mg) : PropOf K ((CL P w K).a 1) "statement" (He.ma K (He.ga K "Expression") "statement") (He5.wf K (He.ga K "Expression") "property" "statement") := Z.prp 153 rfl
theorem zg_written_out (Z : KZ K mg) : mg "written_out" = some (.ref (He.ga K "written_out")) := Z.glo 154 rfl
theorem zkp_written_out (Z : KZ K mg) : PySem.W.keepIn K (.ref (He.ga K "written_out")) = true := Z.keep 155 rfl
theorem zs_MIRROR (Z : KZ K mg) : ∃ t, mg "MIRROR" = some (.str "mirror" t) := Z.str 156 rfl
theorem zg_persons_of (Z : KZ K mg) : mg "persons_of" = some (.ref (He.ga K "persons_of")) := Z.glo 157 rfl
theorem zkp_persons_of (Z : KZ K mg) : PySem.W.keepIn K (.ref (He.ga K "persons_of")) = true := Z.keep 158 rfl
theorem zp_Line_is_ring (Z : KZ K mg) : PropOf K ((CL P w K).a 3) "is_ring" (He.ma K (He.ga K "Line") "is_ring") (He5.wf K (He.ga K "Line") "property" "is_ring") := Z.prp 159 rfl
theorem zt_PAIRS (Z : KZ K mg) : mg "PAIRS" = some (.ref (He.ga K "PAIRS")) ∧ ∀ H, SqT K H (He.ga K "PAIRS") [(.str "TT"), (.str "TL"), (.str "LT"), (.str "LL")] := Z.tup 160 rfl
theorem zt_ROW_STARTS (Z : KZ K mg) : mg "ROW_STARTS" = some (.ref (He.ga K "ROW_STARTS")) ∧ ∀ H, SqT K H (He.ga K "ROW_STARTS") [(.str "TT"), (.str "TL")] := Z.tup 161 rfl
theorem zt_ROW_ENDS (Z : KZ K mg) : mg "ROW_ENDS" = some (.ref (He.ga K "ROW_ENDS")) ∧ ∀ H, SqT K H (He.ga K "ROW_ENDS") [(.str "TT"), (.str "LT")] := Z.tup 162 rfl
theorem zg_ends_of (Z : KZ K mg) : mg "ends_of" = some (.ref (He.ga K "ends_of")) := Z.glo 163 rfl
theorem zkp_ends_of (Z : KZ K mg) : PySem.W.keepIn K (.ref (He.ga K "ends_of")) = true := Z.keep 164 rfl
theorem zg_allows_pair (Z : KZ K mg) : mg "allows_pair" = some (.ref (He.ga K "allows_pair")) := Z.glo 165 rfl
theorem zkp_allows_pair (Z : KZ K mg) : PySem.W.keepIn K (.ref (He.ga K "allows_pair")) = true := Z.keep 166 rfl
theorem zf_enumerate (Z : KZ K mg) : mg "enumerate" = none := Z.free 167 rfl
theorem zt_LETTERS_tables (Z : KZ K mg) : mg "LETTERS_tables" = some (.ref (He.ga K "LETTERS_tables")) ∧ ∀ H, SqT K H (He.ga K "LETTERS_tables") [(.str "T"), (.str "L")] := Z.tup 168 rfl
theorem zto_PAIRS (Z : KZ K mg) : ∃ o, K.lookup (He.ga K "PAIRS") = some o ∧ o.cls = .type "tuple" ∧ o.dict = none := Z.tpo 169 rfl
theorem zo_Statement_contains (Z : KZ K mg) : PySem.W.findIn K (.ref ((CL P w K).a 0)) "__contains__" = some (some (.ref (He.ma K (He.ga K "Statement") "__contains__"))) ∧ PySem.W.fnIn K (He.ma K (He.ga K "Statement") "__contains__") = true ∧ PySem.W.isFn K (.ref (He.ma K (He.ga K "Statement") "__contains__")) = true := Z.own 170 rfl
theorem zg_does_fit (Z : KZ K mg) : mg "does_fit" = some (.ref (He.ga K "does_fit")) := Z.glo 171 rfl
theorem zkp_does_fit (Z : KZ K mg) : PySem.W.keepIn K (.ref (He.ga K "does_fit")) = true := Z.keep 172 rfl
theorem zg_next_pairs (Z : KZ K mg) : mg "next_pairs" = some (.ref (He.ga K "next_pairs")) := Z.glo 173 rfl
theorem zkp_next_pairs (Z : KZ K mg) : PySem.W.keepIn K (.ref (He.ga K "next_pairs")) = true := Z.keep 174 rfl
theorem zg_reached_pairs (Z : KZ K mg) : mg "reached_pairs" = some (.ref (He.ga K "reached_pairs")) := Z.glo 175 rfl
theorem zkp_reached_pairs (Z : KZ K mg) : PySem.W.keepIn K (.ref (He.ga K "reached_pairs")) = true := Z.keep 176 rfl
theorem zg_led_pairs (Z : KZ K mg) : mg "led_pairs" = some (.ref (He.ga K "led_pairs")) := Z.glo 177 rfl
theorem zkp_led_pairs (Z : KZ K mg) : PySem.W.keepIn K (.ref (He.ga K "led_pairs")) = true := Z.keep 178 rfl
theorem zg_possible_letters (Z : KZ K mg) : mg "possible_letters" = some (.ref (He.ga K "possible_letters")) := Z.glo 179 rfl
theorem zkp_possible_letters (Z : KZ K mg) : PySem.W.keepIn K (.ref (He.ga K "possible_letters")) = true := Z.keep 180 rfl
theorem zs_UNKNOWN (Z : KZ K mg) : ∃ t, mg "UNKNOWN" = some (.str "?" t) := Z.str 181 rfl
theorem zg_known_text (Z : KZ K mg) : mg "known_text" = some (.ref (He.ga K "known_text")) := Z.glo 182 rfl
theorem zkp_known_text (Z : KZ K mg) : PySem.W.keepIn K (.ref (He.ga K "known_text")) = true := Z.keep 183 rfl
theorem zg_known (Z : KZ K mg) : mg "known" = some (.ref (He.ga K "known")) := Z.glo 184 rfl
theorem zkp_known (Z : KZ K mg) : PySem.W.keepIn K (.ref (He.ga K "known")) = true := Z.keep 185 rfl
theorem zc_Supposing (Z : KZ K mg) : Cls K ((CL P w K).a 4) := Z.cls 186 rfl
theorem zn_Supposing_own_line (Z : KZ K mg) : NoAttr K ((CL P w K).a 4) "own_line" := Z.noat 187 rfl
theorem zn_Supposing_own_facts (Z : KZ K mg) : NoAttr K ((CL P w K).a 4) "own_facts" := Z.noat 188 rfl
theorem zk_Supposing (Z : KZ K mg) : Mk K ((CL P w K).a 4) (He.ma K (He.ga K "Supposing") "__init__") := Z.mkr 189 rfl
theorem zg_Supposing (Z : KZ K mg) : mg "Supposing" = some (.ref ((CL P w K).a 4)) := Z.glo 190 rfl
theorem zg_told_by (Z : KZ K mg) : mg "told_by" = some (.ref (He.ga K "told_by")) := Z.glo 191 rfl
theorem zkp_told_by (Z : KZ K mg) : PySem.W.keepIn K (.ref (He.ga K "told_by")) = true := Z.keep 192 rfl
theorem zm_Supposing_known (Z : KZ K mg) : Meth K ((CL P w K).a 4) "known" (He.ma K (He.ga K "Supposing") "known") := Z.meth 193 rfl
theorem zm_Supposing_release (Z : KZ K mg) : Meth K ((CL P w K).a 4) "release" (He.ma K (He.ga K "Supposing") "release") := Z.meth 194 rfl
theorem zg_law_stated (Z : KZ K mg) : mg "_law_stated" = some (.ref (He.ga K "_law_stated")) := Z.glo 195 rfl
theorem zkp_law_stated (Z : KZ K mg) : PySem.W.keepIn K (.ref (He.ga K "_law_stated")) = true := Z.keep 196 rfl
theorem zg_law_same (Z : KZ K mg) : mg "_law_same" = some (.ref (He.ga K "_law_same")) := Z.glo 197 rfl
theorem zkp_law_same (Z : KZ K mg) : PySem.W.keepIn K (.ref (He.ga K "_law_same")) = true := Z.keep 198 rfl
theorem zx_NoWay (Z : KZ K mg) : ∃ fI, ExcT K mg "NoWay" "NoWay.__init__" ((CL P w K).a 5) fI "RuntimeError.__new__" ex_RuntimeError := by
  obtain ⟨fd, F⟩ := Z.fun_ 0 (d := d_NoWay_init) rfl
  exact ⟨_, Z.exc 199 rfl F rfl⟩
theorem zm_Supposing_suppose (Z : KZ K mg) : Meth K ((CL P w K).a 4) "suppose" (He.ma K (He.ga K "Supposing") "suppose") := Z.meth 200 rfl
theorem zf_repr (Z : KZ K mg) : mg "repr" = none := Z.free 201 rfl
theorem zxn_NoWay (Z : KZ K mg) : PySem.W.findIn K (.ref ((CL P w K).a 5)) "value" = some none := Z.noat 202 rfl
theorem zg_NoWay (Z : KZ K mg) : mg "NoWay" = some (.ref ((CL P w K).a 5)) := Z.glo 203 rfl
theorem ze_NoWay_NoWay (Z : KZ K mg) : PySem.W.exmOne K (.ref ((CL P w K).a 5)) (.ref ((CL P w K).a 5)) = some true := Z.exm 204 rfl
theorem zg_law_supposed (Z : KZ K mg) : mg "_law_supposed" = some (.ref (He.ga K "_law_supposed")) := Z.glo 205 rfl
theorem zkp_law_supposed (Z : KZ K mg) : PySem.W.keepIn K (.ref (He.ga K "_law_supposed")) = true := Z.keep 206 rfl
theorem zg_law_next (Z : KZ K mg) : mg "_law_next" = some (.ref (He.ga K "_law_next")) := Z.glo 207 rfl
theorem zkp_law_next (Z : KZ K mg) : PySem.W.keepIn K (.ref (He.ga K "_law_next")) = true := Z.keep 208 rfl
theorem zm_Supposing_facts (Z : KZ K mg) : Meth K ((CL P w K).a 4) "facts" (He.ma K (He.ga K "Supposing") "facts") := Z.meth 209 rfl
theorem zg_law (Z : KZ K mg) : mg "law" = some (.ref (He.ga K "law")) := Z.glo 210 rfl
/-! _law_numbers -/
theorem sc_law_numbers : FnScope ["_law_cell", "_law_salt", "_law_sizes", "_law_number", "_law_left", "_law_result", "_law_k", "_law_one"] ["_law_cell", "_law_salt", "_law_sizes"] (defScope (top 110)) := ⟨rfl, rfl, rfl, by decide +kernel, rfl, by decide +kernel, by decide +kernel⟩
noncomputable def S_law_numbers (C : CE) : DS :=
  sCons (sSet 3 (eCB fMax (aCons (eVar 0) (aCons (eBin dSub (eNeg (eC (.int 1))) (eVar 0)) (aNil))))) <|
  sCons (sSet 4 (eVar 3)) <|
  sCons (sSet 5 (eNewL (aNil))) <|
  sCons (sFor (iRange1 (aCons (eCB fLen (aCons (eVar 2) (aNil))) (aNil))) (gName 6) (sIf (eAnd (eTest (eBin dGe (eVar 3) (eBin dPow (eC (.int 10)) (eC (.int 18))))) (eTest (eBin dGt (eVar 4) (eC (.int 0))))) (sCons (sExpr (eOnL appD (eVar 5) (eBin dMod (eVar 4) (eBin dIx (eVar 2) (eVar 6))))) <|
      sSet 4 (eBin dDiv (eVar 4) (eBin dIx (eVar 2) (eVar 6)))) (sCons (sSet 7 (eBin dMod (eBin dPow (eBin dAdd (eBin dAdd (eBin dMod (eVar 3) (eC (.int 2147483629))) (eBin dMul (eC (.int 7919)) (eVar 1))) (eC (.int 1))) (eC (.int 3))) (eC (.int 2147483647)))) <|
      sCons (sSet 7 (eBin dMod (eBin dMul (eBin dAdd (eVar 7) (eBin dMul (eC (.int 104729)) (eBin dAdd (eVar 6) (eC (.int 1))))) (eBin dAdd (eVar 6) (eC (.int 3)))) (eC (.int 2147483629)))) <|
      sCons (sSet 7 (eBin dMod (eBin dMul (eBin dMod (eBin dPow (eVar 7) (eC (.int 5))) (eC (.int 2147483647))) (eC (.int 48271))) (eC (.int 2147483629)))) <|
      sExpr (eOnL appD (eVar 5) (eBin dMod (eBin dDiv (eVar 7) (eC (.int 16))) (eBin dIx (eVar 2) (eVar 6))))))) <|
  thawS 5 (sRet (eVar 5))
noncomputable def G_law_numbers (C : CE) : List D → Store → Res D := fun ds m => if ds.length = 3 then runB (S_law_numbers C) (startD 8 ds) m else .bad
noncomputable def GP_law_numbers (C : CE) : List D → Store → Res D := fun ds m => popR m (G_law_numbers C ds m)
theorem g_law_numbers (Z : KZ K mg) : GoodP P w K mg base 1 (He.ga K "_law_numbers") ["_law_cell", "_law_salt", "_law_sizes"] (CL P w K) (G_law_numbers (CL P w K)) := by
  obtain ⟨fd, F⟩ := Z.fun_ 1 (d := d_law_numbers) rfl
  have F : FunD K "_law_numbers" "_law_numbers" (defArgs (top 110)) (defBody (top 110)) (defScope (top 110)) [] [] (He.ga K "_law_numbers") fd := F
  have Sc := sc_law_numbers
  refine ⟨fd, fnD (k := 0) (S := S_law_numbers (CL P w K)) F Sc (fun _ _ => rfl) fun cdv A outer s H E hr W tk hp => ?_, F.bindsN fun _ _ _ _ _ _ us hl => match us, hl with | [_, _, _], _ => rfl⟩
  exact
    ds_cons (ds_set Sc.nd (de_cb (cr_maxD rfl) cd_max (zf_max Z) (da_cons (de_var 0) (da_cons (de_sub (de_neg (de_int)) (de_var 0)) (da_nil))))) <|
  ds_cons (ds_set Sc.nd (de_var 3)) <|
  ds_cons (ds_set Sc.nd (de_newL (da_nil))) <|
  ds_cons (ds_for hp rfl (di_range1 (da_cons (de_cb cr_lenD cd_len (zf_len Z) (da_cons (de_var 2) (da_nil))) (da_nil)) (zf_range Z)) (dg_name Sc.nd) (ds_one (ds_if (PW.pt (dw_and (dt_cmp (op_ge) od_cmp (de_var 3) (de_pow (de_int) (de_int)) (nomark _)) (dw_and1 (dt_cmp (op_gt) od_cmp (de_var 4) (de_int) (nomark _))))) (ds_cons (ds_expr (de_append (de_var 5) (de_mod (de_var 4) (de_ix (hu1 hr) (de_var 2) (de_var 6))))) <|
      ds_one (ds_set Sc.nd (de_div (de_var 4) (de_ix (hu1 hr) (de_var 2) (de_var 6))))) (ds_cons (ds_set Sc.nd (de_mod (de_pow (de_add (de_add (de_mod (de_var 3) (de_int)) (de_mul (de_int) (de_var 1))) (de_int)) (de_int)) (de_int))) <|
      ds_cons (ds_set Sc.nd (de_mod (de_mul (de_add (de_var 7) (de_mul (de_int) (de_add (de_var 6) (de_int)))) (de_add (de_var 6) (de_int))) (de_int))) <|
      ds_cons (ds_set Sc.nd (de_mod (de_mul (de_mod (de_pow (de_var 7) (de_int)) (de_int)) (de_int)) (de_int))) <|
      ds_one (ds_expr (de_append (de_var 5) (de_mod (de_div (de_var 7) (de_int)) (de_ix (hu1 hr) (de_var 2) (de_var 6))))))))) <|
  dss_thaw 5 (ds_one (ds_ret (de_var 5)))
/-! _law_draw -/
theorem sc_law_draw : FnScope ["_law_state", "_law_many", "_law_at"] ["_law_state", "_law_many"] (defScope (top 111)) := ⟨rfl, rfl, rfl, by decide +kernel, rfl, by decide +kernel, by decide +kernel⟩
noncomputable def S_law_draw (C : CE) : DS :=
  sCons (sSet 2 (eBin dIx (eVar 0) (eC (.int 1)))) <|
  sCons (sPut (eVar 0) (eC (.int 1)) (eBin dAdd (eVar 2) (eC (.int 1)))) <|
  sRet (eIf (eTest (eBin dLt (eVar 2) (eCB fLen (aCons (eBin dIx (eVar 0) (eC (.int 0))) (aNil))))) (eBin dMod (eBin dIx (eBin dIx (eVar 0) (eC (.int 0))) (eVar 2)) (eVar 1)) (eC (.int 0)))
noncomputable def G_law_draw (C : CE) : List D → Store → Res D := fun ds m => if ds.length = 2 then runB (S_law_draw C) (startD 3 ds) m else .bad
theorem g_law_draw (Z : KZ K mg) : GoodP P w K mg base 1 (He.ga K "_law_draw") ["_law_state", "_law_many"] (CL P w K) (G_law_draw (CL P w K)) := by
  obtain ⟨fd, F⟩ := Z.fun_ 2 (d := d_law_draw) rfl
  have F : FunD K "_law_draw" "_law_draw" (defArgs (top 111)) (defBody (top 111)) (defScope (top 111)) [] [] (He.ga K "_law_draw") fd := F
  have Sc := sc_law_draw
  refine ⟨fd, fnD (k := 0) (S := S_law_draw (CL P w K)) F Sc (fun _ _ => rfl) fun cdv A outer s H E hr W tk hp => ?_, F.bindsN fun _ _ _ _ _ _ us hl => match us, hl with | [_, _], _ => rfl⟩
  exact
    ds_cons (ds_set Sc.nd (de_ix (hu1 hr) (de_var 0) (de_int))) <|
  ds_cons (ds_put (hu1 hr) (de_var 0) (de_int) (de_add (de_var 2) (de_int))) <|
  ds_one (ds_ret (de_if (dt_cmp (op_lt) od_cmp (de_var 2) (de_cb cr_lenD cd_len (zf_len Z) (da_cons (de_ix (hu1 hr) (de_var 0) (de_int)) (da_nil))) (nomark _)) (de_mod (de_ix (hu1 hr) (de_ix (hu1 hr) (de_var 0) (de_int)) (de_var 2)) (de_var 1)) (de_int)))
/-! _law_sign -/
theorem sc_law_sign : FnScope ["_law_state", "_law_number", "_law_size"] ["_law_state"] (defScope (top 112)) := ⟨rfl, rfl, rfl, by decide +kernel, rfl, by decide +kernel, by decide +kernel⟩
noncomputable def S_law_sign (C : CE) : DS :=
  sCons (sSet 1 (eCall (G_law_draw C) (aCons (eVar 0) (aCons (eC (.int 16)) (aNil))))) <|
  sRet (eM1 dJoin (eC (.str "")) (eLc [2] (iSeq (eLst (aCons (eC (.int 8)) (aCons (eC (.int 4)) (aCons (eC (.int 2)) (aCons (eC (.int 1)) (aNil))))))) (gName 2) (dTrue) (eCB fStr (aCons (eBin dMod (eBin dDiv (eVar 1) (eVar 2)) (eC (.int 2))) (aNil)))))
noncomputable def G_law_sign (C : CE) : List D → Store → Res D := fun ds m => if ds.length = 1 then runB (S_law_sign C) (startD 3 ds) m else .bad
theorem g_law_sign (Z : KZ K mg) : GoodP P w K mg base 2 (He.ga K "_law_sign") ["_law_state"] (CL P w K) (G_law_sign (CL P w K)) := by
  obtain ⟨fd, F⟩ := Z.fun_ 3 (d := d_law_sign) rfl
  have F : FunD K "_law_sign" "_law_sign" (defArgs (top 112)) (defBody (top 112)) (defScope (top 112)) [] [] (He.ga K "_law_sign") fd := F
  have Sc := sc_law_sign
  refine ⟨fd, fnD (k := 1) (S := S_law_sign (CL P w K)) F Sc (fun _ _ => rfl) fun cdv A outer s H E hr W tk hp => ?_, F.bindsN fun _ _ _ _ _ _ us hl => match us, hl with | [_], _ => rfl⟩
  exact
    ds_cons (ds_set Sc.nd (de_call (k := 1) tk (hr.mono (by decide)) ((g_law_draw Z).g) (zg_law_draw Z) (zkp_law_draw Z) (da_cons (de_var 0) (da_cons (de_int) (da_nil))))) <|
  ds_one (ds_ret (de_join (de_str) (de_lc (own := [("_law_size", 2)]) rfl Sc.nd rfl (di_seq (de_lst (da_cons (de_int) (da_cons (de_int) (da_cons (de_int) (da_cons (de_int) (da_nil))))))) (fun _ _ _ _ _ => dgv_name Sc.nd) (fun _ _ _ _ _ => dts_nil) (fun _ _ _ _ _ => de_ct call_str_int cd_str (zf_str Z) (da_cons (de_mod (de_div (de_var 1) (de_var 2)) (de_int)) (da_nil))))))
/-! is_letters -/
theorem sc_is_letters : FnScope ["text", "sign"] ["text"] (defScope (top 16)) := ⟨rfl, rfl, rfl, by decide +kernel, rfl, by decide +kernel, by decide +kernel⟩
noncomputable def S_is_letters (C : CE) : DS :=
  sRet (eAndV (eBin dNe (eVar 0) (eC (.str ""))) (eCB fAll (aCons (eLc [1] (iSeq (eVar 0)) (gName 1) (dTrue) (eBin dIn (eVar 1) (eC (.str "abcdefghijklmnopqrstuvwxyz")))) (aNil))))
noncomputable def G_is_letters (C : CE) : List D → Store → Res D := fun ds m => if ds.length = 1 then runB (S_is_letters C) (startD 2 ds) m else .bad
theorem g_is_letters (Z : KZ K mg) : GoodP P w K mg base 1 (He.ga K "is_letters") ["text"] (CL P w K) (G_is_letters (CL P w K)) := by
  obtain ⟨fd, F⟩ := Z.fun_ 4 (d := d_is_letters) rfl
  have F : FunD K "is_letters" "is_letters" (defArgs (top 16)) (defBody (top 16)) (defScope (top 16)) [] [] (He.ga K "is_letters") fd := F
  have Sc := sc_is_letters
  refine ⟨fd, fnD (k := 0) (S := S_is_letters (CL P w K)) F Sc (fun _ _ => rfl) fun cdv A outer s H E hr W tk hp => ?_, F.bindsN fun _ _ _ _ _ _ us hl => match us, hl with | [_], _ => rfl⟩
  exact
    ds_one (ds_ret (de_and (de_cmp (op_neDD hr.units) od_ne (de_var 0) (de_str) (nomark _)) (de_one (de_cb (cr_all rfl) cd_all (zf_all Z) (da_cons (de_lc (own := [("sign", 1)]) rfl Sc.nd rfl (di_seq (de_var 0)) (fun _ _ _ _ _ => dgv_name Sc.nd) (fun _ _ _ _ _ => dts_nil) (fun _ _ _ _ _ => de_cmp (op_inG (hu65 hr)) od_in (de_var 1) (de_gstr rfl (zs_LOWERCASE Z)) (by with_unfolding_all rfl))) (da_nil))))))
/-! is_name -/
theorem sc_is_name : FnScope ["value"] ["value"] (defScope (top 17)) := ⟨rfl, rfl, rfl, by decide +kernel, rfl, by decide +kernel, by decide +kernel⟩
noncomputable def S_is_name (C : CE) : DS :=
  sRet (eAndV (eIsi ["str"] [] (fun _ => true) (fun _ => false) (eVar 0)) (eAndV (eBin dLe (eCB fLen (aCons (eVar 0) (aNil))) (eC (.int 8))) (eCall (G_is_letters C) (aCons (eVar 0) (aNil)))))
noncomputable def G_is_name (C : CE) : List D → Store → Res D := fun ds m => if ds.length = 1 then runB (S_is_name C) (startD 1 ds) m else .bad
theorem g_is_name (Z : KZ K mg) : GoodP P w K mg base 2 (He.ga K "is_name") ["value"] (CL P w K) (G_is_name (CL P w K)) := by
  obtain ⟨fd, F⟩ := Z.fun_ 5 (d := d_is_name) rfl
  have F : FunD K "is_name" "is_name" (defArgs (top 17)) (defBody (top 17)) (defScope (top 17)) [] [] (He.ga K "is_name") fd := F
  have Sc := sc_is_name
  refine ⟨fd, fnD (k := 1) (S := S_is_name (CL P w K)) F Sc (fun _ _ => rfl) fun cdv A outer s H E hr W tk hp => ?_, F.bindsN fun _ _ _ _ _ _ us hl => match us, hl with | [_], _ => rfl⟩
  exact
    ds_one (ds_ret (de_and (de_isi (isi_ty (zf_str Z) (List.forall_mem_cons.mpr ⟨(zis_str_str Z), (by intro _ h; cases h)⟩) (by intro _ h; cases h)) (de_var 0) (zf_isinstance Z)) (de_and (de_cmp (op_le) od_cmp (de_cb cr_lenD cd_len (zf_len Z) (da_cons (de_var 0) (da_nil))) (de_gint rfl (zi_MAX_LETTERS Z)) (nomark _)) (de_one (de_call (k := 1) tk (hr.mono (by decide)) ((g_is_letters Z).g) (zg_is_letters Z) (zkp_is_letters Z) (da_cons (de_var 0) (da_nil)))))))
/-! Source.__contains__ -/
theorem sc_Source_contains : FnScope ["self", "name"] ["self", "name"] (defScope (mtop 77 16)) := ⟨rfl, rfl, rfl, by decide +kernel, rfl, by decide +kernel, by decide +kernel⟩
noncomputable def S_Source_contains (C : CE) : DS :=
  sRet (eAndV (eCall (G_is_name C) (aCons (eVar 1) (aNil))) (eBin dIn (eVar 1) (eFld 2 "own_parts" (eVar 0))))
noncomputable def G_Source_contains (C : CE) : List D → Store → Res D := fun ds m => if ds.length = 2 then runB (S_Source_contains C) (startD 2 ds) m else .bad
theorem g_Source_contains (Z : KZ K mg) : GoodP P w K mg base 3 (He.ma K (He.ga K "Source") "__contains__") ["self", "name"] (CL P w K) (G_Source_contains (CL P w K)) := by
  obtain ⟨fd, F⟩ := Z.fun_ 6 (d := d_Source_contains) rfl
  have F : FunD K "__contains__" "Source.__contains__" (defArgs (mtop 77 16)) (defBody (mtop 77 16)) (defScope (mtop 77 16)) [] [] (He.ma K (He.ga K "Source") "__contains__") fd := F
  have Sc := sc_Source_contains
  refine ⟨fd, fnD (k := 2) (S := S_Source_contains (CL P w K)) F Sc (fun _ _ => rfl) fun cdv A outer s H E hr W tk hp => ?_, F.bindsN fun _ _ _ _ _ _ us hl => match us, hl with | [_, _], _ => rfl⟩
  exact
    ds_one (ds_ret (de_and (de_call (k := 2) tk (hr.mono (by decide)) ((g_is_name Z).g) (zg_is_name Z) (zkp_is_name Z) (da_cons (de_var 1) (da_nil))) (de_one (de_cmp (op_inG (hu65 hr)) od_in (de_var 1) (de_fld (zc_Source (P := P) (w := w) Z) (zn_Source_own_parts (P := P) (w := w) Z) (de_var 0)) (by with_unfolding_all rfl)))))
/-! Source.require -/
theorem sc_Source_require : FnScope ["self", "name"] ["self", "name"] (defScope (mtop 77 3)) := ⟨rfl, rfl, rfl, by decide +kernel, rfl, by decide +kernel, by decide +kernel⟩
noncomputable def S_Source_require (C : CE) : DS :=
  sIf (eOr (eNot (eTest (eCall (G_is_name C) (aCons (eVar 1) (aNil))))) (eTest (eBin dNotIn (eVar 1) (eFld 2 "own_parts" (eVar 0))))) (sNever) (sNil)
noncomputable def G_Source_require (C : CE) : List D → Store → Res D := fun ds m => if ds.length = 2 then runB (S_Source_require C) (startD 2 ds) m else .bad
theorem g_Source_require (Z : KZ K mg) : GoodP P w K mg base 3 (He.ma K (He.ga K "Source") "require") ["self", "name"] (CL P w K) (G_Source_require (CL P w K)) := by
  obtain ⟨fd, F⟩ := Z.fun_ 7 (d := d_Source_require) rfl
  have F : FunD K "require" "Source.require" (defArgs (mtop 77 3)) (defBody (mtop 77 3)) (defScope (mtop 77 3)) [] [] (He.ma K (He.ga K "Source") "require") fd := F
  have Sc := sc_Source_require
  refine ⟨fd, fnD (k := 2) (S := S_Source_require (CL P w K)) F Sc (fun _ _ => rfl) fun cdv A outer s H E hr W tk hp => ?_, F.bindsN fun _ _ _ _ _ _ us hl => match us, hl with | [_, _], _ => rfl⟩
  exact
    ds_one (ds_if (PW.pt (dw_or (dt_not (dt_val (de_call (k := 2) tk (hr.mono (by decide)) ((g_is_name Z).g) (zg_is_name Z) (zkp_is_name Z) (da_cons (de_var 1) (da_nil))))) (dw_or1 (dt_cmp (op_notInG (hu65 hr)) od_notIn (de_var 1) (de_fld (zc_Source (P := P) (w := w) Z) (zn_Source_own_parts (P := P) (w := w) Z) (de_var 0)) (by with_unfolding_all rfl))))) (dss_never) (ds_nil))
/-! Source.length -/
theorem sc_Source_length : FnScope ["self", "name"] ["self", "name"] (defScope (mtop 77 8)) := ⟨rfl, rfl, rfl, by decide +kernel, rfl, by decide +kernel, by decide +kernel⟩
noncomputable def S_Source_length (C : CE) : DS :=
  sCons (sExpr (eMeth 2 "require" (G_Source_require C) (eVar 0) (aCons (eVar 1) (aNil)))) <|
  sRet (eBin dIx (eFld 2 "own_sizes" (eVar 0)) (eVar 1))
noncomputable def G_Source_length (C : CE) : List D → Store → Res D := fun ds m => if ds.length = 2 then runB (S_Source_length C) (startD 2 ds) m else .bad
theorem g_Source_length (Z : KZ K mg) : GoodP P w K mg base 4 (He.ma K (He.ga K "Source") "length") ["self", "name"] (CL P w K) (G_Source_length (CL P w K)) := by
  obtain ⟨fd, F⟩ := Z.fun_ 8 (d := d_Source_length) rfl
  have F : FunD K "length" "Source.length" (defArgs (mtop 77 8)) (defBody (mtop 77 8)) (defScope (mtop 77 8)) [] [] (He.ma K (He.ga K "Source") "length") fd := F
  have Sc := sc_Source_length
  refine ⟨fd, fnD (k := 3) (S := S_Source_length (CL P w K)) F Sc (fun _ _ => rfl) fun cdv A outer s H E hr W tk hp => ?_, F.bindsN fun _ _ _ _ _ _ us hl => match us, hl with | [_, _], _ => rfl⟩
  exact
    ds_cons (ds_expr (de_meth (k := 3) tk (hr.mono (by decide)) (zc_Source (P := P) (w := w) Z) (zm_Source_require (P := P) (w := w) Z) ((g_Source_require Z).g) (de_var 0) (da_cons (de_var 1) (da_nil)))) <|
  ds_one (ds_ret (de_ix (hu1 hr) (de_fld (zc_Source (P := P) (w := w) Z) (zn_Source_own_sizes (P := P) (w := w) Z) (de_var 0)) (de_var 1)))
/-! Line.__init__ -/
theorem sc_Line_init : FnScope ["self", "source", "part", "is_ring"] ["self", "source", "part", "is_ring"] (defScope (mtop 93 0)) := ⟨rfl, rfl, rfl, by decide +kernel, rfl, by decide +kernel, by decide +kernel⟩
noncomputable def S_Line_init (C : CE) : DS :=
  sCons (sIf (eTest (eIno true 2 (G_Source_contains C) (eVar 2) (eVar 1))) (sNever) (sNil)) <|
  sCons (sIf (eAnd (eTest (eVar 3)) (eTest (eBin dLt (eMeth 2 "length" (G_Source_length C) (eVar 1) (aCons (eVar 2) (aNil))) (eC (.int 3))))) (sNever) (sNil)) <|
  sCons (sFldSet 3 "own_source" (eVar 0) (eVar 1)) <|
  sCons (sFldSet 3 "own_part" (eVar 0) (eVar 2)) <|
  sFldSet 3 "own_kind" (eVar 0) (eVar 3)
noncomputable def G_Line_init (C : CE) : List D → Store → Res D := fun ds m => if ds.length = 4 then runB (S_Line_init C) (startD 4 ds) m else .bad
noncomputable def GK_Line_init (C : CE) : List D → List D → Store → Res D := fun ds es m => G_Line_init C (ds ++ es) m
theorem gk_Line_init (Z : KZ K mg) : FnGK P w K mg base 5 (He.ma K (He.ga K "Line") "__init__") 3 ["is_ring"] (CL P w K) (GK_Line_init (CL P w K)) := by
  obtain ⟨fd, F⟩ := Z.fun_ 9 (d := d_Line_init) rfl
  have F : FunD K "__init__" "Line.__init__" (defArgs (mtop 93 0)) (defBody (mtop 93 0)) (defScope (mtop 93 0)) [] [("is_ring", (V.bl false))] (He.ma K (He.ga K "Line") "__init__") fd := F
  have Sc := sc_Line_init
  have B := kb0 (ps := ["self", "source", "part", "is_ring"]) F 3 ["is_ring"] (by simp) fun _ _ _ _ _ _ us ws hu hw => match us, ws, hu, hw with | [_, _, _], [_], _, _ => rfl
  refine FnGK.of0 (fnD (k := 4) (S := S_Line_init (CL P w K)) F Sc (fun _ _ => rfl) fun cdv A outer s H E hr W tk hp => ?_) B
  exact
    ds_cons (ds_if (dt_ino (neg := true) (od_notIno (k := 3) (hr.mono (by decide)) (zc_Source (P := P) (w := w) Z) (zo_Source_contains (P := P) (w := w) Z).1 (zo_Source_contains (P := P) (w := w) Z).2.2 ((g_Source_contains Z).g)) (de_var 2) (de_var 1)) (dss_never) (ds_nil)) <|
  ds_cons (ds_if (PW.pt (dw_and (dt_val (de_var 3)) (dw_and1 (dt_cmp (op_lt) od_cmp (de_meth (k := 4) tk (hr.mono (by decide)) (zc_Source (P := P) (w := w) Z) (zm_Source_length (P := P) (w := w) Z) ((g_Source_length Z).g) (de_var 1) (da_cons (de_var 2) (da_nil))) (de_gint rfl (zi_LEAST_RING Z)) (nomark _))))) (dss_never) (ds_nil)) <|
  ds_cons (ds_fldset (zc_Line (P := P) (w := w) Z) (zn_Line_own_source (P := P) (w := w) Z) (de_var 0) (de_var 1)) <|
  ds_cons (ds_fldset (zc_Line (P := P) (w := w) Z) (zn_Line_own_part (P := P) (w := w) Z) (de_var 0) (de_var 2)) <|
  ds_one (ds_fldset (zc_Line (P := P) (w := w) Z) (zn_Line_own_kind (P := P) (w := w) Z) (de_var 0) (de_var 3))
/-! run_length -/
theorem sc_run_length : FnScope ["text", "place", "signs"] ["text", "place", "signs"] (defScope (top 43)) := ⟨rfl, rfl, rfl, by decide +kernel, rfl, by decide +kernel, by decide +kernel⟩
noncomputable def S_run_length (C : CE) : DS :=
  sRet (eBin dSub (eBin dSub (eCB fLen (aCons (eVar 0) (aNil))) (eVar 1)) (eCB fLen (aCons (eM1 dLstrip (eSl (eVar 0) (pSome (eVar 1)) (pNone)) (eVar 2)) (aNil))))
noncomputable def G_run_length (C : CE) : List D → Store → Res D := fun ds m => if ds.length = 3 then runB (S_run_length C) (startD 3 ds) m else .bad
theorem g_run_length (Z : KZ K mg) : GoodP P w K mg base 1 (He.ga K "run_length") ["text", "place", "signs"] (CL P w K) (G_run_length (CL P w K)) := by
  obtain ⟨fd, F⟩ := Z.fun_ 10 (d := d_run_length) rfl
  have F : FunD K "run_length" "run_length" (defArgs (top 43)) (defBody (top 43)) (defScope (top 43)) [] [] (He.ga K "run_length") fd := F
  have Sc := sc_run_length
  refine ⟨fd, fnD (k := 0) (S := S_run_length (CL P w K)) F Sc (fun _ _ => rfl) fun cdv A outer s H E hr W tk hp => ?_, F.bindsN fun _ _ _ _ _ _ us hl => match us, hl with | [_, _, _], _ => rfl⟩
  exact
    ds_one (ds_ret (de_sub (de_sub (de_cb cr_lenD cd_len (zf_len Z) (da_cons (de_var 0) (da_nil))) (de_var 1)) (de_cb cr_lenD cd_len (zf_len Z) (da_cons (de_lstrip (de_sl (de_var 0) (dp_some (de_var 1)) (dp_none)) (de_var 2)) (da_nil)))))
/-! tokens_of -/
theorem sc_tokens_of : FnScope ["text", "found", "place", "length"] ["text"] (defScope (top 44)) := ⟨rfl, rfl, rfl, by decide +kernel, rfl, by decide +kernel, by decide +kernel⟩
noncomputable def S_tokens_of (C : CE) : DS :=
  sCons (sSet 1 (eNewL (aNil))) <|
  sCons (sSet 2 (eC (.int 0))) <|
  sCons (sWhile (eTest (eBin dLt (eVar 2) (eCB fLen (aCons (eVar 0) (aNil))))) (sCons (sSet 3 (eC (.int 1))) <|
    sCons (sIf (eTest (eBin dIn (eBin dIx (eVar 0) (eVar 2)) (eC (.str "0123456789")))) (sSet 3 (eCall (G_run_length C) (aCons (eVar 0) (aCons (eVar 2) (aCons (eC (.str "0123456789")) (aNil)))))) (sIf (eTest (eCall (G_is_letters C) (aCons (eBin dIx (eVar 0) (eVar 2)) (aNil)))) (sNever) (sNil))) <|
    sCons (sIf (eTest (eBin dNe (eBin dIx (eVar 0) (eVar 2)) (eC (.str " ")))) (sExpr (eOnL appD (eVar 1) (eTup (aCons (eVar 2) (aCons (eSl (eVar 0) (pSome (eVar 2)) (pSome (eBin dAdd (eVar 2) (eVar 3)))) (aNil)))))) (sNil)) <|
    sSet 2 (eBin dAdd (eVar 2) (eVar 3)))) <|
  thawS 1 (sRet (eVar 1))
noncomputable def G_tokens_of (C : CE) : List D → Store → Res D := fun ds m => if ds.length = 1 then runB (S_tokens_of C) (startD 4 ds) m else .bad
noncomputable def GP_tokens_of (C : CE) : List D → Store → Res D := fun ds m => popR m (G_tokens_of C ds m)
theorem g_tokens_of (Z : KZ K mg) : GoodP P w K mg base 2 (He.ga K "tokens_of") ["text"] (CL P w K) (G_tokens_of (CL P w K)) := by
  obtain ⟨fd, F⟩ := Z.fun_ 11 (d := d_tokens_of) rfl
  have F : FunD K "tokens_of" "tokens_of" (defArgs (top 44)) (defBody (top 44)) (defScope (top 44)) [] [] (He.ga K "tokens_of") fd := F
  have Sc := sc_tokens_of
  refine ⟨fd, fnD (k := 1) (S := S_tokens_of (CL P w K)) F Sc (fun _ _ => rfl) fun cdv A outer s H E hr W tk hp => ?_, F.bindsN fun _ _ _ _ _ _ us hl => match us, hl with | [_], _ => rfl⟩
  exact
    ds_cons (ds_set Sc.nd (de_newL (da_nil))) <|
  ds_cons (ds_set Sc.nd (de_int)) <|
  ds_cons (ds_while hp (dt_cmp (op_lt) od_cmp (de_var 2) (de_cb cr_lenD cd_len (zf_len Z) (da_cons (de_var 0) (da_nil))) (nomark _)) (ds_cons (ds_set Sc.nd (de_int)) <|
    ds_cons (ds_if (dt_cmp (op_inG (hu65 hr)) od_in (de_ix (hu1 hr) (de_var 0) (de_var 2)) (de_gstr rfl (zs_DIGITS Z)) (by with_unfolding_all rfl)) (ds_one (ds_set Sc.nd (de_call (k := 1) tk (hr.mono (by decide)) ((g_run_length Z).g) (zg_run_length Z) (zkp_run_length Z) (da_cons (de_var 0) (da_cons (de_var 2) (da_cons (de_gstr rfl (zs_DIGITS Z)) (da_nil))))))) (ds_one (ds_if (dt_val (de_call (k := 1) tk (hr.mono (by decide)) ((g_is_letters Z).g) (zg_is_letters Z) (zkp_is_letters Z) (da_cons (de_ix (hu1 hr) (de_var 0) (de_var 2)) (da_nil)))) (dss_never) (ds_nil)))) <|
    ds_cons (ds_if (dt_cmp (op_neDD hr.units) od_ne (de_ix (hu1 hr) (de_var 0) (de_var 2)) (de_str) (nomark _)) (ds_one (ds_expr (de_append (de_var 1) (de_tup (da_cons (de_var 2) (da_cons (de_sl (de_var 0) (dp_some (de_var 2)) (dp_some (de_add (de_var 2) (de_var 3)))) (da_nil))))))) (ds_nil)) <|
    ds_one (ds_set Sc.nd (de_add (de_var 2) (de_var 3))))) <|
  dss_thaw 1 (ds_one (ds_ret (de_var 1)))
/-! is_statement_text -/
theorem sc_is_statement_text : FnScope ["value", "sign"] ["value"] (defScope (top 26)) := ⟨rfl, rfl, rfl, by decide +kernel, rfl, by decide +kernel, by decide +kernel⟩
noncomputable def S_is_statement_text (C : CE) : DS :=
  sRet (eAndV (eIsi ["str"] [] (fun _ => true) (fun _ => false) (eVar 0)) (eAndV (eBin dEq (eCB fLen (aCons (eVar 0) (aNil))) (eC (.int 4))) (eCB fAll (aCons (eLc [1] (iSeq (eVar 0)) (gName 1) (dTrue) (eBin dIn (eVar 1) (eC (.str "01")))) (aNil)))))
noncomputable def G_is_statement_text (C : CE) : List D → Store → Res D := fun ds m => if ds.length = 1 then runB (S_is_statement_text C) (startD 2 ds) m else .bad
theorem g_is_statement_text (Z : KZ K mg) : GoodP P w K mg base 1 (He.ga K "is_statement_text") ["value"] (CL P w K) (G_is_statement_text (CL P w K)) := by
  obtain ⟨fd, F⟩ := Z.fun_ 12 (d := d_is_statement_text) rfl
  have F : FunD K "is_statement_text" "is_statement_text" (defArgs (top 26)) (defBody (top 26)) (defScope (top 26)) [] [] (He.ga K "is_statement_text") fd := F
  have Sc := sc_is_statement_text
  refine ⟨fd, fnD (k := 0) (S := S_is_statement_text (CL P w K)) F Sc (fun _ _ => rfl) fun cdv A outer s H E hr W tk hp => ?_, F.bindsN fun _ _ _ _ _ _ us hl => match us, hl with | [_], _ => rfl⟩
  exact
    ds_one (ds_ret (de_and (de_isi (isi_ty (zf_str Z) (List.forall_mem_cons.mpr ⟨(zis_str_str Z), (by intro _ h; cases h)⟩) (by intro _ h; cases h)) (de_var 0) (zf_isinstance Z)) (de_and (de_cmp (op_eqDD hr.units) od_eq (de_cb cr_lenD cd_len (zf_len Z) (da_cons (de_var 0) (da_nil))) (de_gint rfl (zi_LENGTH Z)) (nomark _)) (de_one (de_cb (cr_all rfl) cd_all (zf_all Z) (da_cons (de_lc (own := [("sign", 1)]) rfl Sc.nd rfl (di_seq (de_var 0)) (fun _ _ _ _ _ => dgv_name Sc.nd) (fun _ _ _ _ _ => dts_nil) (fun _ _ _ _ _ => de_cmp (op_inG (hu65 hr)) od_in (de_var 1) (de_str) (by with_unfolding_all rfl))) (da_nil)))))))
/-! Statement.is_text -/
theorem sc_Statement_is_text : FnScope ["value"] ["value"] (defScope (mtop 27 4)) := ⟨rfl, rfl, rfl, by decide +kernel, rfl, by decide +kernel, by decide +kernel⟩
noncomputable def S_Statement_is_text (C : CE) : DS :=
  sRet (eCall (G_is_statement_text C) (aCons (eVar 0) (aNil)))
noncomputable def G_Statement_is_text (C : CE) : List D → Store → Res D := fun ds m => if ds.length = 1 then runB (S_Statement_is_text C) (startD 1 ds) m else .bad
theorem g_Statement_is_text (Z : KZ K mg) : GoodP P w K mg base 2 (He5.wf K (He.ga K "Statement") "staticmethod" "is_text") ["value"] (CL P w K) (G_Statement_is_text (CL P w K)) := by
  obtain ⟨fd, F⟩ := Z.fun_ 13 (d := d_Statement_is_text) rfl
  have F : FunD K "is_text" "Statement.is_text" (defArgs (mtop 27 4)) (defBody (mtop 27 4)) (defScope (mtop 27 4)) [] [] (He5.wf K (He.ga K "Statement") "staticmethod" "is_text") fd := F
  have Sc := sc_Statement_is_text
  refine ⟨fd, fnD (k := 1) (S := S_Statement_is_text (CL P w K)) F Sc (fun _ _ => rfl) fun cdv A outer s H E hr W tk hp => ?_, F.bindsN fun _ _ _ _ _ _ us hl => match us, hl with | [_], _ => rfl⟩
  exact
    ds_one (ds_ret (de_call (k := 1) tk (hr.mono (by decide)) ((g_is_statement_text Z).g) (zg_is_statement_text Z) (zkp_is_statement_text Z) (da_cons (de_var 0) (da_nil))))
/-! is_person_text -/
theorem sc_is_person_text : FnScope ["text"] ["text"] (defScope (top 42)) := ⟨rfl, rfl, rfl, by decide +kernel, rfl, by decide +kernel, by decide +kernel⟩
noncomputable def S_is_person_text (C : CE) : DS :=
  sRet (eOrV (eBin dEq (eVar 0) (eC (.str "?"))) (eCall (G_Statement_is_text C) (aCons (eVar 0) (aNil))))
noncomputable def G_is_person_text (C : CE) : List D → Store → Res D := fun ds m => if ds.length = 1 then runB (S_is_person_text C) (startD 1 ds) m else .bad
theorem g_is_person_text (Z : KZ K mg) : GoodP P w K mg base 3 (He.ga K "is_person_text") ["text"] (CL P w K) (G_is_person_text (CL P w K)) := by
  obtain ⟨fd, F⟩ := Z.fun_ 14 (d := d_is_person_text) rfl
  have F : FunD K "is_person_text" "is_person_text" (defArgs (top 42)) (defBody (top 42)) (defScope (top 42)) [] [] (He.ga K "is_person_text") fd := F
  have Sc := sc_is_person_text
  refine ⟨fd, fnD (k := 2) (S := S_is_person_text (CL P w K)) F Sc (fun _ _ => rfl) fun cdv A outer s H E hr W tk hp => ?_, F.bindsN fun _ _ _ _ _ _ us hl => match us, hl with | [_], _ => rfl⟩
  exact
    ds_one (ds_ret (de_or (de_cmp (op_eqDD hr.units) od_eq (de_var 0) (de_gstr rfl (zs_FREE Z)) (nomark _)) (de_one (de_static (k := 2) tk (hr.mono (by decide)) (zr_Statement (P := P) (w := w) Z) (zst_Statement_is_text (P := P) (w := w) Z) ((g_Statement_is_text Z).g) (zg_Statement (P := P) (w := w) Z) (da_cons (de_var 0) (da_nil))))))
/-! leaf_tree -/
theorem sc_leaf_tree : FnScope ["kind", "sign"] ["kind", "sign"] (defScope (top 45)) := ⟨rfl, rfl, rfl, by decide +kernel, rfl, by decide +kernel, by decide +kernel⟩
noncomputable def S_leaf_tree (C : CE) : DS :=
  sRet (eTup (aCons (eVar 0) (aCons (eVar 1) (aCons (eTup (aNil)) (aCons (eC .non) (aCons (eC (.int 1)) (aCons (eC (.int 1)) (aNil))))))))
noncomputable def G_leaf_tree (C : CE) : List D → Store → Res D := fun ds m => if ds.length = 2 then runB (S_leaf_tree C) (startD 2 ds) m else .bad
theorem g_leaf_tree (Z : KZ K mg) : GoodP P w K mg base 1 (He.ga K "leaf_tree") ["kind", "sign"] (CL P w K) (G_leaf_tree (CL P w K)) := by
  obtain ⟨fd, F⟩ := Z.fun_ 15 (d := d_leaf_tree) rfl
  have F : FunD K "leaf_tree" "leaf_tree" (defArgs (top 45)) (defBody (top 45)) (defScope (top 45)) [] [] (He.ga K "leaf_tree") fd := F
  have Sc := sc_leaf_tree
  refine ⟨fd, fnD (k := 0) (S := S_leaf_tree (CL P w K)) F Sc (fun _ _ => rfl) fun cdv A outer s H E hr W tk hp => ?_, F.bindsN fun _ _ _ _ _ _ us hl => match us, hl with | [_, _], _ => rfl⟩
  exact
    ds_one (ds_ret (de_tup (da_cons (de_var 0) (da_cons (de_var 1) (da_cons (de_tup (da_nil)) (da_cons (de_non) (da_cons (de_int) (da_cons (de_int) (da_nil)))))))))
/-! leaf_of_token -/
theorem sc_leaf_of_token : FnScope ["token"] ["token"] (defScope (top 48)) := ⟨rfl, rfl, rfl, by decide +kernel, rfl, by decide +kernel, by decide +kernel⟩
noncomputable def S_leaf_of_token (C : CE) : DS :=
  sCons (sIf (eTest (eCall (G_is_person_text C) (aCons (eVar 0) (aNil)))) (sRet (eCall (G_leaf_tree C) (aCons (eC (.str "person")) (aCons (eVar 0) (aNil))))) (sNil)) <|
  sNever
noncomputable def G_leaf_of_token (C : CE) : List D → Store → Res D := fun ds m => if ds.length = 1 then runB (S_leaf_of_token C) (startD 1 ds) m else .bad
theorem g_leaf_of_token (Z : KZ K mg) : GoodP P w K mg base 4 (He.ga K "leaf_of_token") ["token"] (CL P w K) (G_leaf_of_token (CL P w K)) := by
  obtain ⟨fd, F⟩ := Z.fun_ 16 (d := d_leaf_of_token) rfl
  have F : FunD K "leaf_of_token" "leaf_of_token" (defArgs (top 48)) (defBody (top 48)) (defScope (top 48)) [] [] (He.ga K "leaf_of_token") fd := F
  have Sc := sc_leaf_of_token
  refine ⟨fd, fnD (k := 3) (S := S_leaf_of_token (CL P w K)) F Sc (fun _ _ => rfl) fun cdv A outer s H E hr W tk hp => ?_, F.bindsN fun _ _ _ _ _ _ us hl => match us, hl with | [_], _ => rfl⟩
  exact
    ds_cons (ds_if (dt_val (de_call (k := 3) tk (hr.mono (by decide)) ((g_is_person_text Z).g) (zg_is_person_text Z) (zkp_is_person_text Z) (da_cons (de_var 0) (da_nil)))) (ds_one (ds_ret (de_call (k := 1) tk (hr.mono (by decide)) ((g_leaf_tree Z).g) (zg_leaf_tree Z) (zkp_leaf_tree Z) (da_cons (de_gstr rfl (zs_PERSON Z)) (da_cons (de_var 0) (da_nil)))))) (ds_nil)) <|
  ds_one (ds_never)
/-! state_behind -/
theorem sc_state_behind : FnScope ["state", "token", "groups", "parts", "word", "leaf"] ["state", "token"] (defScope (top 49)) := ⟨rfl, rfl, rfl, by decide +kernel, rfl, by decide +kernel, by decide +kernel⟩
noncomputable def S_state_behind (C : CE) : DS :=
  sCons (sAsg (gTupD (gsCons (gName 2) (gsCons (gName 3) (gsCons (gName 4) (gsNil))))) (eVar 0)) <|
  sCons (sIf (eTest (eBin dEq (eVar 4) (eC (.str "number")))) (sNever) (sNil)) <|
  sCons (sIf (eAnd (eTest (eBin dEq (eVar 4) (eC (.str "part")))) (eTest (eBin dEq (eVar 1) (eC (.str "~"))))) (sNever) (sNil)) <|
  sCons (sIf (eAnd (eTest (eBin dEq (eVar 4) (eC (.str "part")))) (eTest (eBin dEq (eVar 1) (eC (.str "^"))))) (sNever) (sNil)) <|
  sCons (sIf (eAnd (eTest (eBin dEq (eVar 4) (eC (.str "part")))) (eAnd (eTest (eBin dEq (eVar 1) (eC (.str ")")))) (eTest (eBin dNe (eVar 2) (eTup (aNil)))))) (sNever) (sNil)) <|
  sCons (sIf (eTest (eBin dEq (eVar 1) (eC (.str "(")))) (sNever) (sNil)) <|
  sCons (sSet 5 (eCall (G_leaf_of_token C) (aCons (eVar 1) (aNil)))) <|
  sRet (eIf (eTest (eBin dIs (eVar 5) (eC .non))) (eC .non) (eTup (aCons (eVar 2) (aCons (eBin dAdd (eVar 3) (eTup (aCons (eVar 5) (aNil)))) (aCons (eC (.str "part")) (aNil))))))
noncomputable def G_state_behind (C : CE) : List D → Store → Res D := fun ds m => if ds.length = 2 then runB (S_state_behind C) (startD 6 ds) m else .bad
theorem g_state_behind (Z : KZ K mg) : GoodP P w K mg base 5 (He.ga K "state_behind") ["state", "token"] (CL P w K) (G_state_behind (CL P w K)) := by
  obtain ⟨fd, F⟩ := Z.fun_ 17 (d := d_state_behind) rfl
  have F : FunD K "state_behind" "state_behind" (defArgs (top 49)) (defBody (top 49)) (defScope (top 49)) [] [] (He.ga K "state_behind") fd := F
  have Sc := sc_state_behind
  refine ⟨fd, fnD (k := 4) (S := S_state_behind (CL P w K)) F Sc (fun _ _ => rfl) fun cdv A outer s H E hr W tk hp => ?_, F.bindsN fun _ _ _ _ _ _ us hl => match us, hl with | [_, _], _ => rfl⟩
  exact
    ds_cons (ds_asg (de_var 0) (dg_of (vs := [2, 3, 4]) (dgv_tup (n := 3) rfl (dgvs_cons (dgv_name Sc.nd) (dgvs_cons (dgv_name Sc.nd) (dgvs_cons (dgv_name Sc.nd) (dgvs_nil)))) (gsl (gsl (gsl gsl0)))))) <|
  ds_cons (ds_if (dt_cmp (op_eqDD hr.units) od_eq (de_var 4) (de_gstr rfl (zs_NUMBER Z)) (nomark _)) (dss_never) (ds_nil)) <|
  ds_cons (ds_if (PW.pt (dw_and (dt_cmp (op_eqDD hr.units) od_eq (de_var 4) (de_gstr rfl (zs_PART Z)) (nomark _)) (dw_and1 (dt_cmp (op_eqDD hr.units) od_eq (de_var 1) (de_str) (nomark _))))) (dss_never) (ds_nil)) <|
  ds_cons (ds_if (PW.pt (dw_and (dt_cmp (op_eqDD hr.units) od_eq (de_var 4) (de_gstr rfl (zs_PART Z)) (nomark _)) (dw_and1 (dt_cmp (op_eqDD hr.units) od_eq (de_var 1) (de_str) (nomark _))))) (dss_never) (ds_nil)) <|
  ds_cons (ds_if (PW.pt (dw_and (dt_cmp (op_eqDD hr.units) od_eq (de_var 4) (de_gstr rfl (zs_PART Z)) (nomark _)) (dw_and (dt_cmp (op_eqDD hr.units) od_eq (de_var 1) (de_str) (nomark _)) (dw_and1 (dt_cmp (op_neDD hr.units) od_ne (de_var 2) (de_tup (da_nil)) (nomark _)))))) (dss_never) (ds_nil)) <|
  ds_cons (ds_if (dt_cmp (op_eqDD hr.units) od_eq (de_var 1) (de_str) (nomark _)) (dss_never) (ds_nil)) <|
  ds_cons (ds_set Sc.nd (de_call (k := 4) tk (hr.mono (by decide)) ((g_leaf_of_token Z).g) (zg_leaf_of_token Z) (zkp_leaf_of_token Z) (da_cons (de_var 1) (da_nil)))) <|
  ds_one (ds_ret (de_if (dt_cmp (op_isN) od_is (de_var 5) (de_non) (nomark _)) (de_non) (de_tup (da_cons (de_var 2) (da_cons (de_add (de_var 3) (de_tup (da_cons (de_var 5) (da_nil)))) (da_cons (de_gstr rfl (zs_PART Z)) (da_nil)))))))
/-! tree_of -/
theorem sc_tree_of : FnScope ["kind", "parts", "times", "nodes", "part"] ["kind", "parts", "times"] (defScope (top 46)) := ⟨rfl, rfl, rfl, by decide +kernel, rfl, by decide +kernel, by decide +kernel⟩
noncomputable def S_tree_of (C : CE) : DS :=
  sCons (sSet 3 (eBin dAdd (eC (.int 1)) (eCB fSum (aCons (eLc [4] (iSeq (eVar 1)) (gName 4) (dTrue) (eBin dIx (eVar 4) (eC (.int 4)))) (aNil))))) <|
  sRet (eTup (aCons (eVar 0) (aCons (eC (.str "")) (aCons (eCB fTuple (aCons (eVar 1) (aNil))) (aCons (eVar 2) (aCons (eVar 3) (aCons (eBin dAdd (eC (.int 1)) (eCB fMax (aCons (eLc [4] (iSeq (eVar 1)) (gName 4) (dTrue) (eBin dIx (eVar 4) (eC (.int 5)))) (aNil)))) (aNil))))))))
noncomputable def G_tree_of (C : CE) : List D → Store → Res D := fun ds m => if ds.length = 3 then runB (S_tree_of C) (startD 5 ds) m else .bad
theorem g_tree_of (Z : KZ K mg) : GoodP P w K mg base 1 (He.ga K "tree_of") ["kind", "parts", "times"] (CL P w K) (G_tree_of (CL P w K)) := by
  obtain ⟨fd, F⟩ := Z.fun_ 18 (d := d_tree_of) rfl
  have F : FunD K "tree_of" "tree_of" (defArgs (top 46)) (defBody (top 46)) (defScope (top 46)) [] [] (He.ga K "tree_of") fd := F
  have Sc := sc_tree_of
  refine ⟨fd, fnD (k := 0) (S := S_tree_of (CL P w K)) F Sc (fun _ _ => rfl) fun cdv A outer s H E hr W tk hp => ?_, F.bindsN fun _ _ _ _ _ _ us hl => match us, hl with | [_, _, _], _ => rfl⟩
  exact
    ds_cons (ds_set Sc.nd (de_add (de_int) (de_cb (cr_sum rfl) cd_sum (zf_sum Z) (da_cons (de_lc (own := [("part", 4)]) rfl Sc.nd rfl (di_seq (de_var 1)) (fun _ _ _ _ _ => dgv_name Sc.nd) (fun _ _ _ _ _ => dts_nil) (fun _ _ _ _ _ => de_ix (hu1 hr) (de_var 4) (de_int))) (da_nil))))) <|
  ds_one (ds_ret (de_tup (da_cons (de_var 0) (da_cons (de_str) (da_cons (de_ct call_tuple_of cd_tuple (zf_tuple Z) (da_cons (de_var 1) (da_nil))) (da_cons (de_var 2) (da_cons (de_var 3) (da_cons (de_add (de_int) (de_cb (cr_maxD rfl) cd_max (zf_max Z) (da_cons (de_lc (own := [("part", 4)]) rfl Sc.nd rfl (di_seq (de_var 1)) (fun _ _ _ _ _ => dgv_name Sc.nd) (fun _ _ _ _ _ => dts_nil) (fun _ _ _ _ _ => de_ix (hu1 hr) (de_var 4) (de_int))) (da_nil)))) (da_nil)))))))))
/-! closed_group -/
theorem sc_closed_group : FnScope ["parts"] ["parts"] (defScope (top 47)) := ⟨rfl, rfl, rfl, by decide +kernel, rfl, by decide +kernel, by decide +kernel⟩
noncomputable def S_closed_group (C : CE) : DS :=
  sRet (eIf (eTest (eBin dEq (eCB fLen (aCons (eVar 0) (aNil))) (eC (.int 1)))) (eBin dIx (eVar 0) (eC (.int 0))) (eCall (G_tree_of C) (aCons (eC (.str "join")) (aCons (eVar 0) (aCons (eC .non) (aNil))))))
noncomputable def G_closed_group (C : CE) : List D → Store → Res D := fun ds m => if ds.length = 1 then runB (S_closed_group C) (startD 1 ds) m else .bad
theorem g_closed_group (Z : KZ K mg) : GoodP P w K mg base 2 (He.ga K "closed_group") ["parts"] (CL P w K) (G_closed_group (CL P w K)) := by
  obtain ⟨fd, F⟩ := Z.fun_ 19 (d := d_closed_group) rfl
  have F : FunD K "closed_group" "closed_group" (defArgs (top 47)) (defBody (top 47)) (defScope (top 47)) [] [] (He.ga K "closed_group") fd := F
  have Sc := sc_closed_group
  refine ⟨fd, fnD (k := 1) (S := S_closed_group (CL P w K)) F Sc (fun _ _ => rfl) fun cdv A outer s H E hr W tk hp => ?_, F.bindsN fun _ _ _ _ _ _ us hl => match us, hl with | [_], _ => rfl⟩
  exact
    ds_one (ds_ret (de_if (dt_cmp (op_eqDD hr.units) od_eq (de_cb cr_lenD cd_len (zf_len Z) (da_cons (de_var 0) (da_nil))) (de_int) (nomark _)) (de_ix (hu1 hr) (de_var 0) (de_int)) (de_call (k := 1) tk (hr.mono (by decide)) ((g_tree_of Z).g) (zg_tree_of Z) (zkp_tree_of Z) (da_cons (de_gstr rfl (zs_JOIN Z)) (da_cons (de_var 0) (da_cons (de_non) (da_nil)))))))
/-! read_tree -/
theorem sc_read_tree : FnScope ["text", "state", "place", "token", "groups", "parts", "word"] ["text"] (defScope (top 50)) := ⟨rfl, rfl, rfl, by decide +kernel, rfl, by decide +kernel, by decide +kernel⟩
noncomputable def S_read_tree (C : CE) : DS :=
  sCons (sIf (eNot (eTest (eIsi ["str"] [] (fun _ => true) (fun _ => false) (eVar 0)))) (sNever) (sNil)) <|
  sCons (sSet 1 (eTup (aCons (eTup (aNil)) (aCons (eTup (aNil)) (aCons (eC (.str "start")) (aNil)))))) <|
  sCons (sFor (iSeq (eCall (GP_tokens_of C) (aCons (eVar 0) (aNil)))) (gTupD (gsCons (gName 2) (gsCons (gName 3) (gsNil)))) (sCons (sSet 1 (eCall (G_state_behind C) (aCons (eVar 1) (aCons (eVar 3) (aNil))))) <|
    sIf (eTest (eBin dIs (eVar 1) (eC .non))) (sNever) (sNil))) <|
  sCons (sAsg (gTupD (gsCons (gName 4) (gsCons (gName 5) (gsCons (gName 6) (gsNil))))) (eVar 1)) <|
  sCons (sIf (eOr (eTest (eBin dNe (eVar 4) (eTup (aNil)))) (eTest (eBin dNe (eVar 6) (eC (.str "part"))))) (sNever) (sNil)) <|
  sRet (eCall (G_closed_group C) (aCons (eVar 5) (aNil)))
noncomputable def G_read_tree (C : CE) : List D → Store → Res D := fun ds m => if ds.length = 1 then runB (S_read_tree C) (startD 7 ds) m else .bad
theorem g_read_tree (Z : KZ K mg) : GoodP P w K mg base 6 (He.ga K "read_tree") ["text"] (CL P w K) (G_read_tree (CL P w K)) := by
  obtain ⟨fd, F⟩ := Z.fun_ 20 (d := d_read_tree) rfl
  have F : FunD K "read_tree" "read_tree" (defArgs (top 50)) (defBody (top 50)) (defScope (top 50)) [] [] (He.ga K "read_tree") fd := F
  have Sc := sc_read_tree
  refine ⟨fd, fnD (k := 5) (S := S_read_tree (CL P w K)) F Sc (fun _ _ => rfl) fun cdv A outer s H E hr W tk hp => ?_, F.bindsN fun _ _ _ _ _ _ us hl => match us, hl with | [_], _ => rfl⟩
  exact
    ds_cons (ds_if (dt_not (dt_val (de_isi (isi_ty (zf_str Z) (List.forall_mem_cons.mpr ⟨(zis_str_str Z), (by intro _ h; cases h)⟩) (by intro _ h; cases h)) (de_var 0) (zf_isinstance Z)))) (dss_never) (ds_nil)) <|
  ds_cons (ds_set Sc.nd (de_tup (da_cons (de_tup (da_nil)) (da_cons (de_tup (da_nil)) (da_cons (de_gstr rfl (zs_START Z)) (da_nil)))))) <|
  ds_cons (ds_for hp rfl (di_seq (de_call (k := 2) tk (hr.mono (by decide)) ((g_tokens_of Z).g.pop) (zg_tokens_of Z) (zkp_tokens_of Z) (da_cons (de_var 0) (da_nil)))) (dg_of (vs := [2, 3]) (dgv_tup (n := 2) rfl (dgvs_cons (dgv_name Sc.nd) (dgvs_cons (dgv_name Sc.nd) (dgvs_nil))) (gsl (gsl gsl0)))) (ds_cons (ds_set Sc.nd (de_call (k := 5) tk (hr.mono (by decide)) ((g_state_behind Z).g) (zg_state_behind Z) (zkp_state_behind Z) (da_cons (de_var 1) (da_cons (de_var 3) (da_nil))))) <|
    ds_one (ds_if (dt_cmp (op_isN) od_is (de_var 1) (de_non) (nomark _)) (dss_never) (ds_nil)))) <|
  ds_cons (ds_asg (de_var 1) (dg_of (vs := [4, 5, 6]) (dgv_tup (n := 3) rfl (dgvs_cons (dgv_name Sc.nd) (dgvs_cons (dgv_name Sc.nd) (dgvs_cons (dgv_name Sc.nd) (dgvs_nil)))) (gsl (gsl (gsl gsl0)))))) <|
  ds_cons (ds_if (PW.pt (dw_or (dt_cmp (op_neDD hr.units) od_ne (de_var 4) (de_tup (da_nil)) (nomark _)) (dw_or1 (dt_cmp (op_neDD hr.units) od_ne (de_var 6) (de_gstr rfl (zs_PART Z)) (nomark _))))) (dss_never) (ds_nil)) <|
  ds_one (ds_ret (de_call (k := 2) tk (hr.mono (by decide)) ((g_closed_group Z).g) (zg_closed_group Z) (zkp_closed_group Z) (da_cons (de_var 5) (da_nil))))
/-! require_measures -/
theorem sc_require_measures : FnScope ["nodes", "levels"] ["nodes", "levels"] (defScope (top 58)) := ⟨rfl, rfl, rfl, by decide +kernel, rfl, by decide +kernel, by decide +kernel⟩
noncomputable def S_require_measures (C : CE) : DS :=
  sCons (sIf (eTest (eBin dGt (eVar 0) (eC (.int 500)))) (sNever) (sNil)) <|
  sIf (eTest (eBin dGt (eVar 1) (eC (.int 30)))) (sNever) (sNil)
noncomputable def G_require_measures (C : CE) : List D → Store → Res D := fun ds m => if ds.length = 2 then runB (S_require_measures C) (startD 2 ds) m else .bad
theorem g_require_measures (Z : KZ K mg) : GoodP P w K mg base 1 (He.ga K "require_measures") ["nodes", "levels"] (CL P w K) (G_require_measures (CL P w K)) := by
  obtain ⟨fd, F⟩ := Z.fun_ 21 (d := d_require_measures) rfl
  have F : FunD K "require_measures" "require_measures" (defArgs (top 58)) (defBody (top 58)) (defScope (top 58)) [] [] (He.ga K "require_measures") fd := F
  have Sc := sc_require_measures
  refine ⟨fd, fnD (k := 0) (S := S_require_measures (CL P w K)) F Sc (fun _ _ => rfl) fun cdv A outer s H E hr W tk hp => ?_, F.bindsN fun _ _ _ _ _ _ us hl => match us, hl with | [_, _], _ => rfl⟩
  exact
    ds_cons (ds_if (dt_cmp (op_gt) od_cmp (de_var 0) (de_gint rfl (zi_MAX_NODES Z)) (nomark _)) (dss_never) (ds_nil)) <|
  ds_one (ds_if (dt_cmp (op_gt) od_cmp (de_var 1) (de_gint rfl (zi_MAX_LEVELS_expressions Z)) (nomark _)) (dss_never) (ds_nil))
/-! Expression.nodes -/
theorem sc_Expression_nodes : FnScope ["self"] ["self"] (defScope (mtop 60 7)) := ⟨rfl, rfl, rfl, by decide +kernel, rfl, by decide +kernel, by decide +kernel⟩
noncomputable def S_Expression_nodes (C : CE) : DS :=
  sRet (eFld 1 "own_nodes" (eVar 0))
noncomputable def G_Expression_nodes (C : CE) : List D → Store → Res D := fun ds m => if ds.length = 1 then runB (S_Expression_nodes C) (startD 1 ds) m else .bad
theorem g_Expression_nodes (Z : KZ K mg) : GoodP P w K mg base 1 (He5.wf K (He.ga K "Expression") "property" "nodes") ["self"] (CL P w K) (G_Expression_nodes (CL P w K)) := by
  obtain ⟨fd, F⟩ := Z.fun_ 22 (d := d_Expression_nodes) rfl
  have F : FunD K "nodes" "Expression.nodes" (defArgs (mtop 60 7)) (defBody (mtop 60 7)) (defScope (mtop 60 7)) [] [] (He5.wf K (He.ga K "Expression") "property" "nodes") fd := F
  have Sc := sc_Expression_nodes
  refine ⟨fd, fnD (k := 0) (S := S_Expression_nodes (CL P w K)) F Sc (fun _ _ => rfl) fun cdv A outer s H E hr W tk hp => ?_, F.bindsN fun _ _ _ _ _ _ us hl => match us, hl with | [_], _ => rfl⟩
  exact
    ds_one (ds_ret (de_fld (zc_Expression (P := P) (w := w) Z) (zn_Expression_own_nodes (P := P) (w := w) Z) (de_var 0)))
/-! Expression.levels -/
theorem sc_Expression_levels : FnScope ["self"] ["self"] (defScope (mtop 60 10)) := ⟨rfl, rfl, rfl, by decide +kernel, rfl, by decide +kernel, by decide +kernel⟩
noncomputable def S_Expression_levels (C : CE) : DS :=
  sRet (eFld 1 "own_levels" (eVar 0))
noncomputable def G_Expression_levels (C : CE) : List D → Store → Res D := fun ds m => if ds.length = 1 then runB (S_Expression_levels C) (startD 1 ds) m else .bad
theorem g_Expression_levels (Z : KZ K mg) : GoodP P w K mg base 1 (He.ma K (He.ga K "Expression") "levels") ["self"] (CL P w K) (G_Expression_levels (CL P w K)) := by
  obtain ⟨fd, F⟩ := Z.fun_ 23 (d := d_Expression_levels) rfl
  have F : FunD K "levels" "Expression.levels" (defArgs (mtop 60 10)) (defBody (mtop 60 10)) (defScope (mtop 60 10)) [] [] (He.ma K (He.ga K "Expression") "levels") fd := F
  have Sc := sc_Expression_levels
  refine ⟨fd, fnD (k := 0) (S := S_Expression_levels (CL P w K)) F Sc (fun _ _ => rfl) fun cdv A outer s H E hr W tk hp => ?_, F.bindsN fun _ _ _ _ _ _ us hl => match us, hl with | [_], _ => rfl⟩
  exact
    ds_one (ds_ret (de_fld (zc_Expression (P := P) (w := w) Z) (zn_Expression_own_levels (P := P) (w := w) Z) (de_var 0)))
/-! Expression.kind -/
theorem sc_Expression_kind : FnScope ["self"] ["self"] (defScope (mtop 60 5)) := ⟨rfl, rfl, rfl, by decide +kernel, rfl, by decide +kernel, by decide +kernel⟩
noncomputable def S_Expression_kind (C : CE) : DS :=
  sRet (eFld 1 "own_kind" (eVar 0))
noncomputable def G_Expression_kind (C : CE) : List D → Store → Res D := fun ds m => if ds.length = 1 then runB (S_Expression_kind C) (startD 1 ds) m else .bad
theorem g_Expression_kind (Z : KZ K mg) : GoodP P w K mg base 1 (He5.wf K (He.ga K "Expression") "property" "kind") ["self"] (CL P w K) (G_Expression_kind (CL P w K)) := by
  obtain ⟨fd, F⟩ := Z.fun_ 24 (d := d_Expression_kind) rfl
  have F : FunD K "kind" "Expression.kind" (defArgs (mtop 60 5)) (defBody (mtop 60 5)) (defScope (mtop 60 5)) [] [] (He5.wf K (He.ga K "Expression") "property" "kind") fd := F
  have Sc := sc_Expression_kind
  refine ⟨fd, fnD (k := 0) (S := S_Expression_kind (CL P w K)) F Sc (fun _ _ => rfl) fun cdv A outer s H E hr W tk hp => ?_, F.bindsN fun _ _ _ _ _ _ us hl => match us, hl with | [_], _ => rfl⟩
  exact
    ds_one (ds_ret (de_fld (zc_Expression (P := P) (w := w) Z) (zn_Expression_own_kind (P := P) (w := w) Z) (de_var 0)))
/-! Expression.text -/
theorem sc_Expression_text : FnScope ["self"] ["self"] (defScope (mtop 60 6)) := ⟨rfl, rfl, rfl, by decide +kernel, rfl, by decide +kernel, by decide +kernel⟩
noncomputable def S_Expression_text (C : CE) : DS :=
  sRet (eFld 1 "own_text" (eVar 0))
noncomputable def G_Expression_text (C : CE) : List D → Store → Res D := fun ds m => if ds.length = 1 then runB (S_Expression_text C) (startD 1 ds) m else .bad
theorem g_Expression_text (Z : KZ K mg) : GoodP P w K mg base 1 (He5.wf K (He.ga K "Expression") "property" "text") ["self"] (CL P w K) (G_Expression_text (CL P w K)) := by
  obtain ⟨fd, F⟩ := Z.fun_ 25 (d := d_Expression_text) rfl
  have F : FunD K "text" "Expression.text" (defArgs (mtop 60 6)) (defBody (mtop 60 6)) (defScope (mtop 60 6)) [] [] (He5.wf K (He.ga K "Expression") "property" "text") fd := F
  have Sc := sc_Expression_text
  refine ⟨fd, fnD (k := 0) (S := S_Expression_text (CL P w K)) F Sc (fun _ _ => rfl) fun cdv A outer s H E hr W tk hp => ?_, F.bindsN fun _ _ _ _ _ _ us hl => match us, hl with | [_], _ => rfl⟩
  exact
    ds_one (ds_ret (de_fld (zc_Expression (P := P) (w := w) Z) (zn_Expression_own_text (P := P) (w := w) Z) (de_var 0)))
/-! enclosed_text -/
theorem sc_enclosed_text : FnScope ["part"] ["part"] (defScope (top 56)) := ⟨rfl, rfl, rfl, by decide +kernel, rfl, by decide +kernel, by decide +kernel⟩
noncomputable def S_enclosed_text (C : CE) : DS :=
  sRet (eIf (eTest (eBin dEq (eProp' 1 (G_Expression_kind C) (eVar 0)) (eC (.str "join")))) (eBin dAdd (eBin dAdd (eC (.str "(")) (eProp' 1 (G_Expression_text C) (eVar 0))) (eC (.str ")"))) (eProp' 1 (G_Expression_text C) (eVar 0)))
noncomputable def G_enclosed_text (C : CE) : List D → Store → Res D := fun ds m => if ds.length = 1 then runB (S_enclosed_text C) (startD 1 ds) m else .bad
theorem g_enclosed_text (Z : KZ K mg) : GoodP P w K mg base 3 (He.ga K "enclosed_text") ["part"] (CL P w K) (G_enclosed_text (CL P w K)) := by
  obtain ⟨fd, F⟩ := Z.fun_ 26 (d := d_enclosed_text) rfl
  have F : FunD K "enclosed_text" "enclosed_text" (defArgs (top 56)) (defBody (top 56)) (defScope (top 56)) [] [] (He.ga K "enclosed_text") fd := F
  have Sc := sc_enclosed_text
  refine ⟨fd, fnD (k := 2) (S := S_enclosed_text (CL P w K)) F Sc (fun _ _ => rfl) fun cdv A outer s H E hr W tk hp => ?_, F.bindsN fun _ _ _ _ _ _ us hl => match us, hl with | [_], _ => rfl⟩
  exact
    ds_one (ds_ret (de_if (dt_cmp (op_eqDD hr.units) od_eq (de_propG (k := 1) (hr.mono (by decide)) (zc_Expression (P := P) (w := w) Z) (zp_Expression_kind (P := P) (w := w) Z) (g_Expression_kind Z) (de_var 0)) (de_gstr rfl (zs_JOIN Z)) (nomark _)) (de_add (de_add (de_str) (de_propG (k := 1) (hr.mono (by decide)) (zc_Expression (P := P) (w := w) Z) (zp_Expression_text (P := P) (w := w) Z) (g_Expression_text Z) (de_var 0))) (de_str)) (de_propG (k := 1) (hr.mono (by decide)) (zc_Expression (P := P) (w := w) Z) (zp_Expression_text (P := P) (w := w) Z) (g_Expression_text Z) (de_var 0))))
/-! text_of_parts -/
theorem sc_text_of_parts : FnScope ["kind", "parts", "times", "part"] ["kind", "parts", "times"] (defScope (top 57)) := ⟨rfl, rfl, rfl, by decide +kernel, rfl, by decide +kernel, by decide +kernel⟩
noncomputable def S_text_of_parts (C : CE) : DS :=
  sCons (sIf (eTest (eBin dEq (eVar 0) (eC (.str "join")))) (sRet (eM1 dJoin (eC (.str " ")) (eLc [3] (iSeq (eVar 1)) (gName 3) (dTrue) (eCall (G_enclosed_text C) (aCons (eVar 3) (aNil)))))) (sNil)) <|
  sNever
noncomputable def G_text_of_parts (C : CE) : List D → Store → Res D := fun ds m => if ds.length = 3 then runB (S_text_of_parts C) (startD 4 ds) m else .bad
theorem g_text_of_parts (Z : KZ K mg) : GoodP P w K mg base 4 (He.ga K "text_of_parts") ["kind", "parts", "times"] (CL P w K) (G_text_of_parts (CL P w K)) := by
  obtain ⟨fd, F⟩ := Z.fun_ 27 (d := d_text_of_parts) rfl
  have F : FunD K "text_of_parts" "text_of_parts" (defArgs (top 57)) (defBody (top 57)) (defScope (top 57)) [] [] (He.ga K "text_of_parts") fd := F
  have Sc := sc_text_of_parts
  refine ⟨fd, fnD (k := 3) (S := S_text_of_parts (CL P w K)) F Sc (fun _ _ => rfl) fun cdv A outer s H E hr W tk hp => ?_, F.bindsN fun _ _ _ _ _ _ us hl => match us, hl with | [_, _, _], _ => rfl⟩
  exact
    ds_cons (ds_if (dt_cmp (op_eqDD hr.units) od_eq (de_var 0) (de_gstr rfl (zs_JOIN Z)) (nomark _)) (ds_one (ds_ret (de_join (de_str) (de_lc (own := [("part", 3)]) rfl Sc.nd rfl (di_seq (de_var 1)) (fun _ _ _ _ _ => dgv_name Sc.nd) (fun _ _ _ _ _ => dts_nil) (fun _ _ _ _ _ => de_call (k := 3) takes0 (hr.mono (by decide)) ((g_enclosed_text Z).g) (zg_enclosed_text Z) (zkp_enclosed_text Z) (da_cons (de_var 3) (da_nil))))))) (ds_nil)) <|
  ds_one (ds_never)
/-! Expression.__init__ -/
theorem sc_Expression_init : FnScope ["self", "kind", "sign", "parts", "times", "part"] ["self", "kind", "sign", "parts", "times"] (defScope (mtop 60 0)) := ⟨rfl, rfl, rfl, by decide +kernel, rfl, by decide +kernel, by decide +kernel⟩
noncomputable def S_Expression_init (C : CE) : DS :=
  sCons (sFldSet 1 "own_kind" (eVar 0) (eVar 1)) <|
  sCons (sFldSet 1 "own_parts" (eVar 0) (eCB fList (aCons (eVar 3) (aNil)))) <|
  sCons (sFldSet 1 "own_times" (eVar 0) (eVar 4)) <|
  sCons (sFldSet 1 "own_nodes" (eVar 0) (eBin dAdd (eC (.int 1)) (eCB fSum (aCons (eLc [5] (iSeq (eVar 3)) (gName 5) (dTrue) (eProp' 1 (G_Expression_nodes C) (eVar 5))) (aNil))))) <|
  sCons (sFldSet 1 "own_levels" (eVar 0) (eBin dAdd (eC (.int 1)) (eCBK fMaxD (aCons (eLc [5] (iSeq (eVar 3)) (gName 5) (dTrue) (eMeth 1 "levels" (G_Expression_levels C) (eVar 5) aNil)) (aNil)) (aCons (eC (.int 0)) (aNil))))) <|
  sFldSet 1 "own_text" (eVar 0) (eIf (eTest (eBin dIn (eVar 1) (eTup (aCons (eC (.str "person")) (aCons (eC (.str "name")) (aNil)))))) (eVar 2) (eCall (G_text_of_parts C) (aCons (eVar 1) (aCons (eVar 3) (aCons (eVar 4) (aNil))))))
noncomputable def G_Expression_init (C : CE) : List D → Store → Res D := fun ds m => if ds.length = 5 then runB (S_Expression_init C) (startD 6 ds) m else .bad
theorem g_Expression_init (Z : KZ K mg) : GoodP P w K mg base 5 (He.ma K (He.ga K "Expression") "__init__") ["self", "kind", "sign", "parts", "times"] (CL P w K) (G_Expression_init (CL P w K)) := by
  obtain ⟨fd, F⟩ := Z.fun_ 28 (d := d_Expression_init) rfl
  have F : FunD K "__init__" "Expression.__init__" (defArgs (mtop 60 0)) (defBody (mtop 60 0)) (defScope (mtop 60 0)) [] [] (He.ma K (He.ga K "Expression") "__init__") fd := F
  have Sc := sc_Expression_init
  refine ⟨fd, fnD (k := 4) (S := S_Expression_init (CL P w K)) F Sc (fun _ _ => rfl) fun cdv A outer s H E hr W tk hp => ?_, F.bindsN fun _ _ _ _ _ _ us hl => match us, hl with | [_, _, _, _, _], _ => rfl⟩
  exact
    ds_cons (ds_fldset (zc_Expression (P := P) (w := w) Z) (zn_Expression_own_kind (P := P) (w := w) Z) (de_var 0) (de_var 1)) <|
  ds_cons (ds_fldset (zc_Expression (P := P) (w := w) Z) (zn_Expression_own_parts (P := P) (w := w) Z) (de_var 0) (de_ct (cr_listD rfl) cd_list (zf_list Z) (da_cons (de_var 3) (da_nil)))) <|
  ds_cons (ds_fldset (zc_Expression (P := P) (w := w) Z) (zn_Expression_own_times (P := P) (w := w) Z) (de_var 0) (de_var 4)) <|
  ds_cons (ds_fldset (zc_Expression (P := P) (w := w) Z) (zn_Expression_own_nodes (P := P) (w := w) Z) (de_var 0) (de_add (de_int) (de_cb (cr_sum rfl) cd_sum (zf_sum Z) (da_cons (de_lc (own := [("part", 5)]) rfl Sc.nd rfl (di_seq (de_var 3)) (fun _ _ _ _ _ => dgv_name Sc.nd) (fun _ _ _ _ _ => dts_nil) (fun _ _ _ _ _ => de_propG (k := 1) (hr.mono (by decide)) (zc_Expression (P := P) (w := w) Z) (zp_Expression_nodes (P := P) (w := w) Z) (g_Expression_nodes Z) (de_var 5))) (da_nil))))) <|
  ds_cons (ds_fldset (zc_Expression (P := P) (w := w) Z) (zn_Expression_own_levels (P := P) (w := w) Z) (de_var 0) (de_add (de_int) (de_cbk (cr_maxDf rfl hr.units) cd_maxDf (zf_max Z) (da_cons (de_lc (own := [("part", 5)]) rfl Sc.nd rfl (di_seq (de_var 3)) (fun _ _ _ _ _ => dgv_name Sc.nd) (fun _ _ _ _ _ => dts_nil) (fun _ _ _ _ _ => de_meth0 (k := 1) takes0 (hr.mono (by decide)) (zc_Expression (P := P) (w := w) Z) (zm_Expression_levels (P := P) (w := w) Z) ((g_Expression_levels Z).g) (de_var 5))) (da_nil)) (dk_cons (de_int) (dk_nil))))) <|
  ds_one (ds_fldset (zc_Expression (P := P) (w := w) Z) (zn_Expression_own_text (P := P) (w := w) Z) (de_var 0) (de_if (dt_cmp (op_inG (hu65 hr)) od_in (de_var 1) (de_tup (da_cons (de_gstr rfl (zs_PERSON Z)) (da_cons (de_gstr rfl (zs_NAME Z)) (da_nil)))) (by with_unfolding_all rfl)) (de_var 2) (de_call (k := 4) tk (hr.mono (by decide)) ((g_text_of_parts Z).g) (zg_text_of_parts Z) (zkp_text_of_parts Z) (da_cons (de_var 1) (da_cons (de_var 3) (da_cons (de_var 4) (da_nil)))))))
/-! expression_of -/
theorem sc_expression_of : FnScope ["tree", "kind", "sign", "parts", "times", "nodes", "levels", "part"] ["tree"] (defScope (top 64)) := ⟨rfl, rfl, rfl, by decide +kernel, rfl, by decide +kernel, by decide +kernel⟩
noncomputable def S_expression_of (C : CE) (G_ : List D → Store → Res D) : DS :=
  sCons (sAsg (gTupD (gsCons (gName 1) (gsCons (gName 2) (gsCons (gName 3) (gsCons (gName 4) (gsCons (gName 5) (gsCons (gName 6) (gsNil)))))))) (eVar 0)) <|
  sRet (eCall (mkD 1 (G_Expression_init C)) (aCons (eVar 1) (aCons (eVar 2) (aCons (eLc [7] (iSeq (eVar 3)) (gName 7) (dTrue) (eCall G_ (aCons (eVar 7) (aNil)))) (aCons (eVar 4) (aNil))))))
noncomputable def G_expression_of (C : CE) : Nat → List D → Store → Res D
  | 0 => fun _ _ => .bad
  | n + 1 => fun ds m => if ds.length = 1 then runB (S_expression_of C (G_expression_of C n)) (startD 8 ds) m else .bad
abbrev expression_ofLV : Nat := 6
theorem g_expression_of (Z : KZ K mg) : ∀ n : Nat, GoodP P w K mg base (expression_ofLV + n + 1) (He.ga K "expression_of") ["tree"] (CL P w K) (G_expression_of (CL P w K) (n + 1)) := by
  obtain ⟨fd, F⟩ := Z.fun_ 29 (d := d_expression_of) rfl
  have F : FunD K "expression_of" "expression_of" (defArgs (top 64)) (defBody (top 64)) (defScope (top 64)) [] [] (He.ga K "expression_of") fd := F
  have Sc := sc_expression_of
  have B : Binds K fd ["tree"] [] := F.bindsN fun _ _ _ _ _ _ us hl => match us, hl with | [_], _ => rfl
  have step : ∀ (k : Nat) (G : List D → Store → Res D), 6 ≤ k → FnG P w K mg base k (He.ga K "expression_of") (CL P w K) G → FnOk P w K mg base (L2.CX P w) (k + 1) (He.ga K "expression_of") fd ["tree"] (spG K (CL P w K) fun ds m => if ds.length = 1 then runB (S_expression_of (CL P w K) G) (startD 8 ds) m else .bad) := fun k G hk ih =>
    fnD (S := S_expression_of (CL P w K) G) F Sc (fun _ _ => rfl) fun cdv A outer s H E hr W tk hp =>
    ds_cons (ds_asg (de_var 0) (dg_of (vs := [1, 2, 3, 4, 5, 6]) (dgv_tup (n := 6) rfl (dgvs_cons (dgv_name Sc.nd) (dgvs_cons (dgv_name Sc.nd) (dgvs_cons (dgv_name Sc.nd) (dgvs_cons (dgv_name Sc.nd) (dgvs_cons (dgv_name Sc.nd) (dgvs_cons (dgv_name Sc.nd) (dgvs_nil))))))) (gsl (gsl (gsl (gsl (gsl (gsl gsl0))))))))) <|
  ds_one (ds_ret (de_make (k := 5) tk (hr.mono (by omega)) (zk_Expression (P := P) (w := w) Z) ((g_Expression_init Z).g) (zg_Expression (P := P) (w := w) Z) (da_cons (de_var 1) (da_cons (de_var 2) (da_cons (de_lc (own := [("part", 7)]) rfl Sc.nd rfl (di_seq (de_var 3)) (fun _ _ _ _ _ => dgv_name Sc.nd) (fun _ _ _ _ _ => dts_nil) (fun _ _ _ _ _ => de_call (k := k) takes0 hr (ih) (zg_expression_of Z) (zkp_expression_of Z) (da_cons (de_var 7) (da_nil)))) (da_cons (de_var 4) (da_nil)))))))
  intro n
  induction n with
  | zero =>
    refine ⟨fd, step _ _ (Nat.le_refl _) ?_, B⟩
    exact FnG.bad
  | succ n ih => exact ⟨fd, step _ _ (by show 6 ≤ 6 + n + 1; omega) ih.g, B⟩
/-! Expression.read -/
theorem sc_Expression_read : FnScope ["cls", "text", "tree"] ["cls", "text"] (defScope (mtop 60 4)) := ⟨rfl, rfl, rfl, by decide +kernel, rfl, by decide +kernel, by decide +kernel⟩
noncomputable def S_Expression_read (C : CE) : DS :=
  sCons (sSet 2 (eCall (G_read_tree C) (aCons (eVar 1) (aNil)))) <|
  sCons (sExpr (eCall (G_require_measures C) (aCons (eBin dIx (eVar 2) (eC (.int 4))) (aCons (eBin dIx (eVar 2) (eC (.int 5))) (aNil))))) <|
  sRet (eCall (G_expression_of C 3) (aCons (eVar 2) (aNil)))
noncomputable def G_Expression_read (C : CE) : List D → Store → Res D := fun ds m => if ds.length = 2 then runB (S_Expression_read C) (startD 3 ds) m else .bad
theorem g_Expression_read (Z : KZ K mg) : GoodP P w K mg base 10 (He5.wf K (He.ga K "Expression") "classmethod" "read") ["cls", "text"] (CL P w K) (G_Expression_read (CL P w K)) := by
  obtain ⟨fd, F⟩ := Z.fun_ 30 (d := d_Expression_read) rfl
  have F : FunD K "read" "Expression.read" (defArgs (mtop 60 4)) (defBody (mtop 60 4)) (defScope (mtop 60 4)) [] [] (He5.wf K (He.ga K "Expression") "classmethod" "read") fd := F
  have Sc := sc_Expression_read
  refine ⟨fd, fnD (k := 9) (S := S_Expression_read (CL P w K)) F Sc (fun _ _ => rfl) fun cdv A outer s H E hr W tk hp => ?_, F.bindsN fun _ _ _ _ _ _ us hl => match us, hl with | [_, _], _ => rfl⟩
  exact
    ds_cons (ds_set Sc.nd (de_call (k := 6) tk (hr.mono (by decide)) ((g_read_tree Z).g) (zg_read_tree Z) (zkp_read_tree Z) (da_cons (de_var 1) (da_nil)))) <|
  ds_cons (ds_expr (de_call (k := 1) tk (hr.mono (by decide)) ((g_require_measures Z).g) (zg_require_measures Z) (zkp_require_measures Z) (da_cons (de_ix (hu1 hr) (de_var 2) (de_int)) (da_cons (de_ix (hu1 hr) (de_var 2) (de_int)) (da_nil))))) <|
  ds_one (ds_ret (de_call (k := 9) tk (hr.mono (by decide)) ((g_expression_of Z 2).g) (zg_expression_of Z) (zkp_expression_of Z) (da_cons (de_var 2) (da_nil))))
/-! is_definitions -/
theorem sc_is_definitions : FnScope ["value", "name", "expression"] ["value"] (defScope (top 70)) := ⟨rfl, rfl, rfl, by decide +kernel, rfl, by decide +kernel, by decide +kernel⟩
noncomputable def S_is_definitions (C : CE) : DS :=
  sCons (sIf (eOr (eNot (eTest (eIsi ["dict"] [] (fun _ => true) (fun _ => false) (eVar 0)))) (eTest (eBin dGt (eCB fLen (aCons (eVar 0) (aNil))) (eC (.int 60))))) (sRet (eC (.bl false))) (sNil)) <|
  sRet (eCB fAll (aCons (eLc [1, 2] (iItm (eVar 0)) (gTupD (gsCons (gName 1) (gsCons (gName 2) (gsNil)))) (dTrue) (eAndV (eCall (G_is_name C) (aCons (eVar 1) (aNil))) (eIsi [] [1] (fun _ => false) (fun _ => true) (eVar 2)))) (aNil)))
noncomputable def G_is_definitions (C : CE) : List D → Store → Res D := fun ds m => if ds.length = 1 then runB (S_is_definitions C) (startD 3 ds) m else .bad
theorem g_is_definitions (Z : KZ K mg) : GoodP P w K mg base 3 (He.ga K "is_definitions") ["value"] (CL P w K) (G_is_definitions (CL P w K)) := by
  obtain ⟨fd, F⟩ := Z.fun_ 31 (d := d_is_definitions) rfl
  have F : FunD K "is_definitions" "is_definitions" (defArgs (top 70)) (defBody (top 70)) (defScope (top 70)) [] [] (He.ga K "is_definitions") fd := F
  have Sc := sc_is_definitions
  refine ⟨fd, fnD (k := 2) (S := S_is_definitions (CL P w K)) F Sc (fun _ _ => rfl) fun cdv A outer s H E hr W tk hp => ?_, F.bindsN fun _ _ _ _ _ _ us hl => match us, hl with | [_], _ => rfl⟩
  exact
    ds_cons (ds_if (PW.pt (dw_or (dt_not (dt_val (de_isi (isi_ty (zf_dict Z) (List.forall_mem_cons.mpr ⟨(zis_dict_dict Z), (by intro _ h; cases h)⟩) (by intro _ h; cases h)) (de_var 0) (zf_isinstance Z)))) (dw_or1 (dt_cmp (op_gt) od_cmp (de_cb cr_lenD cd_len (zf_len Z) (da_cons (de_var 0) (da_nil))) (de_gint rfl (zi_MAX_NAMES Z)) (nomark _))))) (ds_one (ds_ret (de_bl))) (ds_nil)) <|
  ds_one (ds_ret (de_cb (cr_all rfl) cd_all (zf_all Z) (da_cons (de_lc (own := [("name", 1), ("expression", 2)]) rfl Sc.nd rfl (di_items (de_var 0)) (fun _ _ _ _ _ => dgv_tup (n := 2) rfl (dgvs_cons (dgv_name Sc.nd) (dgvs_cons (dgv_name Sc.nd) (dgvs_nil))) (gsl (gsl gsl0))) (fun _ _ _ _ _ => dts_nil) (fun _ _ _ _ _ => de_and (de_call (k := 2) takes0 (hr.mono (by decide)) ((g_is_name Z).g) (zg_is_name Z) (zkp_is_name Z) (da_cons (de_var 1) (da_nil))) (de_one (de_isi (isi_own (zg_Expression (P := P) (w := w) Z) (by intro _ h; cases h) (List.forall_mem_cons.mpr ⟨⟨(zis_Expression_Expression (P := P) (w := w) Z), (zkit_Expression (P := P) (w := w) Z)⟩, (by intro _ h; cases h)⟩)) (de_var 2) (zf_isinstance Z))))) (da_nil))))
/-! Expression.names -/
theorem sc_Expression_names : FnScope ["self", "part", "name"] ["self"] (defScope (mtop 60 12)) := ⟨rfl, rfl, rfl, by decide +kernel, rfl, by decide +kernel, by decide +kernel⟩
noncomputable def S_Expression_names (C : CE) (G_ : List D → Store → Res D) : DS :=
  sCons (sIf (eTest (eBin dEq (eFld 1 "own_kind" (eVar 0)) (eC (.str "name")))) (sNever) (sNil)) <|
  sRet (eCB fSortSet (aCons (eSc2 [1, 2] [2] (iSeq (eFld 1 "own_parts" (eVar 0))) (gName 1) (dTrue) (iSeq (eMeth 1 "names" G_ (eVar 1) aNil)) (gName 2) (dTrue) (eVar 2)) (aNil)))
noncomputable def G_Expression_names (C : CE) : Nat → List D → Store → Res D
  | 0 => fun _ _ => .bad
  | n + 1 => fun ds m => if ds.length = 1 then runB (S_Expression_names C (G_Expression_names C n)) (startD 3 ds) m else .bad
abbrev Expression_namesLV : Nat := 0
theorem g_Expression_names (Z : KZ K mg) : ∀ n : Nat, GoodP P w K mg base (Expression_namesLV + n + 1) (He.ma K (He.ga K "Expression") "names") ["self"] (CL P w K) (G_Expression_names (CL P w K) (n + 1)) := by
  obtain ⟨fd, F⟩ := Z.fun_ 32 (d := d_Expression_names) rfl
  have F : FunD K "names" "Expression.names" (defArgs (mtop 60 12)) (defBody (mtop 60 12)) (defScope (mtop 60 12)) [] [] (He.ma K (He.ga K "Expression") "names") fd := F
  have Sc := sc_Expression_names
  have B : Binds K fd ["self"] [] := F.bindsN fun _ _ _ _ _ _ us hl => match us, hl with | [_], _ => rfl
  have step : ∀ (k : Nat) (G : List D → Store → Res D), 0 ≤ k → FnG P w K mg base k (He.ma K (He.ga K "Expression") "names") (CL P w K) G → FnOk P w K mg base (L2.CX P w) (k + 1) (He.ma K (He.ga K "Expression") "names") fd ["self"] (spG K (CL P w K) fun ds m => if ds.length = 1 then runB (S_Expression_names (CL P w K) G) (startD 3 ds) m else .bad) := fun k G hk ih =>
    fnD (S := S_Expression_names (CL P w K) G) F Sc (fun _ _ => rfl) fun cdv A outer s H E hr W tk hp =>
    ds_cons (ds_if (dt_cmp (op_eqDD hr.units) od_eq (de_fld (zc_Expression (P := P) (w := w) Z) (zn_Expression_own_kind (P := P) (w := w) Z) (de_var 0)) (de_gstr rfl (zs_NAME Z)) (nomark _)) (dss_never) (ds_nil)) <|
  ds_one (ds_ret (de_cb (cr_sortSet rfl) (cd_sortSet CC_S) (zf_sorted Z) (da_cons (de_sc2 (own := [("part", 1), ("name", 2)]) (vs1 := [2]) CC_S rfl Sc.nd rfl (by decide) (di_seq (de_fld (zc_Expression (P := P) (w := w) Z) (zn_Expression_own_parts (P := P) (w := w) Z) (de_var 0))) (fun _ _ _ _ _ => dgv_name Sc.nd) (fun _ _ _ _ _ => dts_nil) (fun _ _ _ _ _ => de_var 2) (fun _ _ _ _ _ => di_seq (de_meth0 (k := k) takes0 hr (zc_Expression (P := P) (w := w) Z) (zm_Expression_names (P := P) (w := w) Z) (ih) (de_var 1))) (fun _ _ _ _ _ => dgv_name Sc.nd) (fun _ _ _ _ _ => dts_nil)) (da_nil))))
  intro n
  induction n with
  | zero =>
    refine ⟨fd, step _ _ (Nat.le_refl _) ?_, B⟩
    exact FnG.bad
  | succ n ih => exact ⟨fd, step _ _ (by show 0 ≤ 0 + n + 1; omega) ih.g, B⟩
/-! reached_from -/
theorem sc_reached_from : FnScope ["links", "start", "found", "left", "name"] ["links", "start"] (defScope (top 71)) := ⟨rfl, rfl, rfl, by decide +kernel, rfl, by decide +kernel, by decide +kernel⟩
noncomputable def S_reached_from (C : CE) : DS :=
  sCons (sSet 2 (eNewL (aNil))) <|
  sCons (sSet 3 (eNewL (aNil))) <|
  sCons (sExpr (eOnL extD (eVar 3) (eBin dIx (eVar 0) (eVar 1)))) <|
  sCons (sWhile (eTest (eBin dNe (eVar 3) (eLst (aNil)))) (sCons (sSet 4 (ePop (eVar 3))) <|
    sIf (eTest (eBin dNotIn (eVar 4) (eVar 2))) (sCons (sExpr (eOnL appD (eVar 2) (eVar 4))) <|
      sExpr (eOnL extD (eVar 3) (eBin dIx (eVar 0) (eVar 4)))) (sNil))) <|
  sRet (eCB fSortedS (aCons (eVar 2) (aNil)))
noncomputable def G_reached_from (C : CE) : List D → Store → Res D := fun ds m => if ds.length = 2 then runB (S_reached_from C) (startD 5 ds) m else .bad
noncomputable def GP_reached_from (C : CE) : List D → Store → Res D := fun ds m => popR m (G_reached_from C ds m)
theorem g_reached_from (Z : KZ K mg) : GoodP P w K mg base 1 (He.ga K "reached_from") ["links", "start"] (CL P w K) (G_reached_from (CL P w K)) := by
  obtain ⟨fd, F⟩ := Z.fun_ 33 (d := d_reached_from) rfl
  have F : FunD K "reached_from" "reached_from" (defArgs (top 71)) (defBody (top 71)) (defScope (top 71)) [] [] (He.ga K "reached_from") fd := F
  have Sc := sc_reached_from
  refine ⟨fd, fnD (k := 0) (S := S_reached_from (CL P w K)) F Sc (fun _ _ => rfl) fun cdv A outer s H E hr W tk hp => ?_, F.bindsN fun _ _ _ _ _ _ us hl => match us, hl with | [_, _], _ => rfl⟩
  exact
    ds_cons (ds_set Sc.nd (de_newL (da_nil))) <|
  ds_cons (ds_set Sc.nd (de_newL (da_nil))) <|
  ds_cons (ds_expr (de_extend (de_var 3) (de_ix (hu1 hr) (de_var 0) (de_var 1)))) <|
  ds_cons (ds_while hp (dt_cmp (op_neDD hr.units) od_ne (de_var 3) (de_lst (da_nil)) (nomark _)) (ds_cons (ds_set Sc.nd (de_pop (de_var 3))) <|
    ds_one (ds_if (dt_cmp (op_notInG (hu65 hr)) od_notIn (de_var 4) (de_var 2) (by with_unfolding_all rfl)) (ds_cons (ds_expr (de_append (de_var 2) (de_var 4))) <|
      ds_one (ds_expr (de_extend (de_var 3) (de_ix (hu1 hr) (de_var 0) (de_var 4))))) (ds_nil)))) <|
  ds_one (ds_ret (de_cb (cr_sortedSD rfl) cd_sortedS (zf_sorted Z) (da_cons (de_var 2) (da_nil))))
/-! ordered_names -/
theorem sc_ordered_names : FnScope ["links", "found", "left", "name", "missing", "used"] ["links"] (defScope (top 74)) := ⟨rfl, rfl, rfl, by decide +kernel, rfl, by decide +kernel, by decide +kernel⟩
noncomputable def S_ordered_names (C : CE) : DS :=
  sCons (sSet 1 (eNewL (aNil))) <|
  sCons (sSet 2 (eNewL (aNil))) <|
  sCons (sExpr (eOnL extD (eVar 2) (eCBK fSortedR (aCons (eVar 0) (aNil)) (aCons (eC (.bl true)) (aNil))))) <|
  sCons (sWhile (eTest (eBin dNe (eVar 2) (eLst (aNil)))) (sCons (sSet 3 (eBin dIx (eVar 2) (eNeg (eC (.int 1))))) <|
    sCons (sSet 4 (eLc [5] (iSeq (eBin dIx (eVar 0) (eVar 3))) (gName 5) (eTest (eBin dNotIn (eVar 5) (eVar 1))) (eVar 5))) <|
    sCons (sIf (eOr (eTest (eBin dIn (eVar 3) (eVar 1))) (eTest (eBin dEq (eVar 4) (eLst (aNil))))) (sExpr (ePop (eVar 2))) (sNil)) <|
    sCons (sIf (eAnd (eTest (eBin dNotIn (eVar 3) (eVar 1))) (eTest (eBin dEq (eVar 4) (eLst (aNil))))) (sExpr (eOnL appD (eVar 1) (eVar 3))) (sNil)) <|
    sExpr (eOnL extD (eVar 2) (eVar 4)))) <|
  thawS 1 (sRet (eVar 1))
noncomputable def G_ordered_names (C : CE) : List D → Store → Res D := fun ds m => if ds.length = 1 then runB (S_ordered_names C) (startD 6 ds) m else .bad
noncomputable def GP_ordered_names (C : CE) : List D → Store → Res D := fun ds m => popR m (G_ordered_names C ds m)
theorem g_ordered_names (Z : KZ K mg) : GoodP P w K mg base 1 (He.ga K "ordered_names") ["links"] (CL P w K) (G_ordered_names (CL P w K)) := by
  obtain ⟨fd, F⟩ := Z.fun_ 34 (d := d_ordered_names) rfl
  have F : FunD K "ordered_names" "ordered_names" (defArgs (top 74)) (defBody (top 74)) (defScope (top 74)) [] [] (He.ga K "ordered_names") fd := F
  have Sc := sc_ordered_names
  refine ⟨fd, fnD (k := 0) (S := S_ordered_names (CL P w K)) F Sc (fun _ _ => rfl) fun cdv A outer s H E hr W tk hp => ?_, F.bindsN fun _ _ _ _ _ _ us hl => match us, hl with | [_], _ => rfl⟩
  exact
    ds_cons (ds_set Sc.nd (de_newL (da_nil))) <|
  ds_cons (ds_set Sc.nd (de_newL (da_nil))) <|
  ds_cons (ds_expr (de_extend (de_var 2) (de_cbk (cr_sortedR1 rfl) cd_sortedR1 (zf_sorted Z) (da_cons (de_var 0) (da_nil)) (dk_cons (de_bl) (dk_nil))))) <|
  ds_cons (ds_while hp (dt_cmp (op_neDD hr.units) od_ne (de_var 2) (de_lst (da_nil)) (nomark _)) (ds_cons (ds_set Sc.nd (de_ix (hu1 hr) (de_var 2) (de_neg (de_int)))) <|
    ds_cons (ds_setLc (own := [("used", 5)]) rfl Sc.nd rfl (di_seq (de_ix (hu1 hr) (de_var 0) (de_var 3))) (fun _ _ _ _ _ => dgv_name Sc.nd) (fun _ _ _ _ _ => dts_one (dt_cmp (op_notInG (hu65 hr)) od_notIn (de_var 5) (de_var 1) (by with_unfolding_all rfl))) (fun _ _ _ _ _ => de_var 5)) <|
    ds_cons (ds_if (PW.pt (dw_or (dt_cmp (op_inG (hu65 hr)) od_in (de_var 3) (de_var 1) (by with_unfolding_all rfl)) (dw_or1 (dt_cmp (op_eqDD hr.units) od_eq (de_var 4) (de_lst (da_nil)) (nomark _))))) (ds_one (ds_expr (de_pop (de_var 2)))) (ds_nil)) <|
    ds_cons (ds_if (PW.pt (dw_and (dt_cmp (op_notInG (hu65 hr)) od_notIn (de_var 3) (de_var 1) (by with_unfolding_all rfl)) (dw_and1 (dt_cmp (op_eqDD hr.units) od_eq (de_var 4) (de_lst (da_nil)) (nomark _))))) (ds_one (ds_expr (de_append (de_var 1) (de_var 3)))) (ds_nil)) <|
    ds_one (ds_expr (de_extend (de_var 2) (de_var 4))))) <|
  dss_thaw 1 (ds_one (ds_ret (de_var 1)))
/-! Expression.parts -/
theorem sc_Expression_parts : FnScope ["self"] ["self"] (defScope (mtop 60 11)) := ⟨rfl, rfl, rfl, by decide +kernel, rfl, by decide +kernel, by decide +kernel⟩
noncomputable def S_Expression_parts (C : CE) : DS :=
  sRet (eCB fList (aCons (eFld 1 "own_parts" (eVar 0)) (aNil)))
noncomputable def G_Expression_parts (C : CE) : List D → Store → Res D := fun ds m => if ds.length = 1 then runB (S_Expression_parts C) (startD 1 ds) m else .bad
theorem g_Expression_parts (Z : KZ K mg) : GoodP P w K mg base 1 (He.ma K (He.ga K "Expression") "parts") ["self"] (CL P w K) (G_Expression_parts (CL P w K)) := by
  obtain ⟨fd, F⟩ := Z.fun_ 35 (d := d_Expression_parts) rfl
  have F : FunD K "parts" "Expression.parts" (defArgs (mtop 60 11)) (defBody (mtop 60 11)) (defScope (mtop 60 11)) [] [] (He.ma K (He.ga K "Expression") "parts") fd := F
  have Sc := sc_Expression_parts
  refine ⟨fd, fnD (k := 0) (S := S_Expression_parts (CL P w K)) F Sc (fun _ _ => rfl) fun cdv A outer s H E hr W tk hp => ?_, F.bindsN fun _ _ _ _ _ _ us hl => match us, hl with | [_], _ => rfl⟩
  exact
    ds_one (ds_ret (de_ct (cr_listD rfl) cd_list (zf_list Z) (da_cons (de_fld (zc_Expression (P := P) (w := w) Z) (zn_Expression_own_parts (P := P) (w := w) Z) (de_var 0)) (da_nil))))
/-! persons_within -/
theorem sc_persons_within : FnScope ["expression", "sizes", "total", "part"] ["expression", "sizes"] (defScope (top 72)) := ⟨rfl, rfl, rfl, by decide +kernel, rfl, by decide +kernel, by decide +kernel⟩
noncomputable def S_persons_within (C : CE) (G_ : List D → Store → Res D) : DS :=
  sCons (sIf (eTest (eBin dEq (eProp' 1 (G_Expression_kind C) (eVar 0)) (eC (.str "person")))) (sRet (eC (.int 1))) (sNil)) <|
  sCons (sIf (eTest (eBin dEq (eProp' 1 (G_Expression_kind C) (eVar 0)) (eC (.str "name")))) (sNever) (sNil)) <|
  sCons (sSet 2 (eCB fSum (aCons (eLc [3] (iSeq (eMeth 1 "parts" (G_Expression_parts C) (eVar 0) aNil)) (gName 3) (dTrue) (eCall G_ (aCons (eVar 3) (aCons (eVar 1) (aNil))))) (aNil)))) <|
  sRet (eIf (eTest (eBin dEq (eProp' 1 (G_Expression_kind C) (eVar 0)) (eC (.str "repeat")))) (eNever) (eVar 2))
noncomputable def G_persons_within (C : CE) : Nat → List D → Store → Res D
  | 0 => fun _ _ => .bad
  | n + 1 => fun ds m => if ds.length = 2 then runB (S_persons_within C (G_persons_within C n)) (startD 4 ds) m else .bad
abbrev persons_withinLV : Nat := 2
theorem g_persons_within (Z : KZ K mg) : ∀ n : Nat, GoodP P w K mg base (persons_withinLV + n + 1) (He.ga K "persons_within") ["expression", "sizes"] (CL P w K) (G_persons_within (CL P w K) (n + 1)) := by
  obtain ⟨fd, F⟩ := Z.fun_ 36 (d := d_persons_within) rfl
  have F : FunD K "persons_within" "persons_within" (defArgs (top 72)) (defBody (top 72)) (defScope (top 72)) [] [] (He.ga K "persons_within") fd := F
  have Sc := sc_persons_within
  have B : Binds K fd ["expression", "sizes"] [] := F.bindsN fun _ _ _ _ _ _ us hl => match us, hl with | [_, _], _ => rfl
  have step : ∀ (k : Nat) (G : List D → Store → Res D), 2 ≤ k → FnG P w K mg base k (He.ga K "persons_within") (CL P w K) G → FnOk P w K mg base (L2.CX P w) (k + 1) (He.ga K "persons_within") fd ["expression", "sizes"] (spG K (CL P w K) fun ds m => if ds.length = 2 then runB (S_persons_within (CL P w K) G) (startD 4 ds) m else .bad) := fun k G hk ih =>
    fnD (S := S_persons_within (CL P w K) G) F Sc (fun _ _ => rfl) fun cdv A outer s H E hr W tk hp =>
    ds_cons (ds_if (dt_cmp (op_eqDD hr.units) od_eq (de_propG (k := 1) (hr.mono (by omega)) (zc_Expression (P := P) (w := w) Z) (zp_Expression_kind (P := P) (w := w) Z) (g_Expression_kind Z) (de_var 0)) (de_gstr rfl (zs_PERSON Z)) (nomark _)) (ds_one (ds_ret (de_int))) (ds_nil)) <|
  ds_cons (ds_if (dt_cmp (op_eqDD hr.units) od_eq (de_propG (k := 1) (hr.mono (by omega)) (zc_Expression (P := P) (w := w) Z) (zp_Expression_kind (P := P) (w := w) Z) (g_Expression_kind Z) (de_var 0)) (de_gstr rfl (zs_NAME Z)) (nomark _)) (dss_never) (ds_nil)) <|
  ds_cons (ds_set Sc.nd (de_cb (cr_sum rfl) cd_sum (zf_sum Z) (da_cons (de_lc (own := [("part", 3)]) rfl Sc.nd rfl (di_seq (de_meth0 (k := 1) tk (hr.mono (by omega)) (zc_Expression (P := P) (w := w) Z) (zm_Expression_parts (P := P) (w := w) Z) ((g_Expression_parts Z).g) (de_var 0))) (fun _ _ _ _ _ => dgv_name Sc.nd) (fun _ _ _ _ _ => dts_nil) (fun _ _ _ _ _ => de_call (k := k) takes0 hr (ih) (zg_persons_within Z) (zkp_persons_within Z) (da_cons (de_var 3) (da_cons (de_var 1) (da_nil))))) (da_nil)))) <|
  ds_one (ds_ret (de_if (dt_cmp (op_eqDD hr.units) od_eq (de_propG (k := 1) (hr.mono (by omega)) (zc_Expression (P := P) (w := w) Z) (zp_Expression_kind (P := P) (w := w) Z) (g_Expression_kind Z) (de_var 0)) (de_gstr rfl (zs_REPEAT Z)) (nomark _)) (de_never) (de_var 2)))
  intro n
  induction n with
  | zero =>
    refine ⟨fd, step _ _ (Nat.le_refl _) ?_, B⟩
    exact FnG.bad
  | succ n ih => exact ⟨fd, step _ _ (by show 2 ≤ 2 + n + 1; omega) ih.g, B⟩
/-! all_lengths -/
theorem sc_all_lengths : FnScope ["parts", "order", "sizes", "name"] ["parts", "order"] (defScope (top 75)) := ⟨rfl, rfl, rfl, by decide +kernel, rfl, by decide +kernel, by decide +kernel⟩
noncomputable def S_all_lengths (C : CE) : DS :=
  sCons (sSet 2 (eNewD)) <|
  sCons (sFor (iSeq (eVar 1)) (gName 3) (sPut (eVar 2) (eVar 3) (eCall (G_persons_within C 3) (aCons (eBin dIx (eVar 0) (eVar 3)) (aCons (eVar 2) (aNil)))))) <|
  thawS 2 (sRet (eVar 2))
noncomputable def G_all_lengths (C : CE) : List D → Store → Res D := fun ds m => if ds.length = 2 then runB (S_all_lengths C) (startD 4 ds) m else .bad
noncomputable def GP_all_lengths (C : CE) : List D → Store → Res D := fun ds m => popR m (G_all_lengths C ds m)
theorem g_all_lengths (Z : KZ K mg) : GoodP P w K mg base 6 (He.ga K "all_lengths") ["parts", "order"] (CL P w K) (G_all_lengths (CL P w K)) := by
  obtain ⟨fd, F⟩ := Z.fun_ 37 (d := d_all_lengths) rfl
  have F : FunD K "all_lengths" "all_lengths" (defArgs (top 75)) (defBody (top 75)) (defScope (top 75)) [] [] (He.ga K "all_lengths") fd := F
  have Sc := sc_all_lengths
  refine ⟨fd, fnD (k := 5) (S := S_all_lengths (CL P w K)) F Sc (fun _ _ => rfl) fun cdv A outer s H E hr W tk hp => ?_, F.bindsN fun _ _ _ _ _ _ us hl => match us, hl with | [_, _], _ => rfl⟩
  exact
    ds_cons (ds_set Sc.nd (de_newD)) <|
  ds_cons (ds_for hp rfl (di_seq (de_var 1)) (dg_name Sc.nd) (ds_one (ds_put (hu1 hr) (de_var 2) (de_var 3) (de_call (k := 5) tk (hr.mono (by decide)) ((g_persons_within Z 2).g) (zg_persons_within Z) (zkp_persons_within Z) (da_cons (de_ix (hu1 hr) (de_var 0) (de_var 3)) (da_cons (de_var 2) (da_nil))))))) <|
  dss_thaw 2 (ds_one (ds_ret (de_var 2)))
/-! levels_of -/
theorem sc_levels_of : FnScope ["expression", "listed", "part"] ["expression", "listed"] (defScope (top 73)) := ⟨rfl, rfl, rfl, by decide +kernel, rfl, by decide +kernel, by decide +kernel⟩
noncomputable def S_levels_of (C : CE) (G_ : List D → Store → Res D) : DS :=
  sCons (sIf (eTest (eBin dEq (eProp' 1 (G_Expression_kind C) (eVar 0)) (eC (.str "name")))) (sNever) (sNil)) <|
  sRet (eBin dAdd (eC (.int 1)) (eCBK fMaxD (aCons (eLc [2] (iSeq (eMeth 1 "parts" (G_Expression_parts C) (eVar 0) aNil)) (gName 2) (dTrue) (eCall G_ (aCons (eVar 2) (aCons (eVar 1) (aNil))))) (aNil)) (aCons (eC (.int 0)) (aNil))))
noncomputable def G_levels_of (C : CE) : Nat → List D → Store → Res D
  | 0 => fun _ _ => .bad
  | n + 1 => fun ds m => if ds.length = 2 then runB (S_levels_of C (G_levels_of C n)) (startD 3 ds) m else .bad
abbrev levels_ofLV : Nat := 2
theorem g_levels_of (Z : KZ K mg) : ∀ n : Nat, GoodP P w K mg base (levels_ofLV + n + 1) (He.ga K "levels_of") ["expression", "listed"] (CL P w K) (G_levels_of (CL P w K) (n + 1)) := by
  obtain ⟨fd, F⟩ := Z.fun_ 38 (d := d_levels_of) rfl
  have F : FunD K "levels_of" "levels_of" (defArgs (top 73)) (defBody (top 73)) (defScope (top 73)) [] [] (He.ga K "levels_of") fd := F
  have Sc := sc_levels_of
  have B : Binds K fd ["expression", "listed"] [] := F.bindsN fun _ _ _ _ _ _ us hl => match us, hl with | [_, _], _ => rfl
  have step : ∀ (k : Nat) (G : List D → Store → Res D), 2 ≤ k → FnG P w K mg base k (He.ga K "levels_of") (CL P w K) G → FnOk P w K mg base (L2.CX P w) (k + 1) (He.ga K "levels_of") fd ["expression", "listed"] (spG K (CL P w K) fun ds m => if ds.length = 2 then runB (S_levels_of (CL P w K) G) (startD 3 ds) m else .bad) := fun k G hk ih =>
    fnD (S := S_levels_of (CL P w K) G) F Sc (fun _ _ => rfl) fun cdv A outer s H E hr W tk hp =>
    ds_cons (ds_if (dt_cmp (op_eqDD hr.units) od_eq (de_propG (k := 1) (hr.mono (by omega)) (zc_Expression (P := P) (w := w) Z) (zp_Expression_kind (P := P) (w := w) Z) (g_Expression_kind Z) (de_var 0)) (de_gstr rfl (zs_NAME Z)) (nomark _)) (dss_never) (ds_nil)) <|
  ds_one (ds_ret (de_add (de_int) (de_cbk (cr_maxDf rfl hr.units) cd_maxDf (zf_max Z) (da_cons (de_lc (own := [("part", 2)]) rfl Sc.nd rfl (di_seq (de_meth0 (k := 1) tk (hr.mono (by omega)) (zc_Expression (P := P) (w := w) Z) (zm_Expression_parts (P := P) (w := w) Z) ((g_Expression_parts Z).g) (de_var 0))) (fun _ _ _ _ _ => dgv_name Sc.nd) (fun _ _ _ _ _ => dts_nil) (fun _ _ _ _ _ => de_call (k := k) takes0 hr (ih) (zg_levels_of Z) (zkp_levels_of Z) (da_cons (de_var 2) (da_cons (de_var 1) (da_nil))))) (da_nil)) (dk_cons (de_int) (dk_nil)))))
  intro n
  induction n with
  | zero =>
    refine ⟨fd, step _ _ (Nat.le_refl _) ?_, B⟩
    exact FnG.bad
  | succ n ih => exact ⟨fd, step _ _ (by show 2 ≤ 2 + n + 1; omega) ih.g, B⟩
/-! all_levels -/
theorem sc_all_levels : FnScope ["parts", "order", "found", "name"] ["parts", "order"] (defScope (top 76)) := ⟨rfl, rfl, rfl, by decide +kernel, rfl, by decide +kernel, by decide +kernel⟩
noncomputable def S_all_levels (C : CE) : DS :=
  sCons (sSet 2 (eNewD)) <|
  sCons (sFor (iSeq (eVar 1)) (gName 3) (sPut (eVar 2) (eVar 3) (eCall (G_levels_of C 3) (aCons (eBin dIx (eVar 0) (eVar 3)) (aCons (eVar 2) (aNil)))))) <|
  thawS 2 (sRet (eVar 2))
noncomputable def G_all_levels (C : CE) : List D → Store → Res D := fun ds m => if ds.length = 2 then runB (S_all_levels C) (startD 4 ds) m else .bad
noncomputable def GP_all_levels (C : CE) : List D → Store → Res D := fun ds m => popR m (G_all_levels C ds m)
theorem g_all_levels (Z : KZ K mg) : GoodP P w K mg base 6 (He.ga K "all_levels") ["parts", "order"] (CL P w K) (G_all_levels (CL P w K)) := by
  obtain ⟨fd, F⟩ := Z.fun_ 39 (d := d_all_levels) rfl
  have F : FunD K "all_levels" "all_levels" (defArgs (top 76)) (defBody (top 76)) (defScope (top 76)) [] [] (He.ga K "all_levels") fd := F
  have Sc := sc_all_levels
  refine ⟨fd, fnD (k := 5) (S := S_all_levels (CL P w K)) F Sc (fun _ _ => rfl) fun cdv A outer s H E hr W tk hp => ?_, F.bindsN fun _ _ _ _ _ _ us hl => match us, hl with | [_, _], _ => rfl⟩
  exact
    ds_cons (ds_set Sc.nd (de_newD)) <|
  ds_cons (ds_for hp rfl (di_seq (de_var 1)) (dg_name Sc.nd) (ds_one (ds_put (hu1 hr) (de_var 2) (de_var 3) (de_call (k := 5) tk (hr.mono (by decide)) ((g_levels_of Z 2).g) (zg_levels_of Z) (zkp_levels_of Z) (da_cons (de_ix (hu1 hr) (de_var 0) (de_var 3)) (da_cons (de_var 2) (da_nil))))))) <|
  dss_thaw 2 (ds_one (ds_ret (de_var 2)))
/-! Source.__init__ -/
theorem sc_Source_init : FnScope ["self", "definitions", "used", "name", "expression", "names", "one", "size", "level"] ["self", "definitions"] (defScope (mtop 77 0)) := ⟨rfl, rfl, rfl, by decide +kernel, rfl, by decide +kernel, by decide +kernel⟩
noncomputable def S_Source_init (C : CE) : DS :=
  sCons (sIf (eNot (eTest (eCall (G_is_definitions C) (aCons (eVar 1) (aNil))))) (sNever) (sNil)) <|
  sCons (sFldSet 2 "own_parts" (eVar 0) (eDc [3] (iSeq (eCB fSortedS (aCons (eVar 1) (aNil)))) (gName 3) (dTrue) (eVar 3) (eBin dIx (eVar 1) (eVar 3)))) <|
  sCons (sFldSet 2 "own_links" (eVar 0) (eDc [3, 4] (iItm (eFld 2 "own_parts" (eVar 0))) (gTupD (gsCons (gName 3) (gsCons (gName 4) (gsNil)))) (dTrue) (eVar 3) (eMeth 1 "names" (G_Expression_names C 3) (eVar 4) aNil))) <|
  sCons (sSet 2 (eCB fSortSet (aCons (eSc2 [5, 6] [6] (iVal (eFld 2 "own_links" (eVar 0))) (gName 5) (dTrue) (iSeq (eVar 5)) (gName 6) (eTest (eBin dNotIn (eVar 6) (eFld 2 "own_parts" (eVar 0)))) (eVar 6)) (aNil)))) <|
  sCons (sIf (eTest (eBin dNe (eVar 2) (eLst (aNil)))) (sNever) (sNil)) <|
  sCons (sFor (iSeq (eFld 2 "own_parts" (eVar 0))) (gName 3) (sIf (eTest (eBin dIn (eVar 3) (eCall (GP_reached_from C) (aCons (eFld 2 "own_links" (eVar 0)) (aCons (eVar 3) (aNil)))))) (sNever) (sNil))) <|
  sCons (sFldSet 2 "own_order" (eVar 0) (eCall (GP_ordered_names C) (aCons (eFld 2 "own_links" (eVar 0)) (aNil)))) <|
  sCons (sFldSet 2 "own_sizes" (eVar 0) (eCall (GP_all_lengths C) (aCons (eFld 2 "own_parts" (eVar 0)) (aCons (eFld 2 "own_order" (eVar 0)) (aNil))))) <|
  sCons (sIf (eTest (eCB fAny (aCons (eLc [7] (iVal (eFld 2 "own_sizes" (eVar 0))) (gName 7) (dTrue) (eBin dGt (eVar 7) (eC (.int 1000000000000000000000000000000000000000000000000000000000000)))) (aNil)))) (sNever) (sNil)) <|
  sIf (eTest (eCB fAny (aCons (eLc [8] (iVal (eCall (GP_all_levels C) (aCons (eFld 2 "own_parts" (eVar 0)) (aCons (eFld 2 "own_order" (eVar 0)) (aNil))))) (gName 8) (dTrue) (eBin dGt (eVar 8) (eC (.int 200)))) (aNil)))) (sNever) (sNil)
noncomputable def G_Source_init (C : CE) : List D → Store → Res D := fun ds m => if ds.length = 2 then runB (S_Source_init C) (startD 9 ds) m else .bad
theorem g_Source_init (Z : KZ K mg) : GoodP P w K mg base 7 (He.ma K (He.ga K "Source") "__init__") ["self", "definitions"] (CL P w K) (G_Source_init (CL P w K)) := by
  obtain ⟨fd, F⟩ := Z.fun_ 40 (d := d_Source_init) rfl
  have F : FunD K "__init__" "Source.__init__" (defArgs (mtop 77 0)) (defBody (mtop 77 0)) (defScope (mtop 77 0)) [] [] (He.ma K (He.ga K "Source") "__init__") fd := F
  have Sc := sc_Source_init
  refine ⟨fd, fnD (k := 6) (S := S_Source_init (CL P w K)) F Sc (fun _ _ => rfl) fun cdv A outer s H E hr W tk hp => ?_, F.bindsN fun _ _ _ _ _ _ us hl => match us, hl with | [_, _], _ => rfl⟩
  exact
    ds_cons (ds_if (dt_not (dt_val (de_call (k := 3) tk (hr.mono (by decide)) ((g_is_definitions Z).g) (zg_is_definitions Z) (zkp_is_definitions Z) (da_cons (de_var 1) (da_nil))))) (dss_never) (ds_nil)) <|
  ds_cons (ds_fldset (zc_Source (P := P) (w := w) Z) (zn_Source_own_parts (P := P) (w := w) Z) (de_var 0) (de_dc (own := [("name", 3)]) rfl Sc.nd rfl (di_seq (de_cb (cr_sortedSD rfl) cd_sortedS (zf_sorted Z) (da_cons (de_var 1) (da_nil)))) (fun _ _ _ _ _ => dgv_name Sc.nd) (fun _ _ _ _ _ => dts_nil) (fun _ _ _ _ _ => de_var 3) (fun _ _ _ _ _ => de_ix (hu1 hr) (de_var 1) (de_var 3)))) <|
  ds_cons (ds_fldset (zc_Source (P := P) (w := w) Z) (zn_Source_own_links (P := P) (w := w) Z) (de_var 0) (de_dc (own := [("name", 3), ("expression", 4)]) rfl Sc.nd rfl (di_items (de_fld (zc_Source (P := P) (w := w) Z) (zn_Source_own_parts (P := P) (w := w) Z) (de_var 0))) (fun _ _ _ _ _ => dgv_tup (n := 2) rfl (dgvs_cons (dgv_name Sc.nd) (dgvs_cons (dgv_name Sc.nd) (dgvs_nil))) (gsl (gsl gsl0))) (fun _ _ _ _ _ => dts_nil) (fun _ _ _ _ _ => de_var 3) (fun _ _ _ _ _ => de_meth0 (k := 3) takes0 (hr.mono (by decide)) (zc_Expression (P := P) (w := w) Z) (zm_Expression_names (P := P) (w := w) Z) ((g_Expression_names Z 2).g) (de_var 4)))) <|
  ds_cons (ds_set Sc.nd (de_cb (cr_sortSet rfl) (cd_sortSet CC_S) (zf_sorted Z) (da_cons (de_sc2 (own := [("names", 5), ("one", 6)]) (vs1 := [6]) CC_S rfl Sc.nd rfl (by decide) (di_values (de_fld (zc_Source (P := P) (w := w) Z) (zn_Source_own_links (P := P) (w := w) Z) (de_var 0))) (fun _ _ _ _ _ => dgv_name Sc.nd) (fun _ _ _ _ _ => dts_nil) (fun _ _ _ _ _ => de_var 6) (fun _ _ _ _ _ => di_seq (de_var 5)) (fun _ _ _ _ _ => dgv_name Sc.nd) (fun _ _ _ _ _ => dts_one (dt_cmp (op_notInG (hu65 hr)) od_notIn (de_var 6) (de_fld (zc_Source (P := P) (w := w) Z) (zn_Source_own_parts (P := P) (w := w) Z) (de_var 0)) (by with_unfolding_all rfl)))) (da_nil)))) <|
  ds_cons (ds_if (dt_cmp (op_neDD hr.units) od_ne (de_var 2) (de_lst (da_nil)) (nomark _)) (dss_never) (ds_nil)) <|
  ds_cons (ds_for hp rfl (di_seq (de_fld (zc_Source (P := P) (w := w) Z) (zn_Source_own_parts (P := P) (w := w) Z) (de_var 0))) (dg_name Sc.nd) (ds_one (ds_if (dt_cmp (op_inG (hu65 hr)) od_in (de_var 3) (de_call (k := 1) tk (hr.mono (by decide)) ((g_reached_from Z).g.pop) (zg_reached_from Z) (zkp_reached_from Z) (da_cons (de_fld (zc_Source (P := P) (w := w) Z) (zn_Source_own_links (P := P) (w := w) Z) (de_var 0)) (da_cons (de_var 3) (da_nil)))) (by with_unfolding_all rfl)) (dss_never) (ds_nil)))) <|
  ds_cons (ds_fldset (zc_Source (P := P) (w := w) Z) (zn_Source_own_order (P := P) (w := w) Z) (de_var 0) (de_call (k := 1) tk (hr.mono (by decide)) ((g_ordered_names Z).g.pop) (zg_ordered_names Z) (zkp_ordered_names Z) (da_cons (de_fld (zc_Source (P := P) (w := w) Z) (zn_Source_own_links (P := P) (w := w) Z) (de_var 0)) (da_nil)))) <|
  ds_cons (ds_fldset (zc_Source (P := P) (w := w) Z) (zn_Source_own_sizes (P := P) (w := w) Z) (de_var 0) (de_call (k := 6) tk (hr.mono (by decide)) ((g_all_lengths Z).g.pop) (zg_all_lengths Z) (zkp_all_lengths Z) (da_cons (de_fld (zc_Source (P := P) (w := w) Z) (zn_Source_own_parts (P := P) (w := w) Z) (de_var 0)) (da_cons (de_fld (zc_Source (P := P) (w := w) Z) (zn_Source_own_order (P := P) (w := w) Z) (de_var 0)) (da_nil))))) <|
  ds_cons (ds_if (dt_val (de_cb (cr_any rfl) cd_any (zf_any Z) (da_cons (de_lc (own := [("size", 7)]) rfl Sc.nd rfl (di_values (de_fld (zc_Source (P := P) (w := w) Z) (zn_Source_own_sizes (P := P) (w := w) Z) (de_var 0))) (fun _ _ _ _ _ => dgv_name Sc.nd) (fun _ _ _ _ _ => dts_nil) (fun _ _ _ _ _ => de_cmp (op_gt) od_cmp (de_var 7) (de_gint rfl (zi_MAX_SIZE Z)) (nomark _))) (da_nil)))) (dss_never) (ds_nil)) <|
  ds_one (ds_if (dt_val (de_cb (cr_any rfl) cd_any (zf_any Z) (da_cons (de_lc (own := [("level", 8)]) rfl Sc.nd rfl (di_values (de_call (k := 6) tk (hr.mono (by decide)) ((g_all_levels Z).g.pop) (zg_all_levels Z) (zkp_all_levels Z) (da_cons (de_fld (zc_Source (P := P) (w := w) Z) (zn_Source_own_parts (P := P) (w := w) Z) (de_var 0)) (da_cons (de_fld (zc_Source (P := P) (w := w) Z) (zn_Source_own_order (P := P) (w := w) Z) (de_var 0)) (da_nil))))) (fun _ _ _ _ _ => dgv_name Sc.nd) (fun _ _ _ _ _ => dts_nil) (fun _ _ _ _ _ => de_cmp (op_gt) od_cmp (de_var 8) (de_gint rfl (zi_MAX_LEVELS_sources Z)) (nomark _))) (da_nil)))) (dss_never) (ds_nil))
/-! Line.of_text -/
theorem sc_Line_of_text : FnScope ["cls", "text", "is_ring"] ["cls", "text", "is_ring"] (defScope (mtop 93 1)) := ⟨rfl, rfl, rfl, by decide +kernel, rfl, by decide +kernel, by decide +kernel⟩
noncomputable def S_Line_of_text (C : CE) : DS :=
  sRet (eAtCls 0 (C 3) (eMakeK 3 2 1 (GK_Line_init C) (aCons (eCall (mkD 2 (G_Source_init C)) (aCons ((fun r m => noX (eDisp [(eC (.str "a"), eCm (C 1) (G_Expression_read C) (aCons (eVar 1) (aNil)))] r m))) (aNil))) (aCons (eC (.str "a")) (aNil))) (aCons (eVar 2) (aNil))))
noncomputable def G_Line_of_text (C : CE) : List D → Store → Res D := fun ds m => if ds.length = 3 then runB (S_Line_of_text C) (startD 3 ds) m else .bad
noncomputable def GK_Line_of_text (C : CE) : List D → List D → Store → Res D := fun ds es m => G_Line_of_text C (ds ++ es) m
theorem gk_Line_of_text (Z : KZ K mg) : FnGK P w K mg base 11 (He5.wf K (He.ga K "Line") "classmethod" "of_text") 2 ["is_ring"] (CL P w K) (GK_Line_of_text (CL P w K)) := by
  obtain ⟨fd, F⟩ := Z.fun_ 41 (d := d_Line_of_text) rfl
  have F : FunD K "of_text" "Line.of_text" (defArgs (mtop 93 1)) (defBody (mtop 93 1)) (defScope (mtop 93 1)) [] [("is_ring", (V.bl false))] (He5.wf K (He.ga K "Line") "classmethod" "of_text") fd := F
  have Sc := sc_Line_of_text
  have B := kb0 (ps := ["cls", "text", "is_ring"]) F 2 ["is_ring"] (by simp) fun _ _ _ _ _ _ us ws hu hw => match us, ws, hu, hw with | [_, _], [_], _, _ => rfl
  refine FnGK.of0 (fnD (k := 10) (S := S_Line_of_text (CL P w K)) F Sc (fun _ _ => rfl) fun cdv A outer s H E hr W tk hp => ?_) B
  exact
    ds_one (ds_ret (de_clsK (k := 5) (j := 3) (ks := ["is_ring"]) tk (hr.mono (by decide)) (zk_Line (P := P) (w := w) Z) (gk_Line_init Z) (da_cons (de_make (k := 7) tk (hr.mono (by decide)) (zk_Source (P := P) (w := w) Z) ((g_Source_init Z).g) (zg_Source (P := P) (w := w) Z) (da_cons (de_disp (dpp_cons (de_str) (de_cmeth (k := 10) takes0 (hr.mono (by decide)) (zr_Expression (P := P) (w := w) Z) (zcm_Expression_read (P := P) (w := w) Z) ((g_Expression_read Z).g) (zg_Expression (P := P) (w := w) Z) (da_cons (de_var 1) (da_nil))) (dpp_nil))) (da_nil))) (da_cons (de_str) (da_nil))) (dk_cons (de_var 2) (dk_nil))))
/-! _law_line -/
theorem sc_law_line : FnScope ["_law_row", "_law_ring"] ["_law_row", "_law_ring"] (defScope (top 113)) := ⟨rfl, rfl, rfl, by decide +kernel, rfl, by decide +kernel, by decide +kernel⟩
noncomputable def S_law_line (C : CE) : DS :=
  sRet (eCmK (C 3) 1 1 (GK_Line_of_text C) (aCons (eM1 dJoin (eC (.str " ")) (eVar 0)) (aNil)) (aCons (eVar 1) (aNil)))
noncomputable def G_law_line (C : CE) : List D → Store → Res D := fun ds m => if ds.length = 2 then runB (S_law_line C) (startD 2 ds) m else .bad
theorem g_law_line (Z : KZ K mg) : GoodP P w K mg base 12 (He.ga K "_law_line") ["_law_row", "_law_ring"] (CL P w K) (G_law_line (CL P w K)) := by
  obtain ⟨fd, F⟩ := Z.fun_ 42 (d := d_law_line) rfl
  have F : FunD K "_law_line" "_law_line" (defArgs (top 113)) (defBody (top 113)) (defScope (top 113)) [] [] (He.ga K "_law_line") fd := F
  have Sc := sc_law_line
  refine ⟨fd, fnD (k := 11) (S := S_law_line (CL P w K)) F Sc (fun _ _ => rfl) fun cdv A outer s H E hr W tk hp => ?_, F.bindsN fun _ _ _ _ _ _ us hl => match us, hl with | [_, _], _ => rfl⟩
  exact
    ds_one (ds_ret (de_cmethK (k := 11) (ks := ["is_ring"]) tk (hr.mono (by decide)) (zr_Line (P := P) (w := w) Z) (zcm_Line_of_text (P := P) (w := w) Z) (gk_Line_of_text Z) (zg_Line (P := P) (w := w) Z) (da_cons (de_join (de_str) (de_var 0)) (da_nil)) (dk_cons (de_var 1) (dk_nil))))
/-! Line.size -/
theorem sc_Line_size : FnScope ["self"] ["self"] (defScope (mtop 93 5)) := ⟨rfl, rfl, rfl, by decide +kernel, rfl, by decide +kernel, by decide +kernel⟩
noncomputable def S_Line_size (C : CE) : DS :=
  sRet (eMeth 2 "length" (G_Source_length C) (eFld 3 "own_source" (eVar 0)) (aCons (eFld 3 "own_part" (eVar 0)) (aNil)))
noncomputable def G_Line_size (C : CE) : List D → Store → Res D := fun ds m => if ds.length = 1 then runB (S_Line_size C) (startD 1 ds) m else .bad
theorem g_Line_size (Z : KZ K mg) : GoodP P w K mg base 5 (He5.wf K (He.ga K "Line") "property" "size") ["self"] (CL P w K) (G_Line_size (CL P w K)) := by
  obtain ⟨fd, F⟩ := Z.fun_ 43 (d := d_Line_size) rfl
  have F : FunD K "size" "Line.size" (defArgs (mtop 93 5)) (defBody (mtop 93 5)) (defScope (mtop 93 5)) [] [] (He5.wf K (He.ga K "Line") "property" "size") fd := F
  have Sc := sc_Line_size
  refine ⟨fd, fnD (k := 4) (S := S_Line_size (CL P w K)) F Sc (fun _ _ => rfl) fun cdv A outer s H E hr W tk hp => ?_, F.bindsN fun _ _ _ _ _ _ us hl => match us, hl with | [_], _ => rfl⟩
  exact
    ds_one (ds_ret (de_meth (k := 4) tk (hr.mono (by decide)) (zc_Source (P := P) (w := w) Z) (zm_Source_length (P := P) (w := w) Z) ((g_Source_length Z).g) (de_fld (zc_Line (P := P) (w := w) Z) (zn_Line_own_source (P := P) (w := w) Z) (de_var 0)) (da_cons (de_fld (zc_Line (P := P) (w := w) Z) (zn_Line_own_part (P := P) (w := w) Z) (de_var 0)) (da_nil))))
/-! require_size -/
theorem sc_require_size : FnScope ["line"] ["line"] (defScope (top 104)) := ⟨rfl, rfl, rfl, by decide +kernel, rfl, by decide +kernel, by decide +kernel⟩
noncomputable def S_require_size (C : CE) : DS :=
  sIf (eTest (eBin dGt (eProp' 3 (G_Line_size C) (eVar 0)) (eC (.int 400)))) (sNever) (sNil)
noncomputable def G_require_size (C : CE) : List D → Store → Res D := fun ds m => if ds.length = 1 then runB (S_require_size C) (startD 1 ds) m else .bad
theorem g_require_size (Z : KZ K mg) : GoodP P w K mg base 7 (He.ga K "require_size") ["line"] (CL P w K) (G_require_size (CL P w K)) := by
  obtain ⟨fd, F⟩ := Z.fun_ 44 (d := d_require_size) rfl
  have F : FunD K "require_size" "require_size" (defArgs (top 104)) (defBody (top 104)) (defScope (top 104)) [] [] (He.ga K "require_size") fd := F
  have Sc := sc_require_size
  refine ⟨fd, fnD (k := 6) (S := S_require_size (CL P w K)) F Sc (fun _ _ => rfl) fun cdv A outer s H E hr W tk hp => ?_, F.bindsN fun _ _ _ _ _ _ us hl => match us, hl with | [_], _ => rfl⟩
  exact
    ds_one (ds_if (dt_cmp (op_gt) od_cmp (de_propG (k := 5) (hr.mono (by decide)) (zc_Line (P := P) (w := w) Z) (zp_Line_size (P := P) (w := w) Z) (g_Line_size Z) (de_var 0)) (de_gint rfl (zi_MAX_PERSONS Z)) (nomark _)) (dss_never) (ds_nil))
/-! is_integer -/
theorem sc_is_integer : FnScope ["value"] ["value"] (defScope (top 19)) := ⟨rfl, rfl, rfl, by decide +kernel, rfl, by decide +kernel, by decide +kernel⟩
noncomputable def S_is_integer (C : CE) : DS :=
  sRet (eAndV (eIsi ["int"] [] (fun _ => true) (fun _ => false) (eVar 0)) (eNotV (eIsi ["int"] [] (fun _ => false) (fun _ => false) (eVar 0))))
noncomputable def G_is_integer (C : CE) : List D → Store → Res D := fun ds m => if ds.length = 1 then runB (S_is_integer C) (startD 1 ds) m else .bad
theorem g_is_integer (Z : KZ K mg) : GoodP P w K mg base 1 (He.ga K "is_integer") ["value"] (CL P w K) (G_is_integer (CL P w K)) := by
  obtain ⟨fd, F⟩ := Z.fun_ 45 (d := d_is_integer) rfl
  have F : FunD K "is_integer" "is_integer" (defArgs (top 19)) (defBody (top 19)) (defScope (top 19)) [] [] (He.ga K "is_integer") fd := F
  have Sc := sc_is_integer
  refine ⟨fd, fnD (k := 0) (S := S_is_integer (CL P w K)) F Sc (fun _ _ => rfl) fun cdv A outer s H E hr W tk hp => ?_, F.bindsN fun _ _ _ _ _ _ us hl => match us, hl with | [_], _ => rfl⟩
  exact
    ds_one (ds_ret (de_and (de_isi (isi_ty (zf_int Z) (List.forall_mem_cons.mpr ⟨(zis_int_int Z), (by intro _ h; cases h)⟩) (by intro _ h; cases h)) (de_var 0) (zf_isinstance Z)) (de_one (de_not (de_isi (isi_ty (zf_bool Z) (List.forall_mem_cons.mpr ⟨(zis_int_bool Z), (by intro _ h; cases h)⟩) (by intro _ h; cases h)) (de_var 0) (zf_isinstance Z))))))
/-! is_between -/
theorem sc_is_between : FnScope ["value", "least", "most"] ["value", "least", "most"] (defScope (top 20)) := ⟨rfl, rfl, rfl, by decide +kernel, rfl, by decide +kernel, by decide +kernel⟩
noncomputable def S_is_between (C : CE) : DS :=
  sRet (eAndV (eCall (G_is_integer C) (aCons (eVar 0) (aNil))) (eChain dLe dLe (eVar 1) (eVar 0) (eVar 2)))
noncomputable def G_is_between (C : CE) : List D → Store → Res D := fun ds m => if ds.length = 3 then runB (S_is_between C) (startD 3 ds) m else .bad
theorem g_is_between (Z : KZ K mg) : GoodP P w K mg base 2 (He.ga K "is_between") ["value", "least", "most"] (CL P w K) (G_is_between (CL P w K)) := by
  obtain ⟨fd, F⟩ := Z.fun_ 46 (d := d_is_between) rfl
  have F : FunD K "is_between" "is_between" (defArgs (top 20)) (defBody (top 20)) (defScope (top 20)) [] [] (He.ga K "is_between") fd := F
  have Sc := sc_is_between
  refine ⟨fd, fnD (k := 1) (S := S_is_between (CL P w K)) F Sc (fun _ _ => rfl) fun cdv A outer s H E hr W tk hp => ?_, F.bindsN fun _ _ _ _ _ _ us hl => match us, hl with | [_, _, _], _ => rfl⟩
  exact
    ds_one (ds_ret (de_and (de_call (k := 1) tk (hr.mono (by decide)) ((g_is_integer Z).g) (zg_is_integer Z) (zkp_is_integer Z) (da_cons (de_var 0) (da_nil))) (de_one (de_chain (op_le) od_cmp (op_le) od_cmp (de_var 1) (de_var 0) (de_var 2)))))
/-! is_person -/
theorem sc_is_person : FnScope ["line", "value"] ["line", "value"] (defScope (top 94)) := ⟨rfl, rfl, rfl, by decide +kernel, rfl, by decide +kernel, by decide +kernel⟩
noncomputable def S_is_person (C : CE) : DS :=
  sRet (eCall (G_is_between C) (aCons (eVar 1) (aCons (eC (.int 0)) (aCons (eBin dSub (eProp' 3 (G_Line_size C) (eVar 0)) (eC (.int 1))) (aNil)))))
noncomputable def G_is_person (C : CE) : List D → Store → Res D := fun ds m => if ds.length = 2 then runB (S_is_person C) (startD 2 ds) m else .bad
theorem g_is_person (Z : KZ K mg) : GoodP P w K mg base 7 (He.ga K "is_person") ["line", "value"] (CL P w K) (G_is_person (CL P w K)) := by
  obtain ⟨fd, F⟩ := Z.fun_ 47 (d := d_is_person) rfl
  have F : FunD K "is_person" "is_person" (defArgs (top 94)) (defBody (top 94)) (defScope (top 94)) [] [] (He.ga K "is_person") fd := F
  have Sc := sc_is_person
  refine ⟨fd, fnD (k := 6) (S := S_is_person (CL P w K)) F Sc (fun _ _ => rfl) fun cdv A outer s H E hr W tk hp => ?_, F.bindsN fun _ _ _ _ _ _ us hl => match us, hl with | [_, _], _ => rfl⟩
  exact
    ds_one (ds_ret (de_call (k := 2) tk (hr.mono (by decide)) ((g_is_between Z).g) (zg_is_between Z) (zkp_is_between Z) (da_cons (de_var 1) (da_cons (de_int) (da_cons (de_sub (de_propG (k := 5) (hr.mono (by decide)) (zc_Line (P := P) (w := w) Z) (zp_Line_size (P := P) (w := w) Z) (g_Line_size Z) (de_var 0)) (de_int)) (da_nil))))))
/-! is_letter -/
theorem sc_is_letter : FnScope ["value"] ["value"] (defScope (top 98)) := ⟨rfl, rfl, rfl, by decide +kernel, rfl, by decide +kernel, by decide +kernel⟩
noncomputable def S_is_letter (C : CE) : DS :=
  sRet (eAndV (eIsi ["str"] [] (fun _ => true) (fun _ => false) (eVar 0)) (eBin dIn (eVar 0) (eC (.tup [(.str "T"), (.str "L")]))))
noncomputable def G_is_letter (C : CE) : List D → Store → Res D := fun ds m => if ds.length = 1 then runB (S_is_letter C) (startD 1 ds) m else .bad
theorem g_is_letter (Z : KZ K mg) : GoodP P w K mg base 1 (He.ga K "is_letter") ["value"] (CL P w K) (G_is_letter (CL P w K)) := by
  obtain ⟨fd, F⟩ := Z.fun_ 48 (d := d_is_letter) rfl
  have F : FunD K "is_letter" "is_letter" (defArgs (top 98)) (defBody (top 98)) (defScope (top 98)) [] [] (He.ga K "is_letter") fd := F
  have Sc := sc_is_letter
  refine ⟨fd, fnD (k := 0) (S := S_is_letter (CL P w K)) F Sc (fun _ _ => rfl) fun cdv A outer s H E hr W tk hp => ?_, F.bindsN fun _ _ _ _ _ _ us hl => match us, hl with | [_], _ => rfl⟩
  exact
    ds_one (ds_ret (de_and (de_isi (isi_ty (zf_str Z) (List.forall_mem_cons.mpr ⟨(zis_str_str Z), (by intro _ h; cases h)⟩) (by intro _ h; cases h)) (de_var 0) (zf_isinstance Z)) (de_one (de_cmp (op_inG (hu65 hr)) od_in (de_var 0) (de_gtup (ds := [(.str "T"), (.str "L")]) rfl (zt_LETTERS_statements Z).1 (zt_LETTERS_statements Z).2 rfl) (by with_unfolding_all rfl)))))
/-! is_facts -/
theorem sc_is_facts : FnScope ["line", "value", "person", "letter"] ["line", "value"] (defScope (top 99)) := ⟨rfl, rfl, rfl, by decide +kernel, rfl, by decide +kernel, by decide +kernel⟩
noncomputable def S_is_facts (C : CE) : DS :=
  sCons (sIf (eNot (eTest (eIsi ["dict"] [] (fun _ => true) (fun _ => false) (eVar 1)))) (sRet (eC (.bl false))) (sNil)) <|
  sRet (eCB fAll (aCons (eLc [2, 3] (iItm (eVar 1)) (gTupD (gsCons (gName 2) (gsCons (gName 3) (gsNil)))) (dTrue) (eAndV (eCall (G_is_person C) (aCons (eVar 0) (aCons (eVar 2) (aNil)))) (eCall (G_is_letter C) (aCons (eVar 3) (aNil))))) (aNil)))
noncomputable def G_is_facts (C : CE) : List D → Store → Res D := fun ds m => if ds.length = 2 then runB (S_is_facts C) (startD 4 ds) m else .bad
theorem g_is_facts (Z : KZ K mg) : GoodP P w K mg base 8 (He.ga K "is_facts") ["line", "value"] (CL P w K) (G_is_facts (CL P w K)) := by
  obtain ⟨fd, F⟩ := Z.fun_ 49 (d := d_is_facts) rfl
  have F : FunD K "is_facts" "is_facts" (defArgs (top 99)) (defBody (top 99)) (defScope (top 99)) [] [] (He.ga K "is_facts") fd := F
  have Sc := sc_is_facts
  refine ⟨fd, fnD (k := 7) (S := S_is_facts (CL P w K)) F Sc (fun _ _ => rfl) fun cdv A outer s H E hr W tk hp => ?_, F.bindsN fun _ _ _ _ _ _ us hl => match us, hl with | [_, _], _ => rfl⟩
  exact
    ds_cons (ds_if (dt_not (dt_val (de_isi (isi_ty (zf_dict Z) (List.forall_mem_cons.mpr ⟨(zis_dict_dict Z), (by intro _ h; cases h)⟩) (by intro _ h; cases h)) (de_var 1) (zf_isinstance Z)))) (ds_one (ds_ret (de_bl))) (ds_nil)) <|
  ds_one (ds_ret (de_cb (cr_all rfl) cd_all (zf_all Z) (da_cons (de_lc (own := [("person", 2), ("letter", 3)]) rfl Sc.nd rfl (di_items (de_var 1)) (fun _ _ _ _ _ => dgv_tup (n := 2) rfl (dgvs_cons (dgv_name Sc.nd) (dgvs_cons (dgv_name Sc.nd) (dgvs_nil))) (gsl (gsl gsl0))) (fun _ _ _ _ _ => dts_nil) (fun _ _ _ _ _ => de_and (de_call (k := 7) takes0 (hr.mono (by decide)) ((g_is_person Z).g) (zg_is_person Z) (zkp_is_person Z) (da_cons (de_var 0) (da_cons (de_var 2) (da_nil)))) (de_one (de_call (k := 1) takes0 (hr.mono (by decide)) ((g_is_letter Z).g) (zg_is_letter Z) (zkp_is_letter Z) (da_cons (de_var 3) (da_nil)))))) (da_nil))))
/-! Line.source -/
theorem sc_Line_source : FnScope ["self"] ["self"] (defScope (mtop 93 2)) := ⟨rfl, rfl, rfl, by decide +kernel, rfl, by decide +kernel, by decide +kernel⟩
noncomputable def S_Line_source (C : CE) : DS :=
  sRet (eFld 3 "own_source" (eVar 0))
noncomputable def G_Line_source (C : CE) : List D → Store → Res D := fun ds m => if ds.length = 1 then runB (S_Line_source C) (startD 1 ds) m else .bad
theorem g_Line_source (Z : KZ K mg) : GoodP P w K mg base 1 (He5.wf K (He.ga K "Line") "property" "source") ["self"] (CL P w K) (G_Line_source (CL P w K)) := by
  obtain ⟨fd, F⟩ := Z.fun_ 50 (d := d_Line_source) rfl
  have F : FunD K "source" "Line.source" (defArgs (mtop 93 2)) (defBody (mtop 93 2)) (defScope (mtop 93 2)) [] [] (He5.wf K (He.ga K "Line") "property" "source") fd := F
  have Sc := sc_Line_source
  refine ⟨fd, fnD (k := 0) (S := S_Line_source (CL P w K)) F Sc (fun _ _ => rfl) fun cdv A outer s H E hr W tk hp => ?_, F.bindsN fun _ _ _ _ _ _ us hl => match us, hl with | [_], _ => rfl⟩
  exact
    ds_one (ds_ret (de_fld (zc_Line (P := P) (w := w) Z) (zn_Line_own_source (P := P) (w := w) Z) (de_var 0)))
/-! Source.uses -/
theorem sc_Source_uses : FnScope ["self", "name"] ["self", "name"] (defScope (mtop 77 6)) := ⟨rfl, rfl, rfl, by decide +kernel, rfl, by decide +kernel, by decide +kernel⟩
noncomputable def S_Source_uses (C : CE) : DS :=
  sCons (sExpr (eMeth 2 "require" (G_Source_require C) (eVar 0) (aCons (eVar 1) (aNil)))) <|
  sRet (eCall (GP_reached_from C) (aCons (eFld 2 "own_links" (eVar 0)) (aCons (eVar 1) (aNil))))
noncomputable def G_Source_uses (C : CE) : List D → Store → Res D := fun ds m => if ds.length = 2 then runB (S_Source_uses C) (startD 2 ds) m else .bad
theorem g_Source_uses (Z : KZ K mg) : GoodP P w K mg base 4 (He.ma K (He.ga K "Source") "uses") ["self", "name"] (CL P w K) (G_Source_uses (CL P w K)) := by
  obtain ⟨fd, F⟩ := Z.fun_ 51 (d := d_Source_uses) rfl
  have F : FunD K "uses" "Source.uses" (defArgs (mtop 77 6)) (defBody (mtop 77 6)) (defScope (mtop 77 6)) [] [] (He.ma K (He.ga K "Source") "uses") fd := F
  have Sc := sc_Source_uses
  refine ⟨fd, fnD (k := 3) (S := S_Source_uses (CL P w K)) F Sc (fun _ _ => rfl) fun cdv A outer s H E hr W tk hp => ?_, F.bindsN fun _ _ _ _ _ _ us hl => match us, hl with | [_, _], _ => rfl⟩
  exact
    ds_cons (ds_expr (de_meth (k := 3) tk (hr.mono (by decide)) (zc_Source (P := P) (w := w) Z) (zm_Source_require (P := P) (w := w) Z) ((g_Source_require Z).g) (de_var 0) (da_cons (de_var 1) (da_nil)))) <|
  ds_one (ds_ret (de_call (k := 1) tk (hr.mono (by decide)) ((g_reached_from Z).g.pop) (zg_reached_from Z) (zkp_reached_from Z) (da_cons (de_fld (zc_Source (P := P) (w := w) Z) (zn_Source_own_links (P := P) (w := w) Z) (de_var 0)) (da_cons (de_var 1) (da_nil)))))
/-! Line.part -/
theorem sc_Line_part : FnScope ["self"] ["self"] (defScope (mtop 93 3)) := ⟨rfl, rfl, rfl, by decide +kernel, rfl, by decide +kernel, by decide +kernel⟩
noncomputable def S_Line_part (C : CE) : DS :=
  sRet (eFld 3 "own_part" (eVar 0))
noncomputable def G_Line_part (C : CE) : List D → Store → Res D := fun ds m => if ds.length = 1 then runB (S_Line_part C) (startD 1 ds) m else .bad
theorem g_Line_part (Z : KZ K mg) : GoodP P w K mg base 1 (He5.wf K (He.ga K "Line") "property" "part") ["self"] (CL P w K) (G_Line_part (CL P w K)) := by
  obtain ⟨fd, F⟩ := Z.fun_ 52 (d := d_Line_part) rfl
  have F : FunD K "part" "Line.part" (defArgs (mtop 93 3)) (defBody (mtop 93 3)) (defScope (mtop 93 3)) [] [] (He5.wf K (He.ga K "Line") "property" "part") fd := F
  have Sc := sc_Line_part
  refine ⟨fd, fnD (k := 0) (S := S_Line_part (CL P w K)) F Sc (fun _ _ => rfl) fun cdv A outer s H E hr W tk hp => ?_, F.bindsN fun _ _ _ _ _ _ us hl => match us, hl with | [_], _ => rfl⟩
  exact
    ds_one (ds_ret (de_fld (zc_Line (P := P) (w := w) Z) (zn_Line_own_part (P := P) (w := w) Z) (de_var 0)))
/-! Source.order -/
theorem sc_Source_order : FnScope ["self"] ["self"] (defScope (mtop 77 5)) := ⟨rfl, rfl, rfl, by decide +kernel, rfl, by decide +kernel, by decide +kernel⟩
noncomputable def S_Source_order (C : CE) : DS :=
  sRet (eCB fList (aCons (eFld 2 "own_order" (eVar 0)) (aNil)))
noncomputable def G_Source_order (C : CE) : List D → Store → Res D := fun ds m => if ds.length = 1 then runB (S_Source_order C) (startD 1 ds) m else .bad
theorem g_Source_order (Z : KZ K mg) : GoodP P w K mg base 1 (He.ma K (He.ga K "Source") "order") ["self"] (CL P w K) (G_Source_order (CL P w K)) := by
  obtain ⟨fd, F⟩ := Z.fun_ 53 (d := d_Source_order) rfl
  have F : FunD K "order" "Source.order" (defArgs (mtop 77 5)) (defBody (mtop 77 5)) (defScope (mtop 77 5)) [] [] (He.ma K (He.ga K "Source") "order") fd := F
  have Sc := sc_Source_order
  refine ⟨fd, fnD (k := 0) (S := S_Source_order (CL P w K)) F Sc (fun _ _ => rfl) fun cdv A outer s H E hr W tk hp => ?_, F.bindsN fun _ _ _ _ _ _ us hl => match us, hl with | [_], _ => rfl⟩
  exact
    ds_one (ds_ret (de_ct (cr_listD rfl) cd_list (zf_list Z) (da_cons (de_fld (zc_Source (P := P) (w := w) Z) (zn_Source_own_order (P := P) (w := w) Z) (de_var 0)) (da_nil))))
/-! Source.__getitem__ -/
theorem sc_Source_getitem : FnScope ["self", "name"] ["self", "name"] (defScope (mtop 77 14)) := ⟨rfl, rfl, rfl, by decide +kernel, rfl, by decide +kernel, by decide +kernel⟩
noncomputable def S_Source_getitem (C : CE) : DS :=
  sCons (sIf (eOr (eNot (eTest (eCall (G_is_name C) (aCons (eVar 1) (aNil))))) (eTest (eBin dNotIn (eVar 1) (eFld 2 "own_parts" (eVar 0))))) (sNever) (sNil)) <|
  sRet (eBin dIx (eFld 2 "own_parts" (eVar 0)) (eVar 1))
noncomputable def G_Source_getitem (C : CE) : List D → Store → Res D := fun ds m => if ds.length = 2 then runB (S_Source_getitem C) (startD 2 ds) m else .bad
theorem g_Source_getitem (Z : KZ K mg) : GoodP P w K mg base 3 (He.ma K (He.ga K "Source") "__getitem__") ["self", "name"] (CL P w K) (G_Source_getitem (CL P w K)) := by
  obtain ⟨fd, F⟩ := Z.fun_ 54 (d := d_Source_getitem) rfl
  have F : FunD K "__getitem__" "Source.__getitem__" (defArgs (mtop 77 14)) (defBody (mtop 77 14)) (defScope (mtop 77 14)) [] [] (He.ma K (He.ga K "Source") "__getitem__") fd := F
  have Sc := sc_Source_getitem
  refine ⟨fd, fnD (k := 2) (S := S_Source_getitem (CL P w K)) F Sc (fun _ _ => rfl) fun cdv A outer s H E hr W tk hp => ?_, F.bindsN fun _ _ _ _ _ _ us hl => match us, hl with | [_, _], _ => rfl⟩
  exact
    ds_cons (ds_if (PW.pt (dw_or (dt_not (dt_val (de_call (k := 2) tk (hr.mono (by decide)) ((g_is_name Z).g) (zg_is_name Z) (zkp_is_name Z) (da_cons (de_var 1) (da_nil))))) (dw_or1 (dt_cmp (op_notInG (hu65 hr)) od_notIn (de_var 1) (de_fld (zc_Source (P := P) (w := w) Z) (zn_Source_own_parts (P := P) (w := w) Z) (de_var 0)) (by with_unfolding_all rfl))))) (dss_never) (ds_nil)) <|
  ds_one (ds_ret (de_ix (hu1 hr) (de_fld (zc_Source (P := P) (w := w) Z) (zn_Source_own_parts (P := P) (w := w) Z) (de_var 0)) (de_var 1)))
/-! Statement.__init__ -/
theorem sc_Statement_init : FnScope ["self", "text"] ["self", "text"] (defScope (mtop 27 2)) := ⟨rfl, rfl, rfl, by decide +kernel, rfl, by decide +kernel, by decide +kernel⟩
noncomputable def S_Statement_init (C : CE) : DS :=
  sCons (sIf (eNot (eTest (eCall (G_is_statement_text C) (aCons (eVar 1) (aNil))))) (sNever) (sNil)) <|
  sFldSet 0 "own_text" (eVar 0) (eVar 1)
noncomputable def G_Statement_init (C : CE) : List D → Store → Res D := fun ds m => if ds.length = 2 then runB (S_Statement_init C) (startD 2 ds) m else .bad
theorem g_Statement_init (Z : KZ K mg) : GoodP P w K mg base 2 (He.ma K (He.ga K "Statement") "__init__") ["self", "text"] (CL P w K) (G_Statement_init (CL P w K)) := by
  obtain ⟨fd, F⟩ := Z.fun_ 55 (d := d_Statement_init) rfl
  have F : FunD K "__init__" "Statement.__init__" (defArgs (mtop 27 2)) (defBody (mtop 27 2)) (defScope (mtop 27 2)) [] [] (He.ma K (He.ga K "Statement") "__init__") fd := F
  have Sc := sc_Statement_init
  refine ⟨fd, fnD (k := 1) (S := S_Statement_init (CL P w K)) F Sc (fun _ _ => rfl) fun cdv A outer s H E hr W tk hp => ?_, F.bindsN fun _ _ _ _ _ _ us hl => match us, hl with | [_, _], _ => rfl⟩
  exact
    ds_cons (ds_if (dt_not (dt_val (de_call (k := 1) tk (hr.mono (by decide)) ((g_is_statement_text Z).g) (zg_is_statement_text Z) (zkp_is_statement_text Z) (da_cons (de_var 1) (da_nil))))) (dss_never) (ds_nil)) <|
  ds_one (ds_fldset (zc_Statement (P := P) (w := w) Z) (zn_Statement_own_text (P := P) (w := w) Z) (de_var 0) (de_var 1))
/-! Expression.statement -/
theorem sc_Expression_statement : FnScope ["self"] ["self"] (defScope (mtop 60 9)) := ⟨rfl, rfl, rfl, by decide +kernel, rfl, by decide +kernel, by decide +kernel⟩
noncomputable def S_Expression_statement (C : CE) : DS :=
  sRet (eIf (eAnd (eTest (eBin dEq (eFld 1 "own_kind" (eVar 0)) (eC (.str "person")))) (eTest (eBin dNe (eFld 1 "own_text" (eVar 0)) (eC (.str "?"))))) (eCall (mkD 0 (G_Statement_init C)) (aCons (eFld 1 "own_text" (eVar 0)) (aNil))) (eC .non))
noncomputable def G_Expression_statement (C : CE) : List D → Store → Res D := fun ds m => if ds.length = 1 then runB (S_Expression_statement C) (startD 1 ds) m else .bad
theorem g_Expression_statement (Z : KZ K mg) : GoodP P w K mg base 4 (He5.wf K (He.ga K "Expression") "property" "statement") ["self"] (CL P w K) (G_Expression_statement (CL P w K)) := by
  obtain ⟨fd, F⟩ := Z.fun_ 56 (d := d_Expression_statement) rfl
  have F : FunD K "statement" "Expression.statement" (defArgs (mtop 60 9)) (defBody (mtop 60 9)) (defScope (mtop 60 9)) [] [] (He5.wf K (He.ga K "Expression") "property" "statement") fd := F
  have Sc := sc_Expression_statement
  refine ⟨fd, fnD (k := 3) (S := S_Expression_statement (CL P w K)) F Sc (fun _ _ => rfl) fun cdv A outer s H E hr W tk hp => ?_, F.bindsN fun _ _ _ _ _ _ us hl => match us, hl with | [_], _ => rfl⟩
  exact
    ds_one (ds_ret (de_if (PW.pt (dw_and (dt_cmp (op_eqDD hr.units) od_eq (de_fld (zc_Expression (P := P) (w := w) Z) (zn_Expression_own_kind (P := P) (w := w) Z) (de_var 0)) (de_gstr rfl (zs_PERSON Z)) (nomark _)) (dw_and1 (dt_cmp (op_neDD hr.units) od_ne (de_fld (zc_Expression (P := P) (w := w) Z) (zn_Expression_own_text (P := P) (w := w) Z) (de_var 0)) (de_gstr rfl (zs_FREE Z)) (nomark _))))) (de_make (k := 2) tk (hr.mono (by decide)) (zk_Statement (P := P) (w := w) Z) ((g_Statement_init Z).g) (zg_Statement (P := P) (w := w) Z) (da_cons (de_fld (zc_Expression (P := P) (w := w) Z) (zn_Expression_own_text (P := P) (w := w) Z) (de_var 0)) (da_nil))) (de_non)))
/-! written_out -/
theorem sc_written_out : FnScope ["expression", "known", "found", "part"] ["expression", "known"] (defScope (top 90)) := ⟨rfl, rfl, rfl, by decide +kernel, rfl, by decide +kernel, by decide +kernel⟩
noncomputable def S_written_out (C : CE) (G_ : List D → Store → Res D) : DS :=
  sCons (sIf (eTest (eBin dEq (eProp' 1 (G_Expression_kind C) (eVar 0)) (eC (.str "person")))) (sRet (eLst (aCons (eProp' 1 (G_Expression_statement C) (eVar 0)) (aNil)))) (sNil)) <|
  sCons (sIf (eTest (eBin dEq (eProp' 1 (G_Expression_kind C) (eVar 0)) (eC (.str "name")))) (sNever) (sNil)) <|
  sCons (sSet 2 (eLst (aNil))) <|
  sCons (sFor (iSeq (eMeth 1 "parts" (G_Expression_parts C) (eVar 0) aNil)) (gName 3) (sSet 2 (eBin dAdd (eVar 2) (eCall G_ (aCons (eVar 3) (aCons (eVar 1) (aNil))))))) <|
  sCons (sIf (eTest (eBin dEq (eProp' 1 (G_Expression_kind C) (eVar 0)) (eC (.str "mirror")))) (sNever) (sNil)) <|
  sRet (eIf (eTest (eBin dEq (eProp' 1 (G_Expression_kind C) (eVar 0)) (eC (.str "repeat")))) (eNever) (eVar 2))
noncomputable def G_written_out (C : CE) : Nat → List D → Store → Res D
  | 0 => fun _ _ => .bad
  | n + 1 => fun ds m => if ds.length = 2 then runB (S_written_out C (G_written_out C n)) (startD 4 ds) m else .bad
abbrev written_outLV : Nat := 5
theorem g_written_out (Z : KZ K mg) : ∀ n : Nat, GoodP P w K mg base (written_outLV + n + 1) (He.ga K "written_out") ["expression", "known"] (CL P w K) (G_written_out (CL P w K) (n + 1)) := by
  obtain ⟨fd, F⟩ := Z.fun_ 57 (d := d_written_out) rfl
  have F : FunD K "written_out" "written_out" (defArgs (top 90)) (defBody (top 90)) (defScope (top 90)) [] [] (He.ga K "written_out") fd := F
  have Sc := sc_written_out
  have B : Binds K fd ["expression", "known"] [] := F.bindsN fun _ _ _ _ _ _ us hl => match us, hl with | [_, _], _ => rfl
  have step : ∀ (k : Nat) (G : List D → Store → Res D), 5 ≤ k → FnG P w K mg base k (He.ga K "written_out") (CL P w K) G → FnOk P w K mg base (L2.CX P w) (k + 1) (He.ga K "written_out") fd ["expression", "known"] (spG K (CL P w K) fun ds m => if ds.length = 2 then runB (S_written_out (CL P w K) G) (startD 4 ds) m else .bad) := fun k G hk ih =>
    fnD (S := S_written_out (CL P w K) G) F Sc (fun _ _ => rfl) fun cdv A outer s H E hr W tk hp =>
    ds_cons (ds_if (dt_cmp (op_eqDD hr.units) od_eq (de_propG (k := 1) (hr.mono (by omega)) (zc_Expression (P := P) (w := w) Z) (zp_Expression_kind (P := P) (w := w) Z) (g_Expression_kind Z) (de_var 0)) (de_gstr rfl (zs_PERSON Z)) (nomark _)) (ds_one (ds_ret (de_lst (da_cons (de_propG (k := 4) (hr.mono (by omega)) (zc_Expression (P := P) (w := w) Z) (zp_Expression_statement (P := P) (w := w) Z) (g_Expression_statement Z) (de_var 0)) (da_nil))))) (ds_nil)) <|
  ds_cons (ds_if (dt_cmp (op_eqDD hr.units) od_eq (de_propG (k := 1) (hr.mono (by omega)) (zc_Expression (P := P) (w := w) Z) (zp_Expression_kind (P := P) (w := w) Z) (g_Expression_kind Z) (de_var 0)) (de_gstr rfl (zs_NAME Z)) (nomark _)) (dss_never) (ds_nil)) <|
  ds_cons (ds_set Sc.nd (de_lst (da_nil))) <|
  ds_cons (ds_for hp rfl (di_seq (de_meth0 (k := 1) tk (hr.mono (by omega)) (zc_Expression (P := P) (w := w) Z) (zm_Expression_parts (P := P) (w := w) Z) ((g_Expression_parts Z).g) (de_var 0))) (dg_name Sc.nd) (ds_one (ds_set Sc.nd (de_add (de_var 2) (de_call (k := k) tk hr (ih) (zg_written_out Z) (zkp_written_out Z) (da_cons (de_var 3) (da_cons (de_var 1) (da_nil)))))))) <|
  ds_cons (ds_if (dt_cmp (op_eqDD hr.units) od_eq (de_propG (k := 1) (hr.mono (by omega)) (zc_Expression (P := P) (w := w) Z) (zp_Expression_kind (P := P) (w := w) Z) (g_Expression_kind Z) (de_var 0)) (de_gstr rfl (zs_MIRROR Z)) (nomark _)) (dss_never) (ds_nil)) <|
  ds_one (ds_ret (de_if (dt_cmp (op_eqDD hr.units) od_eq (de_propG (k := 1) (hr.mono (by omega)) (zc_Expression (P := P) (w := w) Z) (zp_Expression_kind (P := P) (w := w) Z) (g_Expression_kind Z) (de_var 0)) (de_gstr rfl (zs_REPEAT Z)) (nomark _)) (de_never) (de_var 2)))
  intro n
  induction n with
  | zero =>
    refine ⟨fd, step _ _ (Nat.le_refl _) ?_, B⟩
    exact FnG.bad
  | succ n ih => exact ⟨fd, step _ _ (by show 5 ≤ 5 + n + 1; omega) ih.g, B⟩
/-! persons_of -/
theorem sc_persons_of : FnScope ["line", "needed", "known", "name"] ["line"] (defScope (top 91)) := ⟨rfl, rfl, rfl, by decide +kernel, rfl, by decide +kernel, by decide +kernel⟩
noncomputable def S_persons_of (C : CE) : DS :=
  sCons (sSet 1 (eMeth 2 "uses" (G_Source_uses C) (eProp' 3 (G_Line_source C) (eVar 0)) (aCons (eProp' 3 (G_Line_part C) (eVar 0)) (aNil)))) <|
  sCons (sSet 2 (eNewD)) <|
  sCons (sFor (iSeq (eMeth 2 "order" (G_Source_order C) (eProp' 3 (G_Line_source C) (eVar 0)) aNil)) (gName 3) (sIf (eOr (eTest (eBin dIn (eVar 3) (eVar 1))) (eTest (eBin dEq (eVar 3) (eProp' 3 (G_Line_part C) (eVar 0))))) (sPut (eVar 2) (eVar 3) (eCall (G_written_out C 3) (aCons (eIxo 2 (G_Source_getitem C) (eProp' 3 (G_Line_source C) (eVar 0)) (eVar 3)) (aCons (eVar 2) (aNil))))) (sNil))) <|
  sRet (eCB fList (aCons (eBin dIx (eVar 2) (eProp' 3 (G_Line_part C) (eVar 0))) (aNil)))
noncomputable def G_persons_of (C : CE) : List D → Store → Res D := fun ds m => if ds.length = 1 then runB (S_persons_of C) (startD 4 ds) m else .bad
noncomputable def GP_persons_of (C : CE) : List D → Store → Res D := fun ds m => popR m (G_persons_of C ds m)
theorem g_persons_of (Z : KZ K mg) : GoodP P w K mg base 9 (He.ga K "persons_of") ["line"] (CL P w K) (G_persons_of (CL P w K)) := by
  obtain ⟨fd, F⟩ := Z.fun_ 58 (d := d_persons_of) rfl
  have F : FunD K "persons_of" "persons_of" (defArgs (top 91)) (defBody (top 91)) (defScope (top 91)) [] [] (He.ga K "persons_of") fd := F
  have Sc := sc_persons_of
  refine ⟨fd, fnD (k := 8) (S := S_persons_of (CL P w K)) F Sc (fun _ _ => rfl) fun cdv A outer s H E hr W tk hp => ?_, F.bindsN fun _ _ _ _ _ _ us hl => match us, hl with | [_], _ => rfl⟩
  exact
    ds_cons (ds_set Sc.nd (de_meth (k := 4) tk (hr.mono (by decide)) (zc_Source (P := P) (w := w) Z) (zm_Source_uses (P := P) (w := w) Z) ((g_Source_uses Z).g) (de_propG (k := 1) (hr.mono (by decide)) (zc_Line (P := P) (w := w) Z) (zp_Line_source (P := P) (w := w) Z) (g_Line_source Z) (de_var 0)) (da_cons (de_propG (k := 1) (hr.mono (by decide)) (zc_Line (P := P) (w := w) Z) (zp_Line_part (P := P) (w := w) Z) (g_Line_part Z) (de_var 0)) (da_nil)))) <|
  ds_cons (ds_set Sc.nd (de_newD)) <|
  ds_cons (ds_for hp rfl (di_seq (de_meth0 (k := 1) tk (hr.mono (by decide)) (zc_Source (P := P) (w := w) Z) (zm_Source_order (P := P) (w := w) Z) ((g_Source_order Z).g) (de_propG (k := 1) (hr.mono (by decide)) (zc_Line (P := P) (w := w) Z) (zp_Line_source (P := P) (w := w) Z) (g_Line_source Z) (de_var 0)))) (dg_name Sc.nd) (ds_one (ds_if (PW.pt (dw_or (dt_cmp (op_inG (hu65 hr)) od_in (de_var 3) (de_var 1) (by with_unfolding_all rfl)) (dw_or1 (dt_cmp (op_eqDD hr.units) od_eq (de_var 3) (de_propG (k := 1) (hr.mono (by decide)) (zc_Line (P := P) (w := w) Z) (zp_Line_part (P := P) (w := w) Z) (g_Line_part Z) (de_var 0)) (nomark _))))) (ds_one (ds_put (hu1 hr) (de_var 2) (de_var 3) (de_call (k := 8) tk (hr.mono (by decide)) ((g_written_out Z 2).g) (zg_written_out Z) (zkp_written_out Z) (da_cons (de_ixo (k := 3) tk (hr.mono (by decide)) (zc_Source (P := P) (w := w) Z) (zo_Source_getitem (P := P) (w := w) Z).1 (zo_Source_getitem (P := P) (w := w) Z).2.1 (zo_Source_getitem (P := P) (w := w) Z).2.2 ((g_Source_getitem Z).g) (de_propG (k := 1) (hr.mono (by decide)) (zc_Line (P := P) (w := w) Z) (zp_Line_source (P := P) (w := w) Z) (g_Line_source Z) (de_var 0)) (de_var 3)) (da_cons (de_var 2) (da_nil)))))) (ds_nil)))) <|
  ds_one (ds_ret (de_ct (cr_listD rfl) cd_list (zf_list Z) (da_cons (de_ix (hu1 hr) (de_var 2) (de_propG (k := 1) (hr.mono (by decide)) (zc_Line (P := P) (w := w) Z) (zp_Line_part (P := P) (w := w) Z) (g_Line_part Z) (de_var 0))) (da_nil))))
/-! Line.is_ring -/
theorem sc_Line_is_ring : FnScope ["self"] ["self"] (defScope (mtop 93 4)) := ⟨rfl, rfl, rfl, by decide +kernel, rfl, by decide +kernel, by decide +kernel⟩
noncomputable def S_Line_is_ring (C : CE) : DS :=
  sRet (eFld 3 "own_kind" (eVar 0))
noncomputable def G_Line_is_ring (C : CE) : List D → Store → Res D := fun ds m => if ds.length = 1 then runB (S_Line_is_ring C) (startD 1 ds) m else .bad
theorem g_Line_is_ring (Z : KZ K mg) : GoodP P w K mg base 1 (He5.wf K (He.ga K "Line") "property" "is_ring") ["self"] (CL P w K) (G_Line_is_ring (CL P w K)) := by
  obtain ⟨fd, F⟩ := Z.fun_ 59 (d := d_Line_is_ring) rfl
  have F : FunD K "is_ring" "Line.is_ring" (defArgs (mtop 93 4)) (defBody (mtop 93 4)) (defScope (mtop 93 4)) [] [] (He5.wf K (He.ga K "Line") "property" "is_ring") fd := F
  have Sc := sc_Line_is_ring
  refine ⟨fd, fnD (k := 0) (S := S_Line_is_ring (CL P w K)) F Sc (fun _ _ => rfl) fun cdv A outer s H E hr W tk hp => ?_, F.bindsN fun _ _ _ _ _ _ us hl => match us, hl with | [_], _ => rfl⟩
  exact
    ds_one (ds_ret (de_fld (zc_Line (P := P) (w := w) Z) (zn_Line_own_kind (P := P) (w := w) Z) (de_var 0)))
/-! ends_of -/
theorem sc_ends_of : FnScope ["is_ring", "pair"] ["is_ring"] (defScope (top 85)) := ⟨rfl, rfl, rfl, by decide +kernel, rfl, by decide +kernel, by decide +kernel⟩
noncomputable def S_ends_of (C : CE) : DS :=
  sCons (sIf (eTest (eVar 0)) (sRet (eLc [1] (iSeq (eC (.tup [(.str "TT"), (.str "TL"), (.str "LT"), (.str "LL")]))) (gName 1) (dTrue) (eTup (aCons (eVar 1) (aCons (eTup (aCons (eVar 1) (aNil))) (aNil)))))) (sNil)) <|
  sRet (eLc [1] (iSeq (eC (.tup [(.str "TT"), (.str "TL")]))) (gName 1) (dTrue) (eTup (aCons (eVar 1) (aCons (eC (.tup [(.str "TT"), (.str "LT")])) (aNil)))))
noncomputable def G_ends_of (C : CE) : List D → Store → Res D := fun ds m => if ds.length = 1 then runB (S_ends_of C) (startD 2 ds) m else .bad
theorem g_ends_of (Z : KZ K mg) : GoodP P w K mg base 1 (He.ga K "ends_of") ["is_ring"] (CL P w K) (G_ends_of (CL P w K)) := by
  obtain ⟨fd, F⟩ := Z.fun_ 60 (d := d_ends_of) rfl
  have F : FunD K "ends_of" "ends_of" (defArgs (top 85)) (defBody (top 85)) (defScope (top 85)) [] [] (He.ga K "ends_of") fd := F
  have Sc := sc_ends_of
  refine ⟨fd, fnD (k := 0) (S := S_ends_of (CL P w K)) F Sc (fun _ _ => rfl) fun cdv A outer s H E hr W tk hp => ?_, F.bindsN fun _ _ _ _ _ _ us hl => match us, hl with | [_], _ => rfl⟩
  exact
    ds_cons (ds_if (dt_val (de_var 0)) (ds_one (ds_ret (de_lc (own := [("pair", 1)]) rfl Sc.nd rfl (di_seq (de_gtup (ds := [(.str "TT"), (.str "TL"), (.str "LT"), (.str "LL")]) rfl (zt_PAIRS Z).1 (zt_PAIRS Z).2 rfl)) (fun _ _ _ _ _ => dgv_name Sc.nd) (fun _ _ _ _ _ => dts_nil) (fun _ _ _ _ _ => de_tup (da_cons (de_var 1) (da_cons (de_tup (da_cons (de_var 1) (da_nil))) (da_nil))))))) (ds_nil)) <|
  ds_one (ds_ret (de_lc (own := [("pair", 1)]) rfl Sc.nd rfl (di_seq (de_gtup (ds := [(.str "TT"), (.str "TL")]) rfl (zt_ROW_STARTS Z).1 (zt_ROW_STARTS Z).2 rfl)) (fun _ _ _ _ _ => dgv_name Sc.nd) (fun _ _ _ _ _ => dts_nil) (fun _ _ _ _ _ => de_tup (da_cons (de_var 1) (da_cons (de_gtup (ds := [(.str "TT"), (.str "LT")]) rfl (zt_ROW_ENDS Z).1 (zt_ROW_ENDS Z).2 rfl) (da_nil))))))
/-! allows_pair -/
theorem sc_allows_pair : FnScope ["facts", "person", "pair"] ["facts", "person", "pair"] (defScope (top 100)) := ⟨rfl, rfl, rfl, by decide +kernel, rfl, by decide +kernel, by decide +kernel⟩
noncomputable def S_allows_pair (C : CE) : DS :=
  sRet (eOrV (eBin dNotIn (eVar 1) (eVar 0)) (eBin dEq (eBin dIx (eVar 0) (eVar 1)) (eBin dIx (eVar 2) (eC (.int 1)))))
noncomputable def G_allows_pair (C : CE) : List D → Store → Res D := fun ds m => if ds.length = 3 then runB (S_allows_pair C) (startD 3 ds) m else .bad
theorem g_allows_pair (Z : KZ K mg) : GoodP P w K mg base 1 (He.ga K "allows_pair") ["facts", "person", "pair"] (CL P w K) (G_allows_pair (CL P w K)) := by
  obtain ⟨fd, F⟩ := Z.fun_ 61 (d := d_allows_pair) rfl
  have F : FunD K "allows_pair" "allows_pair" (defArgs (top 100)) (defBody (top 100)) (defScope (top 100)) [] [] (He.ga K "allows_pair") fd := F
  have Sc := sc_allows_pair
  refine ⟨fd, fnD (k := 0) (S := S_allows_pair (CL P w K)) F Sc (fun _ _ => rfl) fun cdv A outer s H E hr W tk hp => ?_, F.bindsN fun _ _ _ _ _ _ us hl => match us, hl with | [_, _, _], _ => rfl⟩
  exact
    ds_one (ds_ret (de_or (de_cmp (op_notInG (hu65 hr)) od_notIn (de_var 1) (de_var 0) (by with_unfolding_all rfl)) (de_one (de_cmp (op_eqDD hr.units) od_eq (de_ix (hu1 hr) (de_var 0) (de_var 1)) (de_ix (hu1 hr) (de_var 2) (de_int)) (nomark _)))))
/-! Statement.__contains__ -/
theorem sc_Statement_contains : FnScope ["self", "pair"] ["self", "pair"] (defScope (mtop 27 12)) := ⟨rfl, rfl, rfl, by decide +kernel, rfl, by decide +kernel, by decide +kernel⟩
noncomputable def S_Statement_contains (C : CE) : DS :=
  sRet (eAndV (eIsi ["str"] [] (fun _ => true) (fun _ => false) (eVar 1)) (eAndV (eBin dIn (eVar 1) (eC (.tup [(.str "TT"), (.str "TL"), (.str "LT"), (.str "LL")]))) (eBin dEq (eBin dIx (eFld 0 "own_text" (eVar 0)) (eTix ["TT", "TL", "LT", "LL"] (eVar 1))) (eC (.str "1")))))
noncomputable def G_Statement_contains (C : CE) : List D → Store → Res D := fun ds m => if ds.length = 2 then runB (S_Statement_contains C) (startD 2 ds) m else .bad
theorem g_Statement_contains (Z : KZ K mg) : GoodP P w K mg base 1 (He.ma K (He.ga K "Statement") "__contains__") ["self", "pair"] (CL P w K) (G_Statement_contains (CL P w K)) := by
  obtain ⟨fd, F⟩ := Z.fun_ 62 (d := d_Statement_contains) rfl
  have F : FunD K "__contains__" "Statement.__contains__" (defArgs (mtop 27 12)) (defBody (mtop 27 12)) (defScope (mtop 27 12)) [] [] (He.ma K (He.ga K "Statement") "__contains__") fd := F
  have Sc := sc_Statement_contains
  refine ⟨fd, fnD (k := 0) (S := S_Statement_contains (CL P w K)) F Sc (fun _ _ => rfl) fun cdv A outer s H E hr W tk hp => ?_, F.bindsN fun _ _ _ _ _ _ us hl => match us, hl with | [_, _], _ => rfl⟩
  exact
    ds_one (ds_ret (de_and (de_isi (isi_ty (zf_str Z) (List.forall_mem_cons.mpr ⟨(zis_str_str Z), (by intro _ h; cases h)⟩) (by intro _ h; cases h)) (de_var 1) (zf_isinstance Z)) (de_and (de_cmp (op_inG (hu65 hr)) od_in (de_var 1) (de_gtup (ds := [(.str "TT"), (.str "TL"), (.str "LT"), (.str "LL")]) rfl (zt_PAIRS Z).1 (zt_PAIRS Z).2 rfl) (by with_unfolding_all rfl)) (de_one (de_cmp (op_eqDD hr.units) od_eq (de_ix (hu1 hr) (de_fld (zc_Statement (P := P) (w := w) Z) (zn_Statement_own_text (P := P) (w := w) Z) (de_var 0)) (de_tix (ys := ["TT", "TL", "LT", "LL"]) (zt_PAIRS Z).1 (zto_PAIRS Z) (zt_PAIRS Z).2 (de_var 1))) (de_str) (nomark _))))))
/-! does_fit -/
theorem sc_does_fit : FnScope ["statement", "left", "own", "right"] ["statement", "left", "own", "right"] (defScope (top 83)) := ⟨rfl, rfl, rfl, by decide +kernel, rfl, by decide +kernel, by decide +kernel⟩
noncomputable def S_does_fit (C : CE) : DS :=
  sRet (eOrV (eBin dIs (eVar 0) (eC .non)) (eBin dEq (eBin dEq (eVar 2) (eC (.str "T"))) (eIno false 0 (G_Statement_contains C) (eBin dAdd (eVar 1) (eVar 3)) (eVar 0))))
noncomputable def G_does_fit (C : CE) : List D → Store → Res D := fun ds m => if ds.length = 4 then runB (S_does_fit C) (startD 4 ds) m else .bad
theorem g_does_fit (Z : KZ K mg) : GoodP P w K mg base 2 (He.ga K "does_fit") ["statement", "left", "own", "right"] (CL P w K) (G_does_fit (CL P w K)) := by
  obtain ⟨fd, F⟩ := Z.fun_ 63 (d := d_does_fit) rfl
  have F : FunD K "does_fit" "does_fit" (defArgs (top 83)) (defBody (top 83)) (defScope (top 83)) [] [] (He.ga K "does_fit") fd := F
  have Sc := sc_does_fit
  refine ⟨fd, fnD (k := 1) (S := S_does_fit (CL P w K)) F Sc (fun _ _ => rfl) fun cdv A outer s H E hr W tk hp => ?_, F.bindsN fun _ _ _ _ _ _ us hl => match us, hl with | [_, _, _, _], _ => rfl⟩
  exact
    ds_one (ds_ret (de_or (de_cmp (op_isN) od_is (de_var 0) (de_non) (nomark _)) (de_one (de_cmp (op_eqDD hr.units) od_eq (de_cmp (op_eqDD hr.units) od_eq (de_var 2) (de_str) (nomark _)) (de_ino (k := 1) (hr.mono (by decide)) (zc_Statement (P := P) (w := w) Z) (zo_Statement_contains (P := P) (w := w) Z).1 (zo_Statement_contains (P := P) (w := w) Z).2.2 ((g_Statement_contains Z).g) (de_add (de_var 1) (de_var 3)) (de_var 0)) (nomark _)))))
/-! next_pairs -/
theorem sc_next_pairs : FnScope ["statement", "pair", "letter"] ["statement", "pair"] (defScope (top 84)) := ⟨rfl, rfl, rfl, by decide +kernel, rfl, by decide +kernel, by decide +kernel⟩
noncomputable def S_next_pairs (C : CE) : DS :=
  sRet (eLc [2] (iSeq (eC (.tup [(.str "T"), (.str "L")]))) (gName 2) (eTest (eCall (G_does_fit C) (aCons (eVar 0) (aCons (eBin dIx (eVar 1) (eC (.int 0))) (aCons (eBin dIx (eVar 1) (eC (.int 1))) (aCons (eVar 2) (aNil))))))) (eBin dAdd (eBin dIx (eVar 1) (eC (.int 1))) (eVar 2)))
noncomputable def G_next_pairs (C : CE) : List D → Store → Res D := fun ds m => if ds.length = 2 then runB (S_next_pairs C) (startD 3 ds) m else .bad
theorem g_next_pairs (Z : KZ K mg) : GoodP P w K mg base 3 (He.ga K "next_pairs") ["statement", "pair"] (CL P w K) (G_next_pairs (CL P w K)) := by
  obtain ⟨fd, F⟩ := Z.fun_ 64 (d := d_next_pairs) rfl
  have F : FunD K "next_pairs" "next_pairs" (defArgs (top 84)) (defBody (top 84)) (defScope (top 84)) [] [] (He.ga K "next_pairs") fd := F
  have Sc := sc_next_pairs
  refine ⟨fd, fnD (k := 2) (S := S_next_pairs (CL P w K)) F Sc (fun _ _ => rfl) fun cdv A outer s H E hr W tk hp => ?_, F.bindsN fun _ _ _ _ _ _ us hl => match us, hl with | [_, _], _ => rfl⟩
  exact
    ds_one (ds_ret (de_lc (own := [("letter", 2)]) rfl Sc.nd rfl (di_seq (de_gtup (ds := [(.str "T"), (.str "L")]) rfl (zt_LETTERS_tables Z).1 (zt_LETTERS_tables Z).2 rfl)) (fun _ _ _ _ _ => dgv_name Sc.nd) (fun _ _ _ _ _ => dts_one (dt_val (de_call (k := 2) takes0 (hr.mono (by decide)) ((g_does_fit Z).g) (zg_does_fit Z) (zkp_does_fit Z) (da_cons (de_var 0) (da_cons (de_ix (hu1 hr) (de_var 1) (de_int)) (da_cons (de_ix (hu1 hr) (de_var 1) (de_int)) (da_cons (de_var 2) (da_nil)))))))) (fun _ _ _ _ _ => de_add (de_ix (hu1 hr) (de_var 1) (de_int)) (de_var 2))))
/-! reached_pairs -/
theorem sc_reached_pairs : FnScope ["persons", "start", "facts", "found", "person", "statement", "there", "pair", "later"] ["persons", "start", "facts"] (defScope (top 101)) := ⟨rfl, rfl, rfl, by decide +kernel, rfl, by decide +kernel, by decide +kernel⟩
noncomputable def S_reached_pairs (C : CE) : DS :=
  sCons (sSet 3 (eNewL (aCons (eIf (eTest (eCall (G_allows_pair C) (aCons (eVar 2) (aCons (eC (.int 0)) (aCons (eVar 1) (aNil)))))) (eLst (aCons (eVar 1) (aNil))) (eLst (aNil))) (aNil)))) <|
  sCons (sFor (iEnu (aCons (eVar 0) (aNil))) (gTupD (gsCons (gName 4) (gsCons (gName 5) (gsNil)))) (sCons (sSet 6 (eSc2 [7, 8] [8] (iSeq (eBin dIx (eVar 3) (eNeg (eC (.int 1))))) (gName 7) (dTrue) (iSeq (eCall (G_next_pairs C) (aCons (eVar 5) (aCons (eVar 7) (aNil))))) (gName 8) (dTrue) (eVar 8))) <|
    sExpr (eOnL appD (eVar 3) (eLc [7] (iSeq (eC (.tup [(.str "TT"), (.str "TL"), (.str "LT"), (.str "LL")]))) (gName 7) (eAnd (eTest (eBin dInS (eVar 7) (eVar 6))) (eTest (eCall (G_allows_pair C) (aCons (eVar 2) (aCons (eBin dAdd (eVar 4) (eC (.int 1))) (aCons (eVar 7) (aNil))))))) (eVar 7))))) <|
  thawS 3 (sRet (eVar 3))
noncomputable def G_reached_pairs (C : CE) : List D → Store → Res D := fun ds m => if ds.length = 3 then runB (S_reached_pairs C) (startD 9 ds) m else .bad
noncomputable def GP_reached_pairs (C : CE) : List D → Store → Res D := fun ds m => popR m (G_reached_pairs C ds m)
theorem g_reached_pairs (Z : KZ K mg) : GoodP P w K mg base 4 (He.ga K "reached_pairs") ["persons", "start", "facts"] (CL P w K) (G_reached_pairs (CL P w K)) := by
  obtain ⟨fd, F⟩ := Z.fun_ 65 (d := d_reached_pairs) rfl
  have F : FunD K "reached_pairs" "reached_pairs" (defArgs (top 101)) (defBody (top 101)) (defScope (top 101)) [] [] (He.ga K "reached_pairs") fd := F
  have Sc := sc_reached_pairs
  refine ⟨fd, fnD (k := 3) (S := S_reached_pairs (CL P w K)) F Sc (fun _ _ => rfl) fun cdv A outer s H E hr W tk hp => ?_, F.bindsN fun _ _ _ _ _ _ us hl => match us, hl with | [_, _, _], _ => rfl⟩
  exact
    ds_cons (ds_set Sc.nd (de_newL (da_cons (de_if (dt_val (de_call (k := 1) tk (hr.mono (by decide)) ((g_allows_pair Z).g) (zg_allows_pair Z) (zkp_allows_pair Z) (da_cons (de_var 2) (da_cons (de_int) (da_cons (de_var 1) (da_nil)))))) (de_lst (da_cons (de_var 1) (da_nil))) (de_lst (da_nil))) (da_nil)))) <|
  ds_cons (ds_for hp rfl (di_enum (da_cons (de_var 0) (da_nil)) (zf_enumerate Z)) (dg_of (vs := [4, 5]) (dgv_tup (n := 2) rfl (dgvs_cons (dgv_name Sc.nd) (dgvs_cons (dgv_name Sc.nd) (dgvs_nil))) (gsl (gsl gsl0)))) (ds_cons (ds_set Sc.nd (de_sc2 (own := [("pair", 7), ("later", 8)]) (vs1 := [8]) CC_S rfl Sc.nd rfl (by decide) (di_seq (de_ix (hu1 hr) (de_var 3) (de_neg (de_int)))) (fun _ _ _ _ _ => dgv_name Sc.nd) (fun _ _ _ _ _ => dts_nil) (fun _ _ _ _ _ => de_var 8) (fun _ _ _ _ _ => di_seq (de_call (k := 3) takes0 (hr.mono (by decide)) ((g_next_pairs Z).g) (zg_next_pairs Z) (zkp_next_pairs Z) (da_cons (de_var 5) (da_cons (de_var 7) (da_nil))))) (fun _ _ _ _ _ => dgv_name Sc.nd) (fun _ _ _ _ _ => dts_nil))) <|
    ds_one (ds_expr (de_append (de_var 3) (de_lc (own := [("pair", 7)]) rfl Sc.nd rfl (di_seq (de_gtup (ds := [(.str "TT"), (.str "TL"), (.str "LT"), (.str "LL")]) rfl (zt_PAIRS Z).1 (zt_PAIRS Z).2 rfl)) (fun _ _ _ _ _ => dgv_name Sc.nd) (fun _ _ _ _ _ => dts_one (PW.pt (dw_and (dt_cmp (op_inS) (od_inS CC_S) (de_var 7) (de_var 6) (by with_unfolding_all rfl)) (dw_and1 (dt_val (de_call (k := 1) takes0 (hr.mono (by decide)) ((g_allows_pair Z).g) (zg_allows_pair Z) (zkp_allows_pair Z) (da_cons (de_var 2) (da_cons (de_add (de_var 4) (de_int)) (da_cons (de_var 7) (da_nil)))))))))) (fun _ _ _ _ _ => de_var 7)))))) <|
  dss_thaw 3 (ds_one (ds_ret (de_var 3)))
/-! led_pairs -/
theorem sc_led_pairs : FnScope ["persons", "places", "ends", "found", "person", "later", "there", "pair", "one"] ["persons", "places", "ends"] (defScope (top 102)) := ⟨rfl, rfl, rfl, by decide +kernel, rfl, by decide +kernel, by decide +kernel⟩
noncomputable def S_led_pairs (C : CE) : DS :=
  sCons (sSet 3 (eNewL (aCons (eLc [7] (iSeq (eBin dIx (eVar 1) (eNeg (eC (.int 1))))) (gName 7) (eTest (eBin dIn (eVar 7) (eVar 2))) (eVar 7)) (aNil)))) <|
  sCons (sFor (iRange3 (aCons (eBin dSub (eCB fLen (aCons (eVar 0) (aNil))) (eC (.int 1))) (aCons (eNeg (eC (.int 1))) (aCons (eNeg (eC (.int 1))) (aNil))))) (gName 4) (sCons (sSet 5 (eBin dIx (eVar 3) (eNeg (eC (.int 1))))) <|
    sCons (sSet 6 (eLc [7] (iSeq (eBin dIx (eVar 1) (eVar 4))) (gName 7) (eTest (eCB fAny (aCons (eLc [8] (iSeq (eCall (G_next_pairs C) (aCons (eBin dIx (eVar 0) (eVar 4)) (aCons (eVar 7) (aNil))))) (gName 8) (dTrue) (eBin dIn (eVar 8) (eVar 5))) (aNil)))) (eVar 7))) <|
    sExpr (eOnL appD (eVar 3) (eVar 6)))) <|
  sRet (eRev (eVar 3))
noncomputable def G_led_pairs (C : CE) : List D → Store → Res D := fun ds m => if ds.length = 3 then runB (S_led_pairs C) (startD 9 ds) m else .bad
noncomputable def GP_led_pairs (C : CE) : List D → Store → Res D := fun ds m => popR m (G_led_pairs C ds m)
theorem g_led_pairs (Z : KZ K mg) : GoodP P w K mg base 4 (He.ga K "led_pairs") ["persons", "places", "ends"] (CL P w K) (G_led_pairs (CL P w K)) := by
  obtain ⟨fd, F⟩ := Z.fun_ 66 (d := d_led_pairs) rfl
  have F : FunD K "led_pairs" "led_pairs" (defArgs (top 102)) (defBody (top 102)) (defScope (top 102)) [] [] (He.ga K "led_pairs") fd := F
  have Sc := sc_led_pairs
  refine ⟨fd, fnD (k := 3) (S := S_led_pairs (CL P w K)) F Sc (fun _ _ => rfl) fun cdv A outer s H E hr W tk hp => ?_, F.bindsN fun _ _ _ _ _ _ us hl => match us, hl with | [_, _, _], _ => rfl⟩
  exact
    ds_cons (ds_set Sc.nd (de_newL (da_cons (de_lc (own := [("pair", 7)]) rfl Sc.nd rfl (di_seq (de_ix (hu1 hr) (de_var 1) (de_neg (de_int)))) (fun _ _ _ _ _ => dgv_name Sc.nd) (fun _ _ _ _ _ => dts_one (dt_cmp (op_inG (hu65 hr)) od_in (de_var 7) (de_var 2) (by with_unfolding_all rfl))) (fun _ _ _ _ _ => de_var 7)) (da_nil)))) <|
  ds_cons (ds_for hp rfl (di_range3 (da_cons (de_sub (de_cb cr_lenD cd_len (zf_len Z) (da_cons (de_var 0) (da_nil))) (de_int)) (da_cons (de_neg (de_int)) (da_cons (de_neg (de_int)) (da_nil)))) (zf_range Z)) (dg_name Sc.nd) (ds_cons (ds_set Sc.nd (de_ix (hu1 hr) (de_var 3) (de_neg (de_int)))) <|
    ds_cons (ds_setLc (own := [("pair", 7)]) rfl Sc.nd rfl (di_seq (de_ix (hu1 hr) (de_var 1) (de_var 4))) (fun _ _ _ _ _ => dgv_name Sc.nd) (fun _ _ _ _ _ => dts_one (dt_val (de_cb (cr_any rfl) cd_any (zf_any Z) (da_cons (de_lc (own := [("one", 8)]) rfl Sc.nd rfl (di_seq (de_call (k := 3) takes0 (hr.mono (by decide)) ((g_next_pairs Z).g) (zg_next_pairs Z) (zkp_next_pairs Z) (da_cons (de_ix (hu1 hr) (de_var 0) (de_var 4)) (da_cons (de_var 7) (da_nil))))) (fun _ _ _ _ _ => dgv_name Sc.nd) (fun _ _ _ _ _ => dts_nil) (fun _ _ _ _ _ => de_cmp (op_inG (hu65 hr)) od_in (de_var 8) (de_var 5) (by with_unfolding_all rfl))) (da_nil))))) (fun _ _ _ _ _ => de_var 7)) <|
    ds_one (ds_expr (de_append (de_var 3) (de_var 6))))) <|
  ds_one (ds_ret (de_rev (de_var 3)))
/-! possible_letters -/
theorem sc_possible_letters : FnScope ["line", "facts", "persons", "found", "start", "ends", "places", "person", "pair", "letters", "one"] ["line", "facts"] (defScope (top 103)) := ⟨rfl, rfl, rfl, by decide +kernel, rfl, by decide +kernel, by decide +kernel⟩
noncomputable def S_possible_letters (C : CE) : DS :=
  sCons (sSet 2 (eCall (GP_persons_of C) (aCons (eVar 0) (aNil)))) <|
  sCons (sSet 3 (eLc [7] (iSeq (eVar 2)) (gName 7) (dTrue) (eNewD))) <|
  sCons (sFor (iSeq (eCall (G_ends_of C) (aCons (eProp' 3 (G_Line_is_ring C) (eVar 0)) (aNil)))) (gTupD (gsCons (gName 4) (gsCons (gName 5) (gsNil)))) (sCons (sSet 6 (eCall (GP_led_pairs C) (aCons (eVar 2) (aCons (eCall (GP_reached_pairs C) (aCons (eVar 2) (aCons (eVar 4) (aCons (eVar 1) (aNil))))) (aCons (eVar 5) (aNil)))))) <|
    sFor (iRange1 (aCons (eCB fLen (aCons (eVar 2) (aNil))) (aNil))) (gName 7) (sFor (iSeq (eBin dIx (eVar 6) (eVar 7))) (gName 8) (sCons (sSet 9 (eBin dIx (eVar 3) (eVar 7))) <|
        sPut (eVar 9) (eBin dIx (eVar 8) (eC (.int 1))) (eC (.bl true)))))) <|
  sRet (eIf (eTest (eBin dEq (eBin dIx (eVar 3) (eC (.int 0))) (eDic0))) (eC .non) (eLc [9] (iSeq (eVar 3)) (gName 9) (dTrue) (eLc [10] (iSeq (eC (.tup [(.str "T"), (.str "L")]))) (gName 10) (eTest (eBin dIn (eVar 10) (eVar 9))) (eVar 10))))
noncomputable def G_possible_letters (C : CE) : List D → Store → Res D := fun ds m => if ds.length = 2 then runB (S_possible_letters C) (startD 11 ds) m else .bad
noncomputable def GP_possible_letters (C : CE) : List D → Store → Res D := fun ds m => popR m (G_possible_letters C ds m)
theorem g_possible_letters (Z : KZ K mg) : GoodP P w K mg base 10 (He.ga K "possible_letters") ["line", "facts"] (CL P w K) (G_possible_letters (CL P w K)) := by
  obtain ⟨fd, F⟩ := Z.fun_ 67 (d := d_possible_letters) rfl
  have F : FunD K "possible_letters" "possible_letters" (defArgs (top 103)) (defBody (top 103)) (defScope (top 103)) [] [] (He.ga K "possible_letters") fd := F
  have Sc := sc_possible_letters
  refine ⟨fd, fnD (k := 9) (S := S_possible_letters (CL P w K)) F Sc (fun _ _ => rfl) fun cdv A outer s H E hr W tk hp => ?_, F.bindsN fun _ _ _ _ _ _ us hl => match us, hl with | [_, _], _ => rfl⟩
  exact
    ds_cons (ds_set Sc.nd (de_call (k := 9) tk (hr.mono (by decide)) ((g_persons_of Z).g.pop) (zg_persons_of Z) (zkp_persons_of Z) (da_cons (de_var 0) (da_nil)))) <|
  ds_cons (ds_setLc (own := [("person", 7)]) rfl Sc.nd rfl (di_seq (de_var 2)) (fun _ _ _ _ _ => dgv_name Sc.nd) (fun _ _ _ _ _ => dts_nil) (fun _ _ _ _ _ => de_newD)) <|
  ds_cons (ds_for hp rfl (di_seq (de_call (k := 1) tk (hr.mono (by decide)) ((g_ends_of Z).g) (zg_ends_of Z) (zkp_ends_of Z) (da_cons (de_propG (k := 1) (hr.mono (by decide)) (zc_Line (P := P) (w := w) Z) (zp_Line_is_ring (P := P) (w := w) Z) (g_Line_is_ring Z) (de_var 0)) (da_nil)))) (dg_of (vs := [4, 5]) (dgv_tup (n := 2) rfl (dgvs_cons (dgv_name Sc.nd) (dgvs_cons (dgv_name Sc.nd) (dgvs_nil))) (gsl (gsl gsl0)))) (ds_cons (ds_set Sc.nd (de_call (k := 4) tk (hr.mono (by decide)) ((g_led_pairs Z).g.pop) (zg_led_pairs Z) (zkp_led_pairs Z) (da_cons (de_var 2) (da_cons (de_call (k := 4) tk (hr.mono (by decide)) ((g_reached_pairs Z).g.pop) (zg_reached_pairs Z) (zkp_reached_pairs Z) (da_cons (de_var 2) (da_cons (de_var 4) (da_cons (de_var 1) (da_nil))))) (da_cons (de_var 5) (da_nil)))))) <|
    ds_one (ds_for hp rfl (di_range1 (da_cons (de_cb cr_lenD cd_len (zf_len Z) (da_cons (de_var 2) (da_nil))) (da_nil)) (zf_range Z)) (dg_name Sc.nd) (ds_one (ds_for hp rfl (di_seq (de_ix (hu1 hr) (de_var 6) (de_var 7))) (dg_name Sc.nd) (ds_cons (ds_set Sc.nd (de_ix (hu1 hr) (de_var 3) (de_var 7))) <|
        ds_one (ds_put (hu1 hr) (de_var 9) (de_ix (hu1 hr) (de_var 8) (de_int)) (de_bl)))))))) <|
  ds_one (ds_ret (de_if (dt_cmp (op_eqDD hr.units) od_eq (de_ix (hu1 hr) (de_var 3) (de_int)) (de_dic0) (nomark _)) (de_non) (de_lc (own := [("letters", 9)]) rfl Sc.nd rfl (di_seq (de_var 3)) (fun _ _ _ _ _ => dgv_name Sc.nd) (fun _ _ _ _ _ => dts_nil) (fun _ _ _ _ _ => de_lc (own := [("one", 10)]) rfl Sc.nd rfl (di_seq (de_gtup (ds := [(.str "T"), (.str "L")]) rfl (zt_LETTERS_statements Z).1 (zt_LETTERS_statements Z).2 rfl)) (fun _ _ _ _ _ => dgv_name Sc.nd) (fun _ _ _ _ _ => dts_one (dt_cmp (op_inG (hu65 hr)) od_in (de_var 10) (de_var 9) (by with_unfolding_all rfl))) (fun _ _ _ _ _ => de_var 10)))))
/-! known_text -/
theorem sc_known_text : FnScope ["line", "facts", "found", "some"] ["line", "facts"] (defScope (top 105)) := ⟨rfl, rfl, rfl, by decide +kernel, rfl, by decide +kernel, by decide +kernel⟩
noncomputable def S_known_text (C : CE) : DS :=
  sCons (sSet 2 (eCall (GP_possible_letters C) (aCons (eVar 0) (aCons (eVar 1) (aNil))))) <|
  sRet (eIf (eTest (eBin dIs (eVar 2) (eC .non))) (eC .non) (eM1 dJoin (eC (.str "")) (eLc [3] (iSeq (eVar 2)) (gName 3) (dTrue) (eIf (eTest (eBin dEq (eCB fLen (aCons (eVar 3) (aNil))) (eC (.int 1)))) (eBin dIx (eVar 3) (eC (.int 0))) (eC (.str "?"))))))
noncomputable def G_known_text (C : CE) : List D → Store → Res D := fun ds m => if ds.length = 2 then runB (S_known_text C) (startD 4 ds) m else .bad
theorem g_known_text (Z : KZ K mg) : GoodP P w K mg base 11 (He.ga K "known_text") ["line", "facts"] (CL P w K) (G_known_text (CL P w K)) := by
  obtain ⟨fd, F⟩ := Z.fun_ 68 (d := d_known_text) rfl
  have F : FunD K "known_text" "known_text" (defArgs (top 105)) (defBody (top 105)) (defScope (top 105)) [] [] (He.ga K "known_text") fd := F
  have Sc := sc_known_text
  refine ⟨fd, fnD (k := 10) (S := S_known_text (CL P w K)) F Sc (fun _ _ => rfl) fun cdv A outer s H E hr W tk hp => ?_, F.bindsN fun _ _ _ _ _ _ us hl => match us, hl with | [_, _], _ => rfl⟩
  exact
    ds_cons (ds_set Sc.nd (de_call (k := 10) tk (hr.mono (by decide)) ((g_possible_letters Z).g.pop) (zg_possible_letters Z) (zkp_possible_letters Z) (da_cons (de_var 0) (da_cons (de_var 1) (da_nil))))) <|
  ds_one (ds_ret (de_if (dt_cmp (op_isN) od_is (de_var 2) (de_non) (nomark _)) (de_non) (de_join (de_str) (de_lc (own := [("some", 3)]) rfl Sc.nd rfl (di_seq (de_var 2)) (fun _ _ _ _ _ => dgv_name Sc.nd) (fun _ _ _ _ _ => dts_nil) (fun _ _ _ _ _ => de_if (dt_cmp (op_eqDD hr.units) od_eq (de_cb cr_lenD cd_len (zf_len Z) (da_cons (de_var 3) (da_nil))) (de_int) (nomark _)) (de_ix (hu1 hr) (de_var 3) (de_int)) (de_gstr rfl (zs_UNKNOWN Z)))))))
/-! known -/
theorem sc_known : FnScope ["line", "facts"] ["line", "facts"] (defScope (top 106)) := ⟨rfl, rfl, rfl, by decide +kernel, rfl, by decide +kernel, by decide +kernel⟩
noncomputable def S_known (C : CE) : DS :=
  sCons (sExpr (eCall (G_require_size C) (aCons (eVar 0) (aNil)))) <|
  sCons (sIf (eNot (eTest (eCall (G_is_facts C) (aCons (eVar 0) (aCons (eVar 1) (aNil)))))) (sNever) (sNil)) <|
  sRet (eCall (G_known_text C) (aCons (eVar 0) (aCons (eVar 1) (aNil))))
noncomputable def G_known (C : CE) : List D → Store → Res D := fun ds m => if ds.length = 2 then runB (S_known C) (startD 2 ds) m else .bad
theorem g_known (Z : KZ K mg) : GoodP P w K mg base 12 (He.ga K "known") ["line", "facts"] (CL P w K) (G_known (CL P w K)) := by
  obtain ⟨fd, F⟩ := Z.fun_ 69 (d := d_known) rfl
  have F : FunD K "known" "known" (defArgs (top 106)) (defBody (top 106)) (defScope (top 106)) [] [] (He.ga K "known") fd := F
  have Sc := sc_known
  refine ⟨fd, fnD (k := 11) (S := S_known (CL P w K)) F Sc (fun _ _ => rfl) fun cdv A outer s H E hr W tk hp => ?_, F.bindsN fun _ _ _ _ _ _ us hl => match us, hl with | [_, _], _ => rfl⟩
  exact
    ds_cons (ds_expr (de_call (k := 7) tk (hr.mono (by decide)) ((g_require_size Z).g) (zg_require_size Z) (zkp_require_size Z) (da_cons (de_var 0) (da_nil)))) <|
  ds_cons (ds_if (dt_not (dt_val (de_call (k := 8) tk (hr.mono (by decide)) ((g_is_facts Z).g) (zg_is_facts Z) (zkp_is_facts Z) (da_cons (de_var 0) (da_cons (de_var 1) (da_nil)))))) (dss_never) (ds_nil)) <|
  ds_one (ds_ret (de_call (k := 11) tk (hr.mono (by decide)) ((g_known_text Z).g) (zg_known_text Z) (zkp_known_text Z) (da_cons (de_var 0) (da_cons (de_var 1) (da_nil)))))
/-! Supposing.__init__ -/
theorem sc_Supposing_init : FnScope ["self", "line"] ["self", "line"] (defScope (mtop 108 0)) := ⟨rfl, rfl, rfl, by decide +kernel, rfl, by decide +kernel, by decide +kernel⟩
noncomputable def S_Supposing_init (C : CE) : DS :=
  sCons (sExpr (eCall (G_require_size C) (aCons (eVar 1) (aNil)))) <|
  sCons (sIf (eTest (eBin dIs (eCall (G_known_text C) (aCons (eVar 1) (aCons (eDic0) (aNil)))) (eC .non))) (sNever) (sNil)) <|
  sCons (sFldSet 4 "own_line" (eVar 0) (eVar 1)) <|
  sFldSet 4 "own_facts" (eVar 0) (eLst (aNil))
noncomputable def G_Supposing_init (C : CE) : List D → Store → Res D := fun ds m => if ds.length = 2 then runB (S_Supposing_init C) (startD 2 ds) m else .bad
theorem g_Supposing_init (Z : KZ K mg) : GoodP P w K mg base 12 (He.ma K (He.ga K "Supposing") "__init__") ["self", "line"] (CL P w K) (G_Supposing_init (CL P w K)) := by
  obtain ⟨fd, F⟩ := Z.fun_ 70 (d := d_Supposing_init) rfl
  have F : FunD K "__init__" "Supposing.__init__" (defArgs (mtop 108 0)) (defBody (mtop 108 0)) (defScope (mtop 108 0)) [] [] (He.ma K (He.ga K "Supposing") "__init__") fd := F
  have Sc := sc_Supposing_init
  refine ⟨fd, fnD (k := 11) (S := S_Supposing_init (CL P w K)) F Sc (fun _ _ => rfl) fun cdv A outer s H E hr W tk hp => ?_, F.bindsN fun _ _ _ _ _ _ us hl => match us, hl with | [_, _], _ => rfl⟩
  exact
    ds_cons (ds_expr (de_call (k := 7) tk (hr.mono (by decide)) ((g_require_size Z).g) (zg_require_size Z) (zkp_require_size Z) (da_cons (de_var 1) (da_nil)))) <|
  ds_cons (ds_if (dt_cmp (op_isN) od_is (de_call (k := 11) tk (hr.mono (by decide)) ((g_known_text Z).g) (zg_known_text Z) (zkp_known_text Z) (da_cons (de_var 1) (da_cons (de_dic0) (da_nil)))) (de_non) (nomark _)) (dss_never) (ds_nil)) <|
  ds_cons (ds_fldset (zc_Supposing (P := P) (w := w) Z) (zn_Supposing_own_line (P := P) (w := w) Z) (de_var 0) (de_var 1)) <|
  ds_one (ds_fldset (zc_Supposing (P := P) (w := w) Z) (zn_Supposing_own_facts (P := P) (w := w) Z) (de_var 0) (de_lst (da_nil)))
/-! told_by -/
theorem sc_told_by : FnScope ["line", "suppositions", "facts", "person", "letter"] ["line", "suppositions"] (defScope (top 107)) := ⟨rfl, rfl, rfl, by decide +kernel, rfl, by decide +kernel, by decide +kernel⟩
noncomputable def S_told_by (C : CE) : DS :=
  sCons (sSet 2 (eNewD)) <|
  sCons (sFor (iSeq (eVar 1)) (gTupD (gsCons (gName 3) (gsCons (gName 4) (gsNil)))) (sIf (eTest (eBin dNe (eSetd (eVar 2) (eVar 3) (eVar 4)) (eVar 4))) (sRet (eC .non)) (sNil))) <|
  sRet (eCall (G_known_text C) (aCons (eVar 0) (aCons (eVar 2) (aNil))))
noncomputable def G_told_by (C : CE) : List D → Store → Res D := fun ds m => if ds.length = 2 then runB (S_told_by C) (startD 5 ds) m else .bad
noncomputable def GP_told_by (C : CE) : List D → Store → Res D := fun ds m => popR m (G_told_by C ds m)
theorem g_told_by (Z : KZ K mg) : GoodP P w K mg base 12 (He.ga K "told_by") ["line", "suppositions"] (CL P w K) (G_told_by (CL P w K)) := by
  obtain ⟨fd, F⟩ := Z.fun_ 71 (d := d_told_by) rfl
  have F : FunD K "told_by" "told_by" (defArgs (top 107)) (defBody (top 107)) (defScope (top 107)) [] [] (He.ga K "told_by") fd := F
  have Sc := sc_told_by
  refine ⟨fd, fnD (k := 11) (S := S_told_by (CL P w K)) F Sc (fun _ _ => rfl) fun cdv A outer s H E hr W tk hp => ?_, F.bindsN fun _ _ _ _ _ _ us hl => match us, hl with | [_, _], _ => rfl⟩
  exact
    ds_cons (ds_set Sc.nd (de_newD)) <|
  ds_cons (ds_for hp rfl (di_seq (de_var 1)) (dg_of (vs := [3, 4]) (dgv_tup (n := 2) rfl (dgvs_cons (dgv_name Sc.nd) (dgvs_cons (dgv_name Sc.nd) (dgvs_nil))) (gsl (gsl gsl0)))) (ds_one (ds_if (dt_cmp (op_neDD hr.units) od_ne (de_setd (de_var 2) (de_var 3) (de_var 4)) (de_var 4) (nomark _)) (ds_one (ds_ret (de_non))) (ds_nil)))) <|
  ds_one (ds_ret (de_call (k := 11) tk (hr.mono (by decide)) ((g_known_text Z).g) (zg_known_text Z) (zkp_known_text Z) (da_cons (de_var 0) (da_cons (de_var 2) (da_nil)))))
/-! Supposing.known -/
theorem sc_Supposing_known : FnScope ["self"] ["self"] (defScope (mtop 108 4)) := ⟨rfl, rfl, rfl, by decide +kernel, rfl, by decide +kernel, by decide +kernel⟩
noncomputable def S_Supposing_known (C : CE) : DS :=
  sRet (eCall (GP_told_by C) (aCons (eFld 4 "own_line" (eVar 0)) (aCons (eFld 4 "own_facts" (eVar 0)) (aNil))))
noncomputable def G_Supposing_known (C : CE) : List D → Store → Res D := fun ds m => if ds.length = 1 then runB (S_Supposing_known C) (startD 1 ds) m else .bad
theorem g_Supposing_known (Z : KZ K mg) : GoodP P w K mg base 13 (He.ma K (He.ga K "Supposing") "known") ["self"] (CL P w K) (G_Supposing_known (CL P w K)) := by
  obtain ⟨fd, F⟩ := Z.fun_ 72 (d := d_Supposing_known) rfl
  have F : FunD K "known" "Supposing.known" (defArgs (mtop 108 4)) (defBody (mtop 108 4)) (defScope (mtop 108 4)) [] [] (He.ma K (He.ga K "Supposing") "known") fd := F
  have Sc := sc_Supposing_known
  refine ⟨fd, fnD (k := 12) (S := S_Supposing_known (CL P w K)) F Sc (fun _ _ => rfl) fun cdv A outer s H E hr W tk hp => ?_, F.bindsN fun _ _ _ _ _ _ us hl => match us, hl with | [_], _ => rfl⟩
  exact
    ds_one (ds_ret (de_call (k := 12) tk (hr.mono (by decide)) ((g_told_by Z).g.pop) (zg_told_by Z) (zkp_told_by Z) (da_cons (de_fld (zc_Supposing (P := P) (w := w) Z) (zn_Supposing_own_line (P := P) (w := w) Z) (de_var 0)) (da_cons (de_fld (zc_Supposing (P := P) (w := w) Z) (zn_Supposing_own_facts (P := P) (w := w) Z) (de_var 0)) (da_nil)))))
/-! Supposing.release -/
theorem sc_Supposing_release : FnScope ["self"] ["self"] (defScope (mtop 108 2)) := ⟨rfl, rfl, rfl, by decide +kernel, rfl, by decide +kernel, by decide +kernel⟩
noncomputable def S_Supposing_release (C : CE) : DS :=
  sCons (sIf (eTest (eBin dEq (eFld 4 "own_facts" (eVar 0)) (eLst (aNil)))) (sNever) (sNil)) <|
  sCons (sFldSet 4 "own_facts" (eVar 0) (eSl (eFld 4 "own_facts" (eVar 0)) (pNone) (pSome (eNeg (eC (.int 1)))))) <|
  sRet (eMeth 4 "known" (G_Supposing_known C) (eVar 0) aNil)
noncomputable def G_Supposing_release (C : CE) : List D → Store → Res D := fun ds m => if ds.length = 1 then runB (S_Supposing_release C) (startD 1 ds) m else .bad
theorem g_Supposing_release (Z : KZ K mg) : GoodP P w K mg base 14 (He.ma K (He.ga K "Supposing") "release") ["self"] (CL P w K) (G_Supposing_release (CL P w K)) := by
  obtain ⟨fd, F⟩ := Z.fun_ 73 (d := d_Supposing_release) rfl
  have F : FunD K "release" "Supposing.release" (defArgs (mtop 108 2)) (defBody (mtop 108 2)) (defScope (mtop 108 2)) [] [] (He.ma K (He.ga K "Supposing") "release") fd := F
  have Sc := sc_Supposing_release
  refine ⟨fd, fnD (k := 13) (S := S_Supposing_release (CL P w K)) F Sc (fun _ _ => rfl) fun cdv A outer s H E hr W tk hp => ?_, F.bindsN fun _ _ _ _ _ _ us hl => match us, hl with | [_], _ => rfl⟩
  exact
    ds_cons (ds_if (dt_cmp (op_eqDD hr.units) od_eq (de_fld (zc_Supposing (P := P) (w := w) Z) (zn_Supposing_own_facts (P := P) (w := w) Z) (de_var 0)) (de_lst (da_nil)) (nomark _)) (dss_never) (ds_nil)) <|
  ds_cons (ds_fldset (zc_Supposing (P := P) (w := w) Z) (zn_Supposing_own_facts (P := P) (w := w) Z) (de_var 0) (de_sl (de_fld (zc_Supposing (P := P) (w := w) Z) (zn_Supposing_own_facts (P := P) (w := w) Z) (de_var 0)) (dp_none) (dp_some (de_neg (de_int))))) <|
  ds_one (ds_ret (de_meth0 (k := 13) tk (hr.mono (by decide)) (zc_Supposing (P := P) (w := w) Z) (zm_Supposing_known (P := P) (w := w) Z) ((g_Supposing_known Z).g) (de_var 0)))
/-! _law_stated -/
theorem sc_law_stated : FnScope ["_law_row", "_law_facts", "_law_some", "_law_person", "_law_letter"] ["_law_row", "_law_facts"] (defScope (top 114)) := ⟨rfl, rfl, rfl, by decide +kernel, rfl, by decide +kernel, by decide +kernel⟩
noncomputable def S_law_stated (C : CE) : DS :=
  sCons (sSet 2 (eListC (aCons (eVar 0) (aNil)))) <|
  sCons (sFor (iSeq (eVar 1)) (gTupD (gsCons (gName 3) (gsCons (gName 4) (gsNil)))) (sPut (eVar 2) (eVar 3) (eBin dIx (eLst (aCons (eC (.str "0000")) (aCons (eC (.str "1111")) (aNil)))) (eCB fInt (aCons (eBin dEq (eVar 4) (eC (.str "T"))) (aNil)))))) <|
  thawS 2 (sRet (eVar 2))
noncomputable def G_law_stated (C : CE) : List D → Store → Res D := fun ds m => if ds.length = 2 then runB (S_law_stated C) (startD 5 ds) m else .bad
noncomputable def GP_law_stated (C : CE) : List D → Store → Res D := fun ds m => popR m (G_law_stated C ds m)
theorem g_law_stated (Z : KZ K mg) : GoodP P w K mg base 1 (He.ga K "_law_stated") ["_law_row", "_law_facts"] (CL P w K) (G_law_stated (CL P w K)) := by
  obtain ⟨fd, F⟩ := Z.fun_ 74 (d := d_law_stated) rfl
  have F : FunD K "_law_stated" "_law_stated" (defArgs (top 114)) (defBody (top 114)) (defScope (top 114)) [] [] (He.ga K "_law_stated") fd := F
  have Sc := sc_law_stated
  refine ⟨fd, fnD (k := 0) (S := S_law_stated (CL P w K)) F Sc (fun _ _ => rfl) fun cdv A outer s H E hr W tk hp => ?_, F.bindsN fun _ _ _ _ _ _ us hl => match us, hl with | [_, _], _ => rfl⟩
  exact
    ds_cons (ds_set Sc.nd (de_listC rfl (zf_list Z) (da_cons (de_var 0) (da_nil)))) <|
  ds_cons (ds_for hp rfl (di_seq (de_var 1)) (dg_of (vs := [3, 4]) (dgv_tup (n := 2) rfl (dgvs_cons (dgv_name Sc.nd) (dgvs_cons (dgv_name Sc.nd) (dgvs_nil))) (gsl (gsl gsl0)))) (ds_one (ds_put (hu1 hr) (de_var 2) (de_var 3) (de_ix (hu1 hr) (de_lst (da_cons (de_str) (da_cons (de_str) (da_nil)))) (de_ct cr_intD cd_int (zf_int Z) (da_cons (de_cmp (op_eqDD hr.units) od_eq (de_var 4) (de_str) (nomark _)) (da_nil))))))) <|
  dss_thaw 2 (ds_one (ds_ret (de_var 2)))
/-! _law_same -/
theorem sc_law_same : FnScope ["_law_row", "_law_ring", "_law_facts", "_law_found", "_law_stated_here"] ["_law_row", "_law_ring", "_law_facts", "_law_found"] (defScope (top 116)) := ⟨rfl, rfl, rfl, by decide +kernel, rfl, by decide +kernel, by decide +kernel⟩
noncomputable def S_law_same (C : CE) : DS :=
  sCons (sSet 4 (eCall (G_known C) (aCons (eCall (G_law_line C) (aCons (eCall (GP_law_stated C) (aCons (eVar 0) (aCons (eVar 2) (aNil)))) (aCons (eVar 1) (aNil)))) (aCons (eDic0) (aNil))))) <|
  sCons (sIf (eOr (eTest (eBin dNe (eCall (G_known C) (aCons (eCall (G_law_line C) (aCons (eVar 0) (aCons (eVar 1) (aNil)))) (aCons (eCB fDict (aCons (eVar 2) (aNil))) (aNil)))) (eVar 4))) (eTest (eBin dNe (eCall (G_known C) (aCons (eCall (G_law_line C) (aCons (eVar 0) (aCons (eVar 1) (aNil)))) (aCons (eCB fDict (aCons (eRev (eVar 2)) (aNil))) (aNil)))) (eVar 4)))) (sRet (eC (.bl false))) (sNil)) <|
  sRet (eBin dEq (eVar 3) (eVar 4))
noncomputable def G_law_same (C : CE) : List D → Store → Res D := fun ds m => if ds.length = 4 then runB (S_law_same C) (startD 5 ds) m else .bad
theorem g_law_same (Z : KZ K mg) : GoodP P w K mg base 13 (He.ga K "_law_same") ["_law_row", "_law_ring", "_law_facts", "_law_found"] (CL P w K) (G_law_same (CL P w K)) := by
  obtain ⟨fd, F⟩ := Z.fun_ 75 (d := d_law_same) rfl
  have F : FunD K "_law_same" "_law_same" (defArgs (top 116)) (defBody (top 116)) (defScope (top 116)) [] [] (He.ga K "_law_same") fd := F
  have Sc := sc_law_same
  refine ⟨fd, fnD (k := 12) (S := S_law_same (CL P w K)) F Sc (fun _ _ => rfl) fun cdv A outer s H E hr W tk hp => ?_, F.bindsN fun _ _ _ _ _ _ us hl => match us, hl with | [_, _, _, _], _ => rfl⟩
  exact
    ds_cons (ds_set Sc.nd (de_call (k := 12) tk (hr.mono (by decide)) ((g_known Z).g) (zg_known Z) (zkp_known Z) (da_cons (de_call (k := 12) tk (hr.mono (by decide)) ((g_law_line Z).g) (zg_law_line Z) (zkp_law_line Z) (da_cons (de_call (k := 1) tk (hr.mono (by decide)) ((g_law_stated Z).g.pop) (zg_law_stated Z) (zkp_law_stated Z) (da_cons (de_var 0) (da_cons (de_var 2) (da_nil)))) (da_cons (de_var 1) (da_nil)))) (da_cons (de_dic0) (da_nil))))) <|
  ds_cons (ds_if (PW.pt (dw_or (dt_cmp (op_neDD hr.units) od_ne (de_call (k := 12) tk (hr.mono (by decide)) ((g_known Z).g) (zg_known Z) (zkp_known Z) (da_cons (de_call (k := 12) tk (hr.mono (by decide)) ((g_law_line Z).g) (zg_law_line Z) (zkp_law_line Z) (da_cons (de_var 0) (da_cons (de_var 1) (da_nil)))) (da_cons (de_ct (call_dictP rfl) cd_dict (zf_dict Z) (da_cons (de_var 2) (da_nil))) (da_nil)))) (de_var 4) (nomark _)) (dw_or1 (dt_cmp (op_neDD hr.units) od_ne (de_call (k := 12) tk (hr.mono (by decide)) ((g_known Z).g) (zg_known Z) (zkp_known Z) (da_cons (de_call (k := 12) tk (hr.mono (by decide)) ((g_law_line Z).g) (zg_law_line Z) (zkp_law_line Z) (da_cons (de_var 0) (da_cons (de_var 1) (da_nil)))) (da_cons (de_ct (call_dictP rfl) cd_dict (zf_dict Z) (da_cons (de_rev (de_var 2)) (da_nil))) (da_nil)))) (de_var 4) (nomark _))))) (ds_one (ds_ret (de_bl))) (ds_nil)) <|
  ds_one (ds_ret (de_cmp (op_eqDD hr.units) od_eq (de_var 3) (de_var 4) (nomark _)))
/-! Supposing.suppose -/
theorem sc_Supposing_suppose : FnScope ["self", "person", "letter", "later", "found"] ["self", "person", "letter"] (defScope (mtop 108 1)) := ⟨rfl, rfl, rfl, by decide +kernel, rfl, by decide +kernel, by decide +kernel⟩
noncomputable def S_Supposing_suppose (C : CE) : DS :=
  sCons (sIf (eOr (eNot (eTest (eCall (G_is_person C) (aCons (eFld 4 "own_line" (eVar 0)) (aCons (eVar 1) (aNil)))))) (eNot (eTest (eCall (G_is_letter C) (aCons (eVar 2) (aNil)))))) (sNever) (sNil)) <|
  sCons (sSet 3 (eLst (aStar (eFld 4 "own_facts" (eVar 0)) (aCons (eTup (aCons (eVar 1) (aCons (eVar 2) (aNil)))) (aNil))))) <|
  sCons (sSet 4 (eCall (GP_told_by C) (aCons (eFld 4 "own_line" (eVar 0)) (aCons (eVar 3) (aNil))))) <|
  sCons (sIf (eTest (eBin dIs (eVar 4) (eC .non))) (sRaise 5 (eTup (aCons (eVar 1) (aCons (eVar 2) (aNil))))) (sNil)) <|
  sCons (sFldSet 4 "own_facts" (eVar 0) (eVar 3)) <|
  sRet (eVar 4)
noncomputable def G_Supposing_suppose (C : CE) : List D → Store → Res D := fun ds m => if ds.length = 3 then runB (S_Supposing_suppose C) (startD 5 ds) m else .bad
theorem g_Supposing_suppose (Z : KZ K mg) : GoodP P w K mg base 13 (He.ma K (He.ga K "Supposing") "suppose") ["self", "person", "letter"] (CL P w K) (G_Supposing_suppose (CL P w K)) := by
  obtain ⟨fd, F⟩ := Z.fun_ 76 (d := d_Supposing_suppose) rfl
  have F : FunD K "suppose" "Supposing.suppose" (defArgs (mtop 108 1)) (defBody (mtop 108 1)) (defScope (mtop 108 1)) [] [] (He.ma K (He.ga K "Supposing") "suppose") fd := F
  have Sc := sc_Supposing_suppose
  obtain ⟨fI_NoWay, T_NoWay⟩ := (zx_NoWay (P := P) (w := w) Z)
  refine ⟨fd, fnD (k := 12) (S := S_Supposing_suppose (CL P w K)) F Sc (fun _ _ => rfl) fun cdv A outer s H E hr W tk hp => ?_, F.bindsN fun _ _ _ _ _ _ us hl => match us, hl with | [_, _, _], _ => rfl⟩
  exact
    ds_cons (ds_if (PW.pt (dw_or (dt_not (dt_val (de_call (k := 7) tk (hr.mono (by decide)) ((g_is_person Z).g) (zg_is_person Z) (zkp_is_person Z) (da_cons (de_fld (zc_Supposing (P := P) (w := w) Z) (zn_Supposing_own_line (P := P) (w := w) Z) (de_var 0)) (da_cons (de_var 1) (da_nil)))))) (dw_or1 (dt_not (dt_val (de_call (k := 1) tk (hr.mono (by decide)) ((g_is_letter Z).g) (zg_is_letter Z) (zkp_is_letter Z) (da_cons (de_var 2) (da_nil)))))))) (dss_never) (ds_nil)) <|
  ds_cons (ds_set Sc.nd (de_lst (da_star (de_fld (zc_Supposing (P := P) (w := w) Z) (zn_Supposing_own_facts (P := P) (w := w) Z) (de_var 0)) (da_cons (de_tup (da_cons (de_var 1) (da_cons (de_var 2) (da_nil)))) (da_nil))))) <|
  ds_cons (ds_set Sc.nd (de_call (k := 12) tk (hr.mono (by decide)) ((g_told_by Z).g.pop) (zg_told_by Z) (zkp_told_by Z) (da_cons (de_fld (zc_Supposing (P := P) (w := w) Z) (zn_Supposing_own_line (P := P) (w := w) Z) (de_var 0)) (da_cons (de_var 3) (da_nil))))) <|
  ds_cons (ds_if (dt_cmp (op_isN) od_is (de_var 4) (de_non) (nomark _)) (ds_one (ds_raise rfl base_RuntimeError PySem.F.excBase_RuntimeError T_NoWay hr tk (de_tup (da_cons (de_var 1) (da_cons (de_var 2) (da_nil)))))) (ds_nil)) <|
  ds_cons (ds_fldset (zc_Supposing (P := P) (w := w) Z) (zn_Supposing_own_facts (P := P) (w := w) Z) (de_var 0) (de_var 3)) <|
  ds_one (ds_ret (de_var 4))
/-! _law_supposed -/
theorem sc_law_supposed : FnScope ["_law_held", "_law_person", "_law_letter", "e"] ["_law_held", "_law_person", "_law_letter"] (defScope (top 115)) := ⟨rfl, rfl, rfl, by decide +kernel, rfl, by decide +kernel, by decide +kernel⟩
noncomputable def S_law_supposed (C : CE) : DS :=
  sTry 3 5 [] (sRet (eMeth 4 "suppose" (G_Supposing_suppose C) (eVar 0) (aCons (eVar 1) (aCons (eVar 2) (aNil))))) (fun fs => sRet ((fun fs => eCB fRepr (aCons ((fun fs => eFs fs "value") fs) aNil)) fs))
noncomputable def G_law_supposed (C : CE) : List D → Store → Res D := fun ds m => if ds.length = 3 then runB (S_law_supposed C) (startD 4 ds) m else .bad
theorem g_law_supposed (Z : KZ K mg) : FnGg P w K mg base 14 (He.ga K "_law_supposed") (CL P w K) (G_law_supposed (CL P w K)) := by
  obtain ⟨fd, F⟩ := Z.fun_ 77 (d := d_law_supposed) rfl
  have F : FunD K "_law_supposed" "_law_supposed" (defArgs (top 115)) (defBody (top 115)) (defScope (top 115)) [] [] (He.ga K "_law_supposed") fd := F
  have Sc := sc_law_supposed
  obtain ⟨fI_NoWay, T_NoWay⟩ := (zx_NoWay (P := P) (w := w) Z)
  have B : Binds K fd ["_law_held", "_law_person", "_law_letter"] [] := F.bindsN fun _ _ _ _ _ _ us hl => match us, hl with | [_, _, _], _ => rfl
  refine fnDg (k := 13) (S := S_law_supposed (CL P w K)) F Sc B (fun _ _ => rfl) fun cdv A outer s H E hgu hr W tk hp => ?_
  exact
    ds_one (ds_try (j := 5) (ks := []) tk rfl rfl Sc.nd (zg_NoWay (P := P) (w := w) Z) (ze_NoWay_NoWay (P := P) (w := w) Z) (by intro _ h; cases h) (fun W pn xe tk hp => ds_one (ds_ret (de_meth (k := 13) tk (hr.mono (by decide)) (zc_Supposing (P := P) (w := w) Z) (zm_Supposing_suppose (P := P) (w := w) Z) ((g_Supposing_suppose Z).g) (de_var 0) (da_cons (de_var 1) (da_cons (de_var 2) (da_nil)))))) (fun a oe cls d pn hz hf => dss_ret (des_cb (cr_repr hgu (hu66 hr :)) cd_repr (zf_repr Z) (das_cons (des_val ⟨T_NoWay.ga, T_NoWay.gg, T_NoWay.exC, T_NoWay.hdC⟩ (zxn_NoWay (P := P) (w := w) Z) hz hf _) das_nil))))
/-! _law_next -/
theorem sc_law_next : FnScope ["_law_state", "_law_held", "_law_row", "_law_ring", "_law_facts", "_law_free", "_law_pair", "_law_found", "_law_at", "_law_person", "_law_letter"] ["_law_state", "_law_held", "_law_row", "_law_ring", "_law_facts"] (defScope (top 117)) := ⟨rfl, rfl, rfl, by decide +kernel, rfl, by decide +kernel, by decide +kernel⟩
noncomputable def S_law_next (C : CE) : DS :=
  sCons (sSet 5 (eLc [8] (iRange1 (aCons (eCB fLen (aCons (eVar 2) (aNil))) (aNil))) (gName 8) (eAnd (eTest (eBin dEq (eBin dIx (eVar 2) (eVar 8)) (eC (.str "?")))) (eTest (eBin dNotIn (eVar 8) (eLc [9, 10] (iSeq (eVar 4)) (gTupD (gsCons (gName 9) (gsCons (gName 10) (gsNil)))) (dTrue) (eVar 9))))) (eVar 8))) <|
  sCons (sIf (eOr (eTest (eBin dEq (eVar 5) (eLst (aNil)))) (eAnd (eTest (eBin dNe (eVar 4) (eLst (aNil)))) (eTest (eBin dEq (eCall (G_law_draw C) (aCons (eVar 0) (aCons (eC (.int 4)) (aNil)))) (eC (.int 0)))))) (sRet (eIf (eTest (eCall (G_law_same C) (aCons (eVar 2) (aCons (eVar 3) (aCons (eSl (eVar 4) (pNone) (pSome (eNeg (eC (.int 1))))) (aCons (eMeth 4 "release" (G_Supposing_release C) (eVar 1) aNil) (aNil))))))) (eSl (eVar 4) (pNone) (pSome (eNeg (eC (.int 1))))) (eC .non))) (sNil)) <|
  sCons (sSet 6 (eTup (aCons (eBin dIx (eVar 5) (eCall (G_law_draw C) (aCons (eVar 0) (aCons (eCB fLen (aCons (eVar 5) (aNil))) (aNil))))) (aCons (eBin dIx (eC (.str "TL")) (eCall (G_law_draw C) (aCons (eVar 0) (aCons (eC (.int 2)) (aNil))))) (aNil))))) <|
  sCons (sSet 7 (eCall (G_law_supposed C) (aCons (eVar 1) (aCons (eBin dIx (eVar 6) (eC (.int 0))) (aCons (eBin dIx (eVar 6) (eC (.int 1))) (aNil)))))) <|
  sCons (sIf (eTest (eBin dEq (eVar 7) (eCB fRepr (aCons (eVar 6) (aNil))))) (sRet (eIf (eTest (eCall (G_law_same C) (aCons (eVar 2) (aCons (eVar 3) (aCons (eBin dAdd (eVar 4) (eLst (aCons (eVar 6) (aNil)))) (aCons (eC .non) (aNil))))))) (eVar 4) (eC .non))) (sNil)) <|
  sRet (eIf (eTest (eCall (G_law_same C) (aCons (eVar 2) (aCons (eVar 3) (aCons (eBin dAdd (eVar 4) (eLst (aCons (eVar 6) (aNil)))) (aCons (eVar 7) (aNil))))))) (eBin dAdd (eVar 4) (eLst (aCons (eVar 6) (aNil)))) (eC .non))
noncomputable def G_law_next (C : CE) : List D → Store → Res D := fun ds m => if ds.length = 5 then runB (S_law_next C) (startD 11 ds) m else .bad
theorem g_law_next (Z : KZ K mg) : FnGg P w K mg base 15 (He.ga K "_law_next") (CL P w K) (G_law_next (CL P w K)) := by
  obtain ⟨fd, F⟩ := Z.fun_ 78 (d := d_law_next) rfl
  have F : FunD K "_law_next" "_law_next" (defArgs (top 117)) (defBody (top 117)) (defScope (top 117)) [] [] (He.ga K "_law_next") fd := F
  have Sc := sc_law_next
  have B : Binds K fd ["_law_state", "_law_held", "_law_row", "_law_ring", "_law_facts"] [] := F.bindsN fun _ _ _ _ _ _ us hl => match us, hl with | [_, _, _, _, _], _ => rfl
  refine fnDg (k := 14) (S := S_law_next (CL P w K)) F Sc B (fun _ _ => rfl) fun cdv A outer s H E hgu hr W tk hp => ?_
  exact
    ds_cons (ds_setLc (own := [("_law_at", 8)]) rfl Sc.nd rfl (di_range1 (da_cons (de_cb cr_lenD cd_len (zf_len Z) (da_cons (de_var 2) (da_nil))) (da_nil)) (zf_range Z)) (fun _ _ _ _ _ => dgv_name Sc.nd) (fun _ _ _ _ _ => dts_one (PW.pt (dw_and (dt_cmp (op_eqDD hr.units) od_eq (de_ix (hu1 hr) (de_var 2) (de_var 8)) (de_str) (nomark _)) (dw_and1 (dt_cmp (op_notInG (hu65 hr)) od_notIn (de_var 8) (de_lc (own := [("_law_person", 9), ("_law_letter", 10)]) rfl Sc.nd rfl (di_seq (de_var 4)) (fun _ _ _ _ _ => dgv_tup (n := 2) rfl (dgvs_cons (dgv_name Sc.nd) (dgvs_cons (dgv_name Sc.nd) (dgvs_nil))) (gsl (gsl gsl0))) (fun _ _ _ _ _ => dts_nil) (fun _ _ _ _ _ => de_var 9)) (by with_unfolding_all rfl)))))) (fun _ _ _ _ _ => de_var 8)) <|
  ds_cons (ds_if (PW.pt (dw_or (dt_cmp (op_eqDD hr.units) od_eq (de_var 5) (de_lst (da_nil)) (nomark _)) (dw_or1 (PW.pt (dw_and (dt_cmp (op_neDD hr.units) od_ne (de_var 4) (de_lst (da_nil)) (nomark _)) (dw_and1 (dt_cmp (op_eqDD hr.units) od_eq (de_call (k := 1) tk (hr.mono (by decide)) ((g_law_draw Z).g) (zg_law_draw Z) (zkp_law_draw Z) (da_cons (de_var 0) (da_cons (de_int) (da_nil)))) (de_int) (nomark _)))))))) (ds_one (ds_ret (de_if (dt_val (de_call (k := 13) tk (hr.mono (by decide)) ((g_law_same Z).g) (zg_law_same Z) (zkp_law_same Z) (da_cons (de_var 2) (da_cons (de_var 3) (da_cons (de_sl (de_var 4) (dp_none) (dp_some (de_neg (de_int)))) (da_cons (de_meth0 (k := 14) tk (hr.mono (by decide)) (zc_Supposing (P := P) (w := w) Z) (zm_Supposing_release (P := P) (w := w) Z) ((g_Supposing_release Z).g) (de_var 1)) (da_nil))))))) (de_sl (de_var 4) (dp_none) (dp_some (de_neg (de_int)))) (de_non)))) (ds_nil)) <|
  ds_cons (ds_set Sc.nd (de_tup (da_cons (de_ix (hu1 hr) (de_var 5) (de_call (k := 1) tk (hr.mono (by decide)) ((g_law_draw Z).g) (zg_law_draw Z) (zkp_law_draw Z) (da_cons (de_var 0) (da_cons (de_cb cr_lenD cd_len (zf_len Z) (da_cons (de_var 5) (da_nil))) (da_nil))))) (da_cons (de_ix (hu1 hr) (de_str) (de_call (k := 1) tk (hr.mono (by decide)) ((g_law_draw Z).g) (zg_law_draw Z) (zkp_law_draw Z) (da_cons (de_var 0) (da_cons (de_int) (da_nil))))) (da_nil))))) <|
  ds_cons (ds_set Sc.nd (de_callg hgu (k := 14) tk (hr.mono (by decide)) ((g_law_supposed Z)) (zg_law_supposed Z) (zkp_law_supposed Z) (da_cons (de_var 1) (da_cons (de_ix (hu1 hr) (de_var 6) (de_int)) (da_cons (de_ix (hu1 hr) (de_var 6) (de_int)) (da_nil)))))) <|
  ds_cons (ds_if (dt_cmp (op_eqDD hr.units) od_eq (de_var 7) (de_cb (cr_repr hgu (hu66 hr)) cd_repr (zf_repr Z) (da_cons (de_var 6) (da_nil))) (nomark _)) (ds_one (ds_ret (de_if (dt_val (de_call (k := 13) tk (hr.mono (by decide)) ((g_law_same Z).g) (zg_law_same Z) (zkp_law_same Z) (da_cons (de_var 2) (da_cons (de_var 3) (da_cons (de_add (de_var 4) (de_lst (da_cons (de_var 6) (da_nil)))) (da_cons (de_non) (da_nil))))))) (de_var 4) (de_non)))) (ds_nil)) <|
  ds_one (ds_ret (de_if (dt_val (de_call (k := 13) tk (hr.mono (by decide)) ((g_law_same Z).g) (zg_law_same Z) (zkp_law_same Z) (da_cons (de_var 2) (da_cons (de_var 3) (da_cons (de_add (de_var 4) (de_lst (da_cons (de_var 6) (da_nil)))) (da_cons (de_var 7) (da_nil))))))) (de_add (de_var 4) (de_lst (da_cons (de_var 6) (da_nil)))) (de_non)))
/-! Supposing.facts -/
theorem sc_Supposing_facts : FnScope ["self"] ["self"] (defScope (mtop 108 3)) := ⟨rfl, rfl, rfl, by decide +kernel, rfl, by decide +kernel, by decide +kernel⟩
noncomputable def S_Supposing_facts (C : CE) : DS :=
  sRet (eCB fList (aCons (eFld 4 "own_facts" (eVar 0)) (aNil)))
noncomputable def G_Supposing_facts (C : CE) : List D → Store → Res D := fun ds m => if ds.length = 1 then runB (S_Supposing_facts C) (startD 1 ds) m else .bad
theorem g_Supposing_facts (Z : KZ K mg) : GoodP P w K mg base 1 (He.ma K (He.ga K "Supposing") "facts") ["self"] (CL P w K) (G_Supposing_facts (CL P w K)) := by
  obtain ⟨fd, F⟩ := Z.fun_ 79 (d := d_Supposing_facts) rfl
  have F : FunD K "facts" "Supposing.facts" (defArgs (mtop 108 3)) (defBody (mtop 108 3)) (defScope (mtop 108 3)) [] [] (He.ma K (He.ga K "Supposing") "facts") fd := F
  have Sc := sc_Supposing_facts
  refine ⟨fd, fnD (k := 0) (S := S_Supposing_facts (CL P w K)) F Sc (fun _ _ => rfl) fun cdv A outer s H E hr W tk hp => ?_, F.bindsN fun _ _ _ _ _ _ us hl => match us, hl with | [_], _ => rfl⟩
  exact
    ds_one (ds_ret (de_ct (cr_listD rfl) cd_list (zf_list Z) (da_cons (de_fld (zc_Supposing (P := P) (w := w) Z) (zn_Supposing_own_facts (P := P) (w := w) Z) (de_var 0)) (da_nil))))
/-! law -/
theorem sc_law : FnScope ["_law_script", "_law_state", "_law_row", "_law_at", "_law_ring", "_law_held", "_law_facts", "_law_k", "_law_cell", "_law_step", "_law_turn"] ["_law_script"] (defScope (top 118)) := ⟨rfl, rfl, rfl, by decide +kernel, rfl, by decide +kernel, by decide +kernel⟩
noncomputable def S_law (C : CE) : DS :=
  sCons (sSet 1 (eNewL (aCons (eCall (GP_law_numbers C) (aCons (eBin dIx (eBin dAdd (eVar 0) (eLst (aCons (eC (.int 7)) (aNil)))) (eC (.int 0))) (aCons (eC (.int 8500)) (aCons (eBin dMul (eLst (aCons (eC (.int 420)) (aNil))) (eC (.int 20))) (aNil))))) (aCons (eC (.int 0)) (aNil))))) <|
  sCons (sSet 2 (eBin dAdd (eLc [10] (iRange1 (aCons (eBin dAdd (eC (.int 1)) (eCall (G_law_draw C) (aCons (eVar 1) (aCons (eC (.int 5)) (aNil))))) (aNil))) (gName 10) (dTrue) (eCall (G_law_sign C) (aCons (eVar 1) (aNil)))) (eLst (aCons (eC (.str "?")) (aCons (eC (.str "?")) (aNil)))))) <|
  sCons (sPar 3 4 (aCons (eCall (G_law_draw C) (aCons (eVar 1) (aCons (eCB fLen (aCons (eVar 2) (aNil))) (aNil)))) (aCons (eBin dEq (eCall (G_law_draw C) (aCons (eVar 1) (aCons (eC (.int 2)) (aNil)))) (eC (.int 0))) aNil))) <|
  sCons (sSet 2 (eBin dAdd (eSl (eVar 2) (pSome (eVar 3)) (pNone)) (eSl (eVar 2) (pNone) (pSome (eVar 3))))) <|
  sCons (sIf (eTest (eBin dIs (eCall (G_known C) (aCons (eCall (G_law_line C) (aCons (eVar 2) (aCons (eVar 4) (aNil)))) (aCons (eDic0) (aNil)))) (eC .non))) (sSet 2 (eLc [10] (iRange1 (aCons (eCB fLen (aCons (eVar 2) (aNil))) (aNil))) (gName 10) (dTrue) (eIf (eTest (eBin dEq (eBin dMod (eVar 10) (eC (.int 2))) (eC (.int 0)))) (eC (.str "?")) (eBin dIx (eVar 2) (eVar 10))))) (sNil)) <|
  sCons (sIf (eTest (eBin dIs (eCall (G_known C) (aCons (eCall (G_law_line C) (aCons (eVar 2) (aCons (eVar 4) (aNil)))) (aCons (eDic0) (aNil)))) (eC .non))) (sSet 2 (eBin dMul (eLst (aCons (eC (.str "?")) (aNil))) (eCB fLen (aCons (eVar 2) (aNil))))) (sNil)) <|
  sCons (sPar 5 6 (aCons (eCall (mkM 4 (G_Supposing_init C)) (aCons (eCall (G_law_line C) (aCons (eVar 2) (aCons (eVar 4) (aNil)))) (aNil))) (aCons (eLst (aNil)) aNil))) <|
  sCons (sFor (iEnu (aCons (eSl (eBin dAdd (eVar 0) (eLst (aCons (eC (.int 7)) (aCons (eC (.int 8)) (aNil))))) (pNone) (pSome (eC (.int 63)))) (aNil))) (gTupD (gsCons (gName 7) (gsCons (gName 8) (gsNil)))) (sCons (sSet 9 (eNewL (aCons (eCall (GP_law_numbers C) (aCons (eVar 8) (aCons (eBin dAdd (eC (.int 8510)) (eVar 7)) (aCons (eBin dMul (eLst (aCons (eC (.int 420)) (aNil))) (eC (.int 4))) (aNil))))) (aCons (eC (.int 0)) (aNil))))) <|
    sCons (sSet 6 (eCall (G_law_next C) (aCons (eVar 9) (aCons (eVar 5) (aCons (eVar 2) (aCons (eVar 4) (aCons (eVar 6) (aNil)))))))) <|
    sIf (eOr (eTest (eBin dIs (eVar 6) (eC .non))) (eTest (eBin dNe (eMeth 4 "facts" (G_Supposing_facts C) (eVar 5) aNil) (eVar 6)))) (sRet (eC (.bl false))) (sNil))) <|
  sRet (eC (.bl true))
noncomputable def G_law (C : CE) : List D → Store → Res D := fun ds m => if ds.length = 1 then runB (S_law C) (startD 11 ds) m else .bad
theorem g_law (Z : KZ K mg) : FnGg P w K mg base 16 (He.ga K "law") (CL P w K) (G_law (CL P w K)) := by
  obtain ⟨fd, F⟩ := Z.fun_ 80 (d := d_law) rfl
  have F : FunD K "law" "law" (defArgs (top 118)) (defBody (top 118)) (defScope (top 118)) [] [] (He.ga K "law") fd := F
  have Sc := sc_law
  have B : Binds K fd ["_law_script"] [] := F.bindsN fun _ _ _ _ _ _ us hl => match us, hl with | [_], _ => rfl
  refine fnDg (k := 15) (S := S_law (CL P w K)) F Sc B (fun _ _ => rfl) fun cdv A outer s H E hgu hr W tk hp => ?_
  exact
    ds_cons (ds_set Sc.nd (de_newL (da_cons (de_call (k := 1) tk (hr.mono (by decide)) ((g_law_numbers Z).g.pop) (zg_law_numbers Z) (zkp_law_numbers Z) (da_cons (de_ix (hu1 hr) (de_add (de_var 0) (de_lst (da_cons (de_int) (da_nil)))) (de_int)) (da_cons (de_int) (da_cons (de_mul (de_lst (da_cons (de_int) (da_nil))) (de_int)) (da_nil))))) (da_cons (de_int) (da_nil))))) <|
  ds_cons (ds_set Sc.nd (de_add (de_lc (own := [("_law_turn", 10)]) rfl Sc.nd rfl (di_range1 (da_cons (de_add (de_int) (de_call (k := 1) tk (hr.mono (by decide)) ((g_law_draw Z).g) (zg_law_draw Z) (zkp_law_draw Z) (da_cons (de_var 1) (da_cons (de_int) (da_nil))))) (da_nil)) (zf_range Z)) (fun _ _ _ _ _ => dgv_name Sc.nd) (fun _ _ _ _ _ => dts_nil) (fun _ _ _ _ _ => de_call (k := 2) takes0 (hr.mono (by decide)) ((g_law_sign Z).g) (zg_law_sign Z) (zkp_law_sign Z) (da_cons (de_var 1) (da_nil)))) (de_lst (da_cons (de_str) (da_cons (de_str) (da_nil)))))) <|
  ds_cons (ds_par rfl Sc.nd (da_cons (de_call (k := 1) tk (hr.mono (by decide)) ((g_law_draw Z).g) (zg_law_draw Z) (zkp_law_draw Z) (da_cons (de_var 1) (da_cons (de_cb cr_lenD cd_len (zf_len Z) (da_cons (de_var 2) (da_nil))) (da_nil)))) (da_cons (de_cmp (op_eqDD hr.units) od_eq (de_call (k := 1) tk (hr.mono (by decide)) ((g_law_draw Z).g) (zg_law_draw Z) (zkp_law_draw Z) (da_cons (de_var 1) (da_cons (de_int) (da_nil)))) (de_int) (nomark _)) da_nil))) <|
  ds_cons (ds_set Sc.nd (de_add (de_sl (de_var 2) (dp_some (de_var 3)) (dp_none)) (de_sl (de_var 2) (dp_none) (dp_some (de_var 3))))) <|
  ds_cons (ds_if (dt_cmp (op_isN) od_is (de_call (k := 12) tk (hr.mono (by decide)) ((g_known Z).g) (zg_known Z) (zkp_known Z) (da_cons (de_call (k := 12) tk (hr.mono (by decide)) ((g_law_line Z).g) (zg_law_line Z) (zkp_law_line Z) (da_cons (de_var 2) (da_cons (de_var 4) (da_nil)))) (da_cons (de_dic0) (da_nil)))) (de_non) (nomark _)) (ds_one (ds_set Sc.nd (de_lc (own := [("_law_turn", 10)]) rfl Sc.nd rfl (di_range1 (da_cons (de_cb cr_lenD cd_len (zf_len Z) (da_cons (de_var 2) (da_nil))) (da_nil)) (zf_range Z)) (fun _ _ _ _ _ => dgv_name Sc.nd) (fun _ _ _ _ _ => dts_nil) (fun _ _ _ _ _ => de_if (dt_cmp (op_eqDD hr.units) od_eq (de_mod (de_var 10) (de_int)) (de_int) (nomark _)) (de_str) (de_ix (hu1 hr) (de_var 2) (de_var 10)))))) (ds_nil)) <|
  ds_cons (ds_if (dt_cmp (op_isN) od_is (de_call (k := 12) tk (hr.mono (by decide)) ((g_known Z).g) (zg_known Z) (zkp_known Z) (da_cons (de_call (k := 12) tk (hr.mono (by decide)) ((g_law_line Z).g) (zg_law_line Z) (zkp_law_line Z) (da_cons (de_var 2) (da_cons (de_var 4) (da_nil)))) (da_cons (de_dic0) (da_nil)))) (de_non) (nomark _)) (ds_one (ds_set Sc.nd (de_mul (de_lst (da_cons (de_str) (da_nil))) (de_cb cr_lenD cd_len (zf_len Z) (da_cons (de_var 2) (da_nil)))))) (ds_nil)) <|
  ds_cons (ds_par rfl Sc.nd (da_cons (de_makeM (k := 12) tk (hr.mono (by decide)) (zk_Supposing (P := P) (w := w) Z) ((g_Supposing_init Z).g) (zg_Supposing (P := P) (w := w) Z) (da_cons (de_call (k := 12) tk (hr.mono (by decide)) ((g_law_line Z).g) (zg_law_line Z) (zkp_law_line Z) (da_cons (de_var 2) (da_cons (de_var 4) (da_nil)))) (da_nil))) (da_cons (de_lst (da_nil)) da_nil))) <|
  ds_cons (ds_for hp rfl (di_enum (da_cons (de_sl (de_add (de_var 0) (de_lst (da_cons (de_int) (da_cons (de_int) (da_nil))))) (dp_none) (dp_some (de_int))) (da_nil)) (zf_enumerate Z)) (dg_of (vs := [7, 8]) (dgv_tup (n := 2) rfl (dgvs_cons (dgv_name Sc.nd) (dgvs_cons (dgv_name Sc.nd) (dgvs_nil))) (gsl (gsl gsl0)))) (ds_cons (ds_set Sc.nd (de_newL (da_cons (de_call (k := 1) tk (hr.mono (by decide)) ((g_law_numbers Z).g.pop) (zg_law_numbers Z) (zkp_law_numbers Z) (da_cons (de_var 8) (da_cons (de_add (de_int) (de_var 7)) (da_cons (de_mul (de_lst (da_cons (de_int) (da_nil))) (de_int)) (da_nil))))) (da_cons (de_int) (da_nil))))) <|
    ds_cons (ds_set Sc.nd (de_callg hgu (k := 15) tk (hr.mono (by decide)) ((g_law_next Z)) (zg_law_next Z) (zkp_law_next Z) (da_cons (de_var 9) (da_cons (de_var 5) (da_cons (de_var 2) (da_cons (de_var 4) (da_cons (de_var 6) (da_nil)))))))) <|
    ds_one (ds_if (PW.pt (dw_or (dt_cmp (op_isN) od_is (de_var 6) (de_non) (nomark _)) (dw_or1 (dt_cmp (op_neDD hr.units) od_ne (de_meth0 (k := 1) tk (hr.mono (by decide)) (zc_Supposing (P := P) (w := w) Z) (zm_Supposing_facts (P := P) (w := w) Z) ((g_Supposing_facts Z).g) (de_var 5)) (de_var 6) (nomark _))))) (ds_one (ds_ret (de_bl))) (ds_nil)))) <|
  ds_one (ds_ret (de_bl))
end
end DL
/-! DM0: what the readings come to: rules for simp. -/
namespace DL
open PySem PySem.Spec PyProof.Rows L2
@[simp] theorem gsNil_ap (ds : List D) (r : DEnv) : gsNil ds r = match ds with | [] => some r | _ => none := (rfl)
@[simp] theorem gsCons_ap (g : DG) (gs : DGs) (ds : List D) (r : DEnv) : gsCons g gs ds r = match ds with | d :: ds => (match g d r with | some r => gs ds r | none => none) | [] => none := (rfl)
@[simp] theorem gTupD_ap (gs : DGs) (d : D) (r : DEnv) : gTupD gs d r = match d with | .tup ds => gs ds r | _ => none := (rfl)
@[simp] theorem sAsg_ap (g : DG) (f : DE) (r : DEnv) (m : Store) : sAsg g f r m = thenS (f r m) r fun d m => match g d r with | some r' => .nx r' m | none => .bad := (rfl)
@[simp] theorem sPar_ap (i j : Nat) (g : DA) (r : DEnv) (m : Store) : sPar i j g r m = thenA (g r m) r fun ds m => match ds with | [a, b] => .nx ((r.set i (some a)).set j (some b)) m | _ => .bad := (rfl)
@[simp] theorem dTrue_ap (r : DEnv) (m : Store) : dTrue r m = .ok true m := (rfl)
@[simp] theorem eLc_ap (vs : List Nat) (fi : DA) (g : DG) (ft : DT) (fe : DE) (r : DEnv) (m : Store) : eLc vs fi g ft fe r m = (fi r m).bind fun xs m => (compN g ft fe (wipeD r vs) xs [] m).bind fun ys m => .ok (.lst ys) m := (rfl)
@[simp] theorem eChain_ap (o o' : D → D → Option D) (fa fb fc : DE) (r : DEnv) (m : Store) : eChain o o' fa fb fc r m = (fa r m).bind fun a m => (fb r m).bind fun b m => match o (vw m a) (vw m b) with
  | some (.bl true) => (fc r m).bind fun d m => ofO m (o' (vw m b) (vw m d))
  | some (.bl false) => .ok (.bl false) m
  | _ => .bad := (rfl)
@[simp] theorem eNewD_ap (r : DEnv) (m : Store) : eNewD r m = .ok (.loc m.length) (m ++ [some (.dic [])]) := (rfl)
@[simp] theorem eDic0_ap (r : DEnv) (m : Store) : eDic0 r m = .ok (.dic []) m := (rfl)
@[simp] theorem eNewL_ap (g : DA) (r : DEnv) (m : Store) : eNewL g r m = (g r m).bind fun xs m => if xs.length ≤ sizeLine then .ok (.loc m.length) (m ++ [some (.lst xs)]) else .bad := (rfl)
@[simp] theorem eListC_ap (g : DA) (r : DEnv) (m : Store) : eListC g r m = (g r m).bind fun ds m => match fList (ds.map (vw m)) with | some d => .ok (.loc m.length) (m ++ [some d]) | none => .bad := (rfl)
@[simp] theorem thawS_ap (i : Nat) (f : DS) (r : DEnv) (m : Store) : thawS i f r m = match r[i]? with
  | some (some (.loc n)) => (match m[n]? with | some (some d) => f (r.set i (some d)) (m.set n none) | _ => .bad)
  | _ => .bad := (rfl)
@[simp] theorem eThaw_ap (f : DE) (r : DEnv) (m : Store) : eThaw f r m = (f r m).bind fun d m => match d with | .loc n => (match m[n]? with | some (some d) => .ok d (m.set n none) | _ => .bad) | d => .ok d m := (rfl)
@[simp] theorem sPut_ap (fo fi fv : DE) (r : DEnv) (m : Store) : sPut fo fi fv r m = thenS (fv r m) r fun d m => thenS (fo r m) r fun o m => thenS (fi r m) r fun i m => match putD o (vw m i) d m with | some m => .nx r m | none => .bad := (rfl)
@[simp] theorem sFldSet_ap (j : Nat) (f : Str) (fo fv : DE) (r : DEnv) (m : Store) : sFldSet j f fo fv r m = thenS (fv r m) r fun d m => thenS (fo r m) r fun o m => match o with
  | .loc n => (match m[n]? with
    | some (some (.obj k fs)) => if k = j ∧ fs.length < 1000 then .nx r (m.set n (some (.obj j (putFD f d fs)))) else .bad
    | _ => .bad)
  | _ => .bad := (rfl)
@[simp] theorem eSetd_ap (fo fk fv : DE) (r : DEnv) (m : Store) : eSetd fo fk fv r m = (fo r m).bind fun o m => match dicAt m o with
  | none => .bad
  | some _ => (fk r m).bind fun k m => (fv r m).bind fun d m => match dicAt m o, keyD (vw m k) with
    | some (n, kvs), some key => if kvs.length < sizeLine then (match valD kvs key with | some x => .ok x m | none => .ok d (m.set n (some (.dic (putKD kvs key d))))) else .bad
    | _, _ => .bad := (rfl)
@[simp] theorem eIsi_ap (bs : List String) (ks : List Nat) (ans : String → Bool) (ansO : Nat → Bool) (fe : DE) (r : DEnv) (m : Store) : eIsi bs ks ans ansO fe r m = (fe r m).bind fun d m => match isiD bs ks ans ansO (vw m d) with | some b => .ok (.bl b) m | none => .bad := (rfl)
@[simp] theorem eM1_ap (fn : D → D → Option D) (fo fe : DE) (r : DEnv) (m : Store) : eM1 fn fo fe r m = (fo r m).bind fun o m => if isStrD o = true then (fe r m).bind fun d m => ofO m (fn o (vw m d)) else .bad := (rfl)
@[simp] theorem eCm_ap (Cl : Addr) (G : List D → Store → Res D) (ga : DA) (r : DEnv) (m : Store) : eCm Cl G ga r m = (ga r m).bind fun ds m => G (.adr Cl :: ds) m := (rfl)
@[simp] theorem eCmK_ap (Cl : Addr) (n m : Nat) (G : List D → List D → Store → Res D) (ga gk : DA) (r : DEnv) (s : Store) : eCmK Cl n m G ga gk r s = (ga r s).bind fun ds s => (gk r s).bind fun es s => if ds.length = n ∧ es.length = m then G (.adr Cl :: ds) es s else .bad := (rfl)
@[simp] theorem eMakeK_ap (j n m : Nat) (G : List D → List D → Store → Res D) (ga gk : DA) (r : DEnv) (s : Store) : eMakeK j n m G ga gk r s = (ga r s).bind fun ds s => (gk r s).bind fun es s => if ds.length = n ∧ es.length = m then mkD j (flatK (n + 1) G) (ds ++ es) s else .bad := (rfl)
@[simp] theorem eAtCls_ap (i : Nat) (Cl : Addr) (f : DE) (r : DEnv) (m : Store) : eAtCls i Cl f r m = if isAdr Cl r[i]? = true then f r m else .bad := (rfl)
@[simp] theorem aStar_ap (f : DE) (g : DA) (r : DEnv) (m : Store) : aStar f g r m = (f r m).bind fun d m => match d with
  | .lst xs => (g r m).bind fun ys m => .ok (xs ++ ys) m
  | .tup xs => (g r m).bind fun ys m => .ok (xs ++ ys) m
  | _ => .bad := (rfl)
@[simp] theorem sRaise_ap (j : Nat) (f : DE) (r : DEnv) (m : Store) : sRaise j f r m = thenS (f r m) r fun d m => .ex j [("value", d)] r m := (rfl)
@[simp] theorem eCBK_ap (fn : List D → List D → Option D) (g gk : DA) (r : DEnv) (m : Store) : eCBK fn g gk r m = (g r m).bind fun ds m => (gk r m).bind fun es m => ofO m (fn (ds.map (vw m)) (es.map (vw m))) := (rfl)
@[simp] theorem eDc_ap (vs : List Nat) (fi : DA) (g : DG) (ft : DT) (fk fv : DE) (r : DEnv) (m : Store) : eDc vs fi g ft fk fv r m = (fi r m).bind fun xs m => (compDN g ft fk fv (wipeD r vs) xs [] m).bind fun ys m => .ok (.dic ys) m := (rfl)
@[simp] theorem eSc2_ap (vs vs1 : List Nat) (fi : DA) (g : DG) (ft : DT) (fi1 : DA) (g1 : DG) (ft1 : DT) (fe : DE) (r : DEnv) (m : Store) : eSc2 vs vs1 fi g ft fi1 g1 ft1 fe r m = (fi r m).bind fun xs m => (outS2 vs1 g ft fi1 g1 ft1 fe (wipeD r vs) xs [] m).bind fun ks m => .ok (.set ks) m := (rfl)
@[simp] theorem eVar_ap (i : Nat) (r : DEnv) (m : Store) : eVar i r m = match r[i]? with | some (some d) => .ok d m | _ => .bad := (rfl)
@[simp] theorem eC_ap (d : D) (r : DEnv) (m : Store) : eC d r m = .ok d m := (rfl)
@[simp] theorem eBin_ap (op : D → D → Option D) (fa fb : DE) (r : DEnv) (m : Store) : eBin op fa fb r m = (fa r m).bind fun a m => (fb r m).bind fun b m => ofO m (op (vw m a) (vw m b)) := (rfl)
@[simp] theorem eTest_ap (f : DE) (r : DEnv) (m : Store) : eTest f r m = (f r m).bind fun a m => ofO m (blOf a) := (rfl)
@[simp] theorem eAnd_ap (fa fb : DT) (r : DEnv) (m : Store) : eAnd fa fb r m = (fa r m).bind fun a m => if a = true then fb r m else .ok false m := (rfl)
@[simp] theorem eOr_ap (fa fb : DT) (r : DEnv) (m : Store) : eOr fa fb r m = (fa r m).bind fun a m => if a = true then .ok true m else fb r m := (rfl)
@[simp] theorem eNot_ap (fa : DT) (r : DEnv) (m : Store) : eNot fa r m = (fa r m).bind fun a m => .ok (!a) m := (rfl)
@[simp] theorem eAndV_ap (fa fb : DE) (r : DEnv) (m : Store) : eAndV fa fb r m = (fa r m).bind fun a m => match blOf a with | some true => fb r m | some false => .ok (.bl false) m | none => .bad := (rfl)
@[simp] theorem eOrV_ap (fa fb : DE) (r : DEnv) (m : Store) : eOrV fa fb r m = (fa r m).bind fun a m => match blOf a with | some true => .ok (.bl true) m | some false => fb r m | none => .bad := (rfl)
@[simp] theorem eNotV_ap (fa : DE) (r : DEnv) (m : Store) : eNotV fa r m = (fa r m).bind fun a m => match blOf a with | some b => .ok (.bl (!b)) m | none => .bad := (rfl)
@[simp] theorem eIf_ap (t : DT) (fa fb : DE) (r : DEnv) (m : Store) : eIf t fa fb r m = (t r m).bind fun a m => if a = true then fa r m else fb r m := (rfl)
@[simp] theorem aNil_ap (r : DEnv) (m : Store) : aNil r m = .ok [] m := (rfl)
@[simp] theorem aCons_ap (f : DE) (g : DA) (r : DEnv) (m : Store) : aCons f g r m = (f r m).bind fun a m => (g r m).bind fun as m => .ok (a :: as) m := (rfl)
@[simp] theorem eLst_ap (g : DA) (r : DEnv) (m : Store) : eLst g r m = (g r m).bind fun xs m => ofO m (mkLst xs) := (rfl)
@[simp] theorem eTup_ap (g : DA) (r : DEnv) (m : Store) : eTup g r m = (g r m).bind fun xs m => ofO m (mkTup xs) := (rfl)
@[simp] theorem eNever_ap (r : DEnv) (m : Store) : eNever r m = .bad := (rfl)
@[simp] theorem tNever_ap (r : DEnv) (m : Store) : tNever r m = .bad := (rfl)
@[simp] theorem aNever_ap (r : DEnv) (m : Store) : aNever r m = .bad := (rfl)
@[simp] theorem eTix_ap (ys : List Str) (fe : DE) (r : DEnv) (m : Store) : eTix ys fe r m = (fe r m).bind fun d m => match d with
  | .str z => if z ∈ ys then .ok (.int (ys.idxOf z : Nat)) m else .bad
  | _ => .bad := (rfl)
@[simp] theorem eIxo_ap (j : Nat) (G : List D → Store → Res D) (fa fb : DE) (r : DEnv) (m : Store) : eIxo j G fa fb r m = (fa r m).bind fun d m => (fb r m).bind fun i m => match objD j d m with
  | some _ => noEx (G [d, i] m)
  | none => .bad := (rfl)
@[simp] theorem sNil_ap (r : DEnv) (m : Store) : sNil r m = .nx r m := (rfl)
@[simp] theorem sCons_ap (f g : DS) (r : DEnv) (m : Store) : sCons f g r m = thenN (f r m) g := (rfl)
@[simp] theorem sIf_ap (t : DT) (a b : DS) (r : DEnv) (m : Store) : sIf t a b r m = thenT (t r m) r fun d m => if d = true then a r m else b r m := (rfl)
@[simp] theorem sSet_ap (i : Nat) (f : DE) (r : DEnv) (m : Store) : sSet i f r m = thenS (f r m) r fun d m => .nx (r.set i (some d)) m := (rfl)
@[simp] theorem sRet_ap (f : DE) (r : DEnv) (m : Store) : sRet f r m = thenS (f r m) r fun d m => .rt d m := (rfl)
@[simp] theorem sRetN_ap (r : DEnv) (m : Store) : sRetN r m = .rt .non m := (rfl)
@[simp] theorem sExpr_ap (f : DE) (r : DEnv) (m : Store) : sExpr f r m = thenS (f r m) r fun _ m => .nx r m := (rfl)
@[simp] theorem sBk_ap (r : DEnv) (m : Store) : sBk r m = .bk r m := (rfl)
@[simp] theorem sCt_ap (r : DEnv) (m : Store) : sCt r m = .ct r m := (rfl)
@[simp] theorem sNever_ap (r : DEnv) (m : Store) : sNever r m = .bad := (rfl)
theorem sWhile_ap (t : DT) (b : DS) (r : DEnv) (m : Store) : sWhile t b r m = whileN t b fuel r m := rfl
@[simp] theorem sFor_ap (it : DA) (g : DG) (b : DS) (r : DEnv) (m : Store) : sFor it g b r m = thenA (it r m) r fun xs m => forN g b xs r m := (rfl)
@[simp] theorem gName_ap (i : Nat) (d : D) (r : DEnv) : gName i d r = some (r.set i (some d)) := (rfl)
@[simp] theorem eCall_ap (G : List D → Store → Res D) (g : DA) (r : DEnv) (m : Store) : eCall G g r m = (g r m).bind G := (rfl)
@[simp] theorem eCallK_ap (n m : Nat) (G : List D → List D → Store → Res D) (g gk : DA) (r : DEnv) (s : Store) : eCallK n m G g gk r s = (g r s).bind fun ds s => (gk r s).bind fun es s => if ds.length = n ∧ es.length = m then G ds es s else .bad := (rfl)
@[simp] theorem eFld_ap (j : Nat) (f : Str) (fe : DE) (r : DEnv) (m : Store) : eFld j f fe r m = (fe r m).bind fun d m => ofO m (fldD j f d m) := (rfl)
@[simp] theorem eMeth_ap (j : Nat) (nm : Str) (G : List D → Store → Res D) (fo : DE) (g : DA) (r : DEnv) (m : Store) : eMeth j nm G fo g r m = (fo r m).bind fun d m => match objD j d m with
  | some fs => if fs.lookup nm = none then (g r m).bind fun ds m => G (d :: ds) m else .bad
  | none => .bad := (rfl)
@[simp] theorem eMake_ap (j : Nat) (G : List D → Store → Res D) (g : DA) (r : DEnv) (m : Store) : eMake j G g r m = (g r m).bind (mkD j G) := (rfl)
@[simp] theorem eProp_ap (j : Nat) (G : List D → Store → Res D) (fo : DE) (r : DEnv) (m : Store) : eProp j G fo r m = (fo r m).bind fun d m => match objD j d m with
  | some _ => (G [d] m).bind fun a m => .ok a m
  | none => .bad := (rfl)
@[simp] theorem ePropP_ap (j : Nat) (G : List D → Store → Res D) (fo : DE) (r : DEnv) (m : Store) : eProp' j G fo r m = (fo r m).bind fun d m => match objD j d m with
  | some _ => noEx (G [d] m)
  | none => .bad := (rfl)
@[simp] theorem eNeg_ap (fa : DE) (r : DEnv) (m : Store) : eNeg fa r m = (fa r m).bind fun a m => match vw m a with | .int i => .ok (.int (-i)) m | _ => .bad := (rfl)
@[simp] theorem eIno_ap (neg : Bool) (j : Nat) (G : List D → Store → Res D) (fa fb : DE) (r : DEnv) (m : Store) : eIno neg j G fa fb r m = (fa r m).bind fun x m => (fb r m).bind fun d m => match objD j d m with
  | some _ => (noEx (G [d, x] m)).bind fun b m => match b with | .bl b => .ok (.bl (if neg then !b else b)) m | _ => .bad
  | none => .bad := (rfl)
@[simp] theorem pNone_ap (r : DEnv) (m : Store) : pNone r m = .ok none m := (rfl)
@[simp] theorem pSome_ap (f : DE) (r : DEnv) (m : Store) : pSome f r m = (f r m).bind fun d m => match d with | .int i => .ok (some i) m | _ => .bad := (rfl)
@[simp] theorem eSl_ap (fa : DE) (pl ph : DPt) (r : DEnv) (m : Store) : eSl fa pl ph r m = (fa r m).bind fun d m => (pl r m).bind fun lo m => (ph r m).bind fun hi m => ofO m (dSl lo hi (vw m d)) := (rfl)
@[simp] theorem eRev_ap (fa : DE) (r : DEnv) (m : Store) : eRev fa r m = (fa r m).bind fun d m => match vw m d with | .lst xs => .ok (.lst xs.reverse) m | _ => .bad := (rfl)
@[simp] theorem eOnL_ap (k : D → D → Store → Res D) (fo fe : DE) (r : DEnv) (m : Store) : eOnL k fo fe r m = (fo r m).bind fun d m => match lstAt m d with
  | some _ => (fe r m).bind fun y m => k d y m
  | none => .bad := (rfl)
@[simp] theorem ePop_ap (fo : DE) (r : DEnv) (m : Store) : ePop fo r m = (fo r m).bind fun d m => match lstAt m d with
  | some (n, xs) => match xs[xs.length - 1]? with
    | some y => .ok y (m.set n (some (.lst xs.dropLast)))
    | none => .bad
  | none => .bad := (rfl)
@[simp] theorem eCB_ap (fn : List D → Option D) (g : DA) (r : DEnv) (m : Store) : eCB fn g r m = (g r m).bind fun ds m => ofO m (fn (ds.map (vw m))) := (rfl)
@[simp] theorem iSeq_ap (f : DE) (r : DEnv) (m : Store) : iSeq f r m = (f r m).bind fun d m => ofO m (itemsD d) := (rfl)
@[simp] theorem iItm_ap (fe : DE) (r : DEnv) (m : Store) : iItm fe r m = (fe r m).bind fun d m => match d with | .dic kvs => .ok (kvs.map pairD) m | _ => .bad := (rfl)
@[simp] theorem iVal_ap (fe : DE) (r : DEnv) (m : Store) : iVal fe r m = (fe r m).bind fun d m => match d with | .dic kvs => .ok (kvs.map (·.2)) m | _ => .bad := (rfl)
@[simp] theorem iRange1_ap (g : DA) (r : DEnv) (m : Store) : iRange1 g r m = (g r m).bind fun ds m => match ds with
  | [.int j] => if rngB j = true then .ok (stepsI 0 1 j.toNat) m else .bad
  | _ => .bad := (rfl)
@[simp] theorem iRange2_ap (g : DA) (r : DEnv) (m : Store) : iRange2 g r m = (g r m).bind fun ds m => match ds with
  | [.int i, .int j] => if rngB i = true ∧ rngB j = true then .ok (stepsI i 1 (j - i).toNat) m else .bad
  | _ => .bad := (rfl)
@[simp] theorem iRange3_ap (g : DA) (r : DEnv) (m : Store) : iRange3 g r m = (g r m).bind fun ds m => match ds with
  | [.int i, .int j, .int k] => if rngB i = true ∧ rngB j = true ∧ k = -1 then .ok (stepsI i (-1) (i - j).toNat) m else .bad
  | _ => .bad := (rfl)
@[simp] theorem iEnu_ap (g : DA) (r : DEnv) (m : Store) : iEnu g r m = (g r m).bind fun ds m => match ds with
  | [.lst xs] => .ok (xs.zipIdx.map fun p => .tup [.int (p.2 : Nat), p.1]) m
  | _ => .bad := (rfl)
@[simp] theorem iZp_ap (g : DA) (r : DEnv) (m : Store) : iZp g r m = (g r m).bind fun ds m => match ds with
  | [.lst xs, .lst ys] => .ok ((xs.zip ys).map fun p => .tup [p.1, p.2]) m
  | _ => .bad := (rfl)
section
variable (i j : Int) (a b : Str) (xs ys : List D) (m : Store)
@[simp] theorem dAdd_int : dAdd (.int i) (.int j) = some (.int (i + j)) := (rfl)
@[simp] theorem dAdd_tup : dAdd (.tup xs) (.tup ys) = if xs.length + ys.length ≤ sizeLine then some (.tup (xs ++ ys)) else none := (rfl)
@[simp] theorem dAdd_lst : dAdd (.lst xs) (.lst ys) = if xs.length + ys.length ≤ sizeLine then some (.lst (xs ++ ys)) else none := (rfl)
@[simp] theorem dAdd_str : dAdd (.str a) (.str b) = if a.length + b.length ≤ sizeLine then some (.str (a ++ b)) else none := (rfl)
@[simp] theorem dSub_int : dSub (.int i) (.int j) = some (.int (i - j)) := (rfl)
@[simp] theorem dCmp_int (p : Int → Int → Bool) : dCmp p (.int i) (.int j) = some (.bl (p i j)) := (rfl)
@[simp] theorem blOf_bl (b : Bool) : blOf (.bl b) = some b := (rfl)
@[simp] theorem dEq_str : dEq (.str a) (.str b) = some (.bl (decide (a = b))) := by simp [dEq, noneD, eqDat, flatD, scal]
@[simp] theorem dNe_str : dNe (.str a) (.str b) = some (.bl (!decide (a = b))) := by simp [dNe, noneD, eqDat, flatD, scal]
@[simp] theorem dEq_int : dEq (.int i) (.int j) = some (.bl (decide (i = j))) := by simp [dEq, noneD, eqDat, flatD, scal]
@[simp] theorem dNe_int : dNe (.int i) (.int j) = some (.bl (!decide (i = j))) := by simp [dNe, noneD, eqDat, flatD, scal]
@[simp] theorem dEq_bl (x y : Bool) : dEq (.bl x) (.bl y) = some (.bl (decide (x = y))) := by simp [dEq, noneD, eqDat, flatD, scal]
@[simp] theorem fLen_lst : fLen [.lst xs] = some (.int xs.length) := (rfl)
@[simp] theorem fLen_tup : fLen [.tup xs] = some (.int xs.length) := (rfl)
@[simp] theorem fLen_dic (kvs : List (Key × D)) : fLen [.dic kvs] = some (.int kvs.length) := (rfl)
@[simp] theorem fLen_str : fLen [.str a] = if a.length ≤ sizeLine then some (.int a.length) else none := (rfl)
@[simp] theorem dSl_str (lo hi : Option Int) : dSl lo hi (.str a) = if a.length ≤ sizeLine then some (.str (cutS a lo hi)) else none := (rfl)
@[simp] theorem dSl_lst (lo hi : Option Int) : dSl lo hi (.lst xs) = some (.lst (cutD xs lo hi)) := (rfl)
@[simp] theorem dSl_tup (lo hi : Option Int) : dSl lo hi (.tup xs) = some (.tup (cutD xs lo hi)) := (rfl)
@[simp] theorem dLstrip_str : dLstrip (.str a) (.str b) = if a.length ≤ sizeLine then some (.str (Txt.lstripChars a b)) else none := (rfl)
@[simp] theorem isStrD_str : isStrD (.str a) = true := (rfl)
@[simp] theorem dIx_lst : dIx (.lst xs) (.int i) = atI xs i := (rfl)
@[simp] theorem dIx_tup : dIx (.tup xs) (.int i) = atI xs i := (rfl)
@[simp] theorem dIx_str : dIx (.str a) (.int i) = if a.length ≤ sizeLine then (atI a.cps.toList i).map fun c => .str ⟨#[c]⟩ else none := (rfl)
@[simp] theorem runB_eq (f : DS) (r : DEnv) : runB f r m = (match f r m with | .nx _ m => .ok .non m | .rt d m => .ok d m | .ex k fs _ m => .ex k fs m | _ => .bad) := (rfl)
@[simp] theorem objD_obj (k c : Nat) (fs : List (Str × D)) : objD c (.obj k fs) m = if k = c then some fs else none := (rfl)
@[simp] theorem fldD_obj (k c : Nat) (f : Str) (fs : List (Str × D)) : fldD c f (.obj k fs) m = if k = c then fs.lookup f else none := (rfl)
@[simp] theorem mkLst_of : mkLst xs = if xs.length ≤ sizeLine then some (.lst xs) else none := (rfl)
@[simp] theorem mkTup_of : mkTup xs = if xs.length ≤ sizeLine then some (.tup xs) else none := (rfl)
@[simp] theorem noEx_ok (d : D) : noEx (.ok d m) = .ok d m := (rfl)
@[simp] theorem itemsD_lst : itemsD (.lst xs) = some xs := (rfl)
@[simp] theorem itemsD_tup : itemsD (.tup xs) = some xs := (rfl)
@[simp] theorem itemsD_dic (kvs : List (Key × D)) : itemsD (.dic kvs) = some (kvs.map fun kv => kD kv.1) := (rfl)
@[simp] theorem dIs_non : dIs .non .non = some (.bl true) := (rfl)
@[simp] theorem dIs_str : dIs (.str a) .non = some (.bl false) := (rfl)
@[simp] theorem dIs_lst : dIs (.lst xs) .non = some (.bl false) := (rfl)
@[simp] theorem dIs_tup : dIs (.tup xs) .non = some (.bl false) := (rfl)
theorem lstAt_loc {n : Nat} {zs : List D} (h : m[n]? = some (some (.lst zs))) : lstAt m (.loc n) = some (n, zs) := by simp [lstAt, h]
@[simp] theorem frz_loc {n : Nat} {d : D} (h : m[n]? = some (some d)) : frz n m = .ok d (m.set n none) := by simp [frz, h]
end
@[simp] theorem startD_cons (n : Nat) (d : D) (ds : List D) : startD (n + 1) (d :: ds) = some d :: startD n ds := by simp [startD]
@[simp] theorem startD_nil (n : Nat) : startD n [] = List.replicate n none := by simp [startD]
/-! ### loops -/
theorem forN_nil (g : DG) (b : DS) (r : DEnv) (m : Store) : forN g b [] r m = .nx r m := rfl
theorem forN_nx {g : DG} {b : DS} {x : D} {xs : List D} {r r1 r2 : DEnv} {m m2 : Store} (hg : g x r = some r1) (hb : b r1 m = .nx r2 m2) : forN g b (x :: xs) r m = forN g b xs r2 m2 := by simp [forN, hg, hb]
theorem whileN_go {t : DT} {b : DS} {n : Nat} {r r2 : DEnv} {m m1 m2 : Store} (ht : t r m = .ok true m1) (hb : b r m1 = .nx r2 m2) : whileN t b (n + 1) r m = whileN t b n r2 m2 := by simp [whileN, ht, hb]
theorem whileN_stop {t : DT} {b : DS} {n : Nat} {r : DEnv} {m m1 : Store} (ht : t r m = .ok false m1) : whileN t b (n + 1) r m = .nx r m1 := by simp [whileN, ht]
/-- a block over a mapped list: what is let through, what it becomes -/
theorem compN_of {Y : Type} {g : DG} {ft : DT} {fe : DE} {r : DEnv} {m : Store} (e f : Y → D) (p : Y → Bool) : ∀ (ys : List Y) (acc : List D), acc.length + ys.length ≤ sizeLine → (∀ y ∈ ys, ∃ r', g (e y) r = some r' ∧ ft r' m = .ok (p y) m ∧ (p y = true → fe r' m = .ok (f y) m)) →
    compN g ft fe r (ys.map e) acc m = .ok (acc ++ (ys.filter p).map f) m
  | [], acc, _, _ => by simp [compN]
  | y :: ys, acc, hl, h => by
    obtain ⟨r', h1, h2, h3⟩ := h y (List.mem_cons_self ..)
    have hl2 : acc.length + (ys.length + 1) ≤ sizeLine := by simpa using hl
    have ih := fun acc hl => compN_of (g := g) (ft := ft) (fe := fe) (r := r) (m := m) e f p ys acc hl fun z hz => h z (List.mem_cons_of_mem _ hz)
    cases hp : p y with
    | false => simp [compN, h1, h2, hp, ih acc (by omega)]
    | true => simp [compN, h1, h2, h3 hp, hp, show acc.length < sizeLine by omega, ih (acc ++ [f y]) (by simp; omega)]
theorem compN_map {Y : Type} {g : DG} {fe : DE} {r : DEnv} {m : Store} (e f : Y → D) (ys : List Y) (hl : ys.length ≤ sizeLine) (h : ∀ y ∈ ys, ∃ r', g (e y) r = some r' ∧ fe r' m = .ok (f y) m) : compN g dTrue fe r (ys.map e) [] m = .ok (ys.map f) m := by
  have := compN_of (g := g) (ft := dTrue) (fe := fe) (r := r) (m := m) e f (fun _ => true) ys [] (by simpa using hl) fun y hy => by
    obtain ⟨r', h1, h2⟩ := h y hy
    exact ⟨r', h1, rfl, fun _ => h2⟩
  have e2 : ys.filter (fun _ => true) = ys := List.filter_eq_self.mpr fun _ _ => rfl
  rw [this, e2]; rfl
theorem map_const_rep {Y : Type} (d : D) (ys : List Y) : ys.map (fun _ => d) = List.replicate ys.length d := by
  induction ys with
  | nil => rfl
  | cons y ys ih => rw [List.map_cons, ih, List.length_cons, List.replicate_succ]
@[simp] theorem size_val : sizeLine = 16777216 := (rfl)
@[simp] theorem scan_val : scanBound = 4096 := (rfl)
theorem set_same {m : Store} {n : Nat} {d : Option D} (h : m[n]? = some d) : m.set n d = m := by
  apply List.ext_getElem?
  intro i
  rw [List.getElem?_set]
  split
  · rename_i e; subst e
    split
    · exact h.symm
    · rename_i h2
      rw [List.getElem?_eq_none (by omega)] at h; cases h
  · rfl
theorem set_at {m : Store} {n : Nat} {d e : Option D} (h : m[n]? = some d) : (m.set n e)[n]? = some e := by
  obtain ⟨h1, _⟩ := List.getElem?_eq_some_iff.mp h
  rw [List.getElem?_set]; simp [h1]
@[simp] theorem vw_locE (m : Store) (n : Nat) : vw m (.loc n) = (match m[n]? with | some (some d) => d | _ => .loc n) := (rfl)
theorem isi_dict (kvs : List (Key × D)) : isiD ["dict"] [] (fun _ => true) (fun _ => false) (.dic kvs) = some true := rfl
theorem isi_str (z : Str) : isiD ["str"] [] (fun _ => true) (fun _ => false) (.str z) = some true := rfl
theorem isi_int (i : Int) : isiD ["int"] [] (fun _ => true) (fun _ => false) (.int i) = some true := rfl
theorem isi_nbl (i : Int) : isiD ["int"] [] (fun _ => false) (fun _ => false) (.int i) = some false := rfl
end DL
namespace DL
open PySem PySem.Spec PyProof.Rows L2
abbrev T (l : List Nat) : Str := ⟨l.toArray⟩
@[simp] theorem T_len (l : List Nat) : (T l).length = l.length := by simp [T, Str.length]
theorem lstrip_T (a : List Nat) (y : Str) : Txt.lstripChars (T a) y = T (a.dropWhile y.cps.contains) := by
  unfold Txt.lstripChars Txt.stripBy stripSame
  have e0 : stripLo y.cps.contains true (T a) = (a.takeWhile y.cps.contains).length := by
    unfold stripLo; rw [if_pos rfl]
  have e3 : ∀ n, stripHi y.cps.contains false (T a) n = (T a).length := fun n => by
    unfold stripHi; rw [if_neg (by simp)]
  rw [e0, e3]
  have hd : a.dropWhile y.cps.contains = a.drop (a.takeWhile y.cps.contains).length := by
    clear e0 e3
    induction a with
    | nil => rfl
    | cons x a ih =>
      by_cases hx : y.cps.contains x = true
      · rw [List.dropWhile_cons_of_pos hx, List.takeWhile_cons_of_pos hx]; simpa using ih
      · rw [List.dropWhile_cons_of_neg hx, List.takeWhile_cons_of_neg hx]; rfl
  by_cases h : (a.takeWhile y.cps.contains).length = 0
  · rw [hd, h]; simp
  · have : ((List.takeWhile y.cps.contains a).length == 0 && (T a).length == (T a).length) = false := by simp [h]
    rw [this]
    simp only [Bool.false_eq_true, if_false]
    unfold stripped
    rw [e0, e3, hd]
    unfold Builtin.Str.strSub
    simp [T, Str.length]
    exact List.take_of_length_le (by simp)
theorem atI_app {α : Type} (pre : List α) (c : α) (t : List α) : atI (pre ++ c :: t) (pre.length : Int) = some c := by
  unfold atI ixN
  rw [if_pos (by omega), if_pos (by simp <;> omega)]
  simp
theorem atI_nat {α : Type} (l : List α) (n : Nat) : atI l (n : Int) = l[n]? := by
  unfold atI ixN
  rw [if_pos (by omega)]
  by_cases h : n < l.length
  · rw [if_pos (by omega)]; simp
  · rw [if_neg (by omega)]; simp; omega
theorem sIx_nat (n d k : Nat) (h : k ≤ n) : HT.sIx n d (some (k : Int)) = k := by
  show (if (k : Int) < 0 then ((k : Int) + n).toNat else min (k : Int).toNat n) = k
  rw [if_neg (by omega)]; simp; omega
theorem cutS_mid (pre mid suf : List Nat) : cutS (T (pre ++ mid ++ suf)) (some (pre.length : Int)) (some ((pre.length : Int) + mid.length)) = T mid := by
  have e : ((pre.length : Int) + mid.length) = ((pre.length + mid.length : Nat) : Int) := by omega
  unfold cutS
  rw [e, sIx_nat _ _ _ (by simp <;> omega), sIx_nat _ _ _ (by simp <;> omega)]
  simp
theorem cutS_from (pre suf : List Nat) : cutS (T (pre ++ suf)) (some (pre.length : Int)) none = T suf := by
  unfold cutS
  rw [sIx_nat _ _ _ (by simp)]
  have : HT.sIx (T (pre ++ suf)).length (T (pre ++ suf)).length none = (pre ++ suf).length := by simp [HT.sIx]
  rw [this]
  simp
/-! ### signs of persons -/
/-- what a person says: none (free), or the four answers for the pairs TT, TL, LT, LL -/
abbrev P4 : Type := Option (Bool × Bool × Bool × Bool)
def bit (b : Bool) : Nat := if b then 49 else 48
def sg : P4 → List Nat
  | none => [63]
  | some (a, b, c, d) => [bit a, bit b, bit c, bit d]
def rowT (ss : List P4) : List Nat := TL.joinL [32] (ss.map sg)
theorem rowT_nil : rowT [] = [] := rfl
theorem rowT_one (p : P4) : rowT [p] = sg p := by simp [rowT, TL.joinL]
theorem rowT_cons (p q : P4) (ss : List P4) : rowT (p :: q :: ss) = sg p ++ 32 :: rowT (q :: ss) := by simp [rowT, TL.joinL]
theorem rowT_len (ss : List P4) : (rowT ss).length ≤ 5 * ss.length := by
  induction ss with
  | nil => simp [rowT_nil]
  | cons p ss ih =>
    have hp : (sg p).length ≤ 4 := by rcases p with _ | ⟨a, b, c, d⟩ <;> simp [sg]
    cases ss with
    | nil => rw [rowT_one]; simp; omega
    | cons q ss => rw [rowT_cons]; simp at ih ⊢; omega
section
variable {C : CE} {m : Store}
noncomputable abbrev bodyT (C : CE) : DS := sCons (sSet 3 (eC (.int 1))) <|
    sCons (sIf (eTest (eBin dIn (eBin dIx (eVar 0) (eVar 2)) (eC (.str "0123456789")))) (sSet 3 (eCall (G_run_length C) (aCons (eVar 0) (aCons (eVar 2) (aCons (eC (.str "0123456789")) (aNil)))))) (sIf (eTest (eCall (G_is_letters C) (aCons (eBin dIx (eVar 0) (eVar 2)) (aNil)))) (sNever) (sNil))) <|
    sCons (sIf (eTest (eBin dNe (eBin dIx (eVar 0) (eVar 2)) (eC (.str " ")))) (sExpr (eOnL appD (eVar 1) (eTup (aCons (eVar 2) (aCons (eSl (eVar 0) (pSome (eVar 2)) (pSome (eBin dAdd (eVar 2) (eVar 3)))) (aNil)))))) (sNil)) <|
    sSet 2 (eBin dAdd (eVar 2) (eVar 3))
theorem digits_at (c : Bool) : ("0123456789" : Str).cps.contains (bit c) = true := by cases c <;> decide +kernel
theorem digits_not : ("0123456789" : Str).cps.contains 32 = false := by decide +kernel
theorem run_len {pre rest : List Nat} {a b c d : Bool} (hr : rest = [] ∨ ∃ t, rest = 32 :: t) (hl : (pre ++ sg (some (a, b, c, d)) ++ rest).length ≤ 1000) :
    G_run_length C [.str (T (pre ++ sg (some (a, b, c, d)) ++ rest)), .int pre.length, .str "0123456789"] m = .ok (.int 4) m := by
  have hd : (sg (some (a, b, c, d)) ++ rest).dropWhile ("0123456789" : Str).cps.contains = rest := by
    simp only [sg, List.cons_append, List.nil_append]
    rw [List.dropWhile_cons_of_pos (digits_at a), List.dropWhile_cons_of_pos (digits_at b), List.dropWhile_cons_of_pos (digits_at c), List.dropWhile_cons_of_pos (digits_at d)]
    rcases hr with rfl | ⟨t, rfl⟩
    · rfl
    · rw [List.dropWhile_cons_of_neg (by rw [digits_not]; simp)]
  have hc : cutS (T (pre ++ sg (some (a, b, c, d)) ++ rest)) (some (pre.length : Int)) none = T (sg (some (a, b, c, d)) ++ rest) := by
    rw [List.append_assoc]; exact cutS_from _ _
  have hl1 : (pre ++ sg (some (a, b, c, d)) ++ rest).length ≤ 16777216 := by omega
  have hl2 : (sg (some (a, b, c, d)) ++ rest).length ≤ 16777216 := by simp at hl1 ⊢; omega
  simp only [G_run_length, S_run_length, runB, startD_cons, startD_nil, List.length_cons, List.length_nil]
  have hl3 : rest.length ≤ 16777216 := by simp at hl2; omega
  simp [hc, hl1, hl2, hl3, lstrip_T, hd, -List.append_assoc, -List.length_append]
  simp [sg]; omega
theorem q_digit_in (c : Bool) : dIn (.str ⟨#[bit c]⟩) (.str "0123456789") = some (.bl true) := by cases c <;> kernel_rfl
theorem bit_ne (c : Bool) : decide ((⟨#[bit c]⟩ : Str) = " ") = false := by cases c <;> decide +kernel
/-- a sign's token is taken -/
theorem body_sign {pre rest : List Nat} {p : P4} {n : Nat} {xs : List D} {x : Option D} (hr : rest = [] ∨ ∃ t, rest = 32 :: t) (hl : (pre ++ sg p ++ rest).length ≤ 1000) (hm : m[n]? = some (some (.lst xs))) (hx : xs.length < 1000) :
    bodyT C [some (.str (T (pre ++ sg p ++ rest))), some (.loc n), some (.int pre.length), x] m = .nx [some (.str (T (pre ++ sg p ++ rest))), some (.loc n), some (.int (pre.length + (sg p).length : Nat)), some (.int (sg p).length)] (m.set n (some (.lst (xs ++ [.tup [.int pre.length, .str (T (sg p))]])))) := by
  have hl1 : (pre ++ sg p ++ rest).length ≤ 16777216 := by omega
  have hx2 : xs.length < 16777216 := by omega
  have hm1 := lstAt_loc _ hm
  have h4 := cutS_mid pre (sg p) rest
  rcases p with _ | ⟨a, b, c, d⟩
  · have hat : atI (pre ++ sg none ++ rest) (pre.length : Int) = some 63 := by rw [List.append_assoc]; exact atI_app pre 63 rest
    have h1 : dIn (.str ⟨#[63]⟩) (.str "0123456789") = some (.bl false) := by kernel_rfl
    have h2 : G_is_letters C [.str ⟨#[63]⟩] m = .ok (.bl false) m := by kernel_rfl
    have h3 : decide ((⟨#[63]⟩ : Str) = " ") = false := by decide +kernel
    have h5 : ((sg none).length : Int) = 1 := rfl
    rw [h5] at h4
    simp [hl1, hat, h1, h2, h3, h4, h5, appD, hm1, hm, hx2, -List.append_assoc, -List.length_append]
  · have hat : atI (pre ++ sg (some (a, b, c, d)) ++ rest) (pre.length : Int) = some (bit a) := by rw [List.append_assoc]; exact atI_app pre (bit a) _
    have h5 : ((sg (some (a, b, c, d))).length : Int) = 4 := rfl
    rw [h5] at h4
    simp [hl1, hat, q_digit_in, bit_ne, run_len hr hl, h4, h5, appD, hm1, hm, hx2, -List.append_assoc, -List.length_append]
/-- a blank is passed -/
theorem body_blank {pre rest : List Nat} {n : Nat} {x : Option D} (hl : (pre ++ 32 :: rest).length ≤ 1000) :
    bodyT C [some (.str (T (pre ++ 32 :: rest))), some (.loc n), some (.int pre.length), x] m = .nx [some (.str (T (pre ++ 32 :: rest))), some (.loc n), some (.int (pre.length + 1 : Nat)), some (.int 1)] m := by
  have hl1 : (pre ++ 32 :: rest).length ≤ 16777216 := by omega
  have hat : atI (pre ++ 32 :: rest) (pre.length : Int) = some 32 := atI_app pre 32 rest
  have h1 : dIn (.str ⟨#[32]⟩) (.str "0123456789") = some (.bl false) := by kernel_rfl
  have h2 : G_is_letters C [.str ⟨#[32]⟩] m = .ok (.bl false) m := by kernel_rfl
  have h3 : decide ((⟨#[32]⟩ : Str) = " ") = true := by decide +kernel
  simp [hl1, hat, h1, h2, h3, -List.append_assoc, -List.length_append]
noncomputable abbrev testT : DT := eTest (eBin dLt (eVar 2) (eCB fLen (aCons (eVar 0) (aNil))))
theorem test_T {L : List Nat} {n : Nat} {k : Nat} {x : Option D} (hl : L.length ≤ 1000) : testT [some (.str (T L)), some (.loc n), some (.int k), x] m = .ok (decide (k < L.length)) m := by
  have hl1 : L.length ≤ 16777216 := by omega
  simp [hl1]
/-- the tokens' values: where each begins, its sign -/
def toks : Nat → List P4 → List D
  | _, [] => []
  | k, p :: ss => .tup [.int k, .str (T (sg p))] :: toks (k + (sg p).length + 1) ss
theorem sg_pos (p : P4) : 0 < (sg p).length := by rcases p with _ | ⟨a, b, c, d⟩ <;> simp [sg]
theorem rowT_tail (p : P4) (ss : List P4) : ∃ rest, rowT (p :: ss) = sg p ++ rest ∧ ((ss = [] ∧ rest = []) ∨ (ss ≠ [] ∧ rest = 32 :: rowT ss)) := by
  cases ss with
  | nil => exact ⟨[], by rw [rowT_one]; simp, .inl ⟨rfl, rfl⟩⟩
  | cons q ss => exact ⟨_, rowT_cons p q ss, .inr ⟨by simp, rfl⟩⟩
theorem loop_T (ss : List P4) : ∀ (pre : List Nat) (m : Store) (n : Nat) (xs : List D) (x : Option D), (pre ++ rowT ss).length ≤ 1000 → m[n]? = some (some (.lst xs)) → xs.length + ss.length ≤ 1000 →
    ∃ r3 k, whileN testT (bodyT C) (2 * ss.length + 2) [some (.str (T (pre ++ rowT ss))), some (.loc n), some (.int pre.length), x] m = .nx [some (.str (T (pre ++ rowT ss))), some (.loc n), some (.int k), r3] (m.set n (some (.lst (xs ++ toks pre.length ss)))) := by
  induction ss with
  | nil =>
    intro pre m n xs x hl hm hx
    refine ⟨x, pre.length, ?_⟩
    rw [whileN_stop (m1 := m) (by rw [test_T hl]; simp [rowT_nil])]
    have e : m.set n (some (.lst (xs ++ toks pre.length []))) = m := by
      simp only [toks, List.append_nil]
      exact set_same hm
    rw [e]
  | cons p ss ih =>
    intro pre m n xs x hl hm hx
    obtain ⟨rest, er, hr⟩ := rowT_tail p ss
    have sp := sg_pos p
    rw [er] at hl ⊢
    rw [← List.append_assoc] at hl ⊢
    have hr2 : rest = [] ∨ ∃ t, rest = 32 :: t := by
      rcases hr with ⟨_, h⟩ | ⟨_, h⟩
      · exact .inl h
      · exact .inr ⟨_, h⟩
    simp only [List.length_cons] at hx
    have h1 := whileN_go (n := 2 * ss.length + 3) (t := testT) (m1 := m) (by rw [test_T hl, decide_eq_true]; simp only [List.length_append]; omega) (body_sign (C := C) (x := x) hr2 hl hm (by omega))
    have e1 : 2 * (p :: ss).length + 2 = 2 * ss.length + 3 + 1 := by simp; omega
    rw [e1, h1]
    have hm2 : (m.set n (some (.lst (xs ++ [.tup [.int pre.length, .str (T (sg p))]]))))[n]? = some (some (.lst (xs ++ [.tup [.int pre.length, .str (T (sg p))]]))) := set_at hm
    rcases hr with ⟨rfl, rfl⟩ | ⟨hne, rfl⟩
    · refine ⟨some (.int (sg p).length), ((pre.length + (sg p).length : Nat) : Int), ?_⟩
      rw [whileN_stop (m1 := m.set n (some (.lst (xs ++ [.tup [.int pre.length, .str (T (sg p))]])))) (by rw [test_T hl]; simp)]
      rfl
    · generalize hM : m.set n (some (.lst (xs ++ [.tup [.int pre.length, .str (T (sg p))]]))) = m1 at hm2 ⊢
      have e2 : pre ++ sg p ++ 32 :: rowT ss = (pre ++ sg p ++ [32]) ++ rowT ss := by simp
      have e3 : (pre.length + (sg p).length) = (pre ++ sg p).length := by simp
      have h2 := whileN_go (n := 2 * ss.length + 2) (t := testT) (m := m1) (m1 := m1) (by rw [test_T hl, decide_eq_true]; simp) (body_blank (C := C) (pre := pre ++ sg p) (rest := rowT ss) (n := n) (x := some (.int (sg p).length)) (m := m1) hl)
      rw [e3, h2]
      obtain ⟨r3, k, h3⟩ := ih (pre ++ sg p ++ [32]) m1 n (xs ++ [.tup [.int pre.length, .str (T (sg p))]]) (some (.int 1)) (by rw [← e2]; exact hl) hm2 (by simp; omega)
      refine ⟨r3, k, ?_⟩
      have e4 : ((pre ++ sg p).length + 1) = (pre ++ sg p ++ [32]).length := by simp [Nat.add_assoc]
      rw [e4, e2, h3, ← hM]
      simp [toks, Nat.add_assoc]
theorem q_tokens {ss : List P4} (hs : ss.length ≤ 60) : GP_tokens_of C [.str (T (rowT ss))] m = .ok (.lst (toks 0 ss)) m := by
  have hl := rowT_len ss
  obtain ⟨r3, k, h⟩ := loop_T (C := C) ss [] (m ++ [some (.lst [])]) m.length [] none (by simp; omega) (by simp) (by simp; omega)
  have h2 := sWhile_of (2 * ss.length + 2) (by omega) h (by simp)
  simp only [List.nil_append, List.length_nil] at h2
  have pt : pureL (toks 0 ss) = true := by
    generalize 0 = k0
    clear h h2 hs hl
    induction ss generalizing k0 with
    | nil => rfl
    | cons p ss ih => simp [toks, pureL, pureD, ih]
  have e : G_tokens_of C [.str (T (rowT ss))] m = .ok (.lst (toks 0 ss)) (m ++ [none]) := by
    simp [G_tokens_of, S_tokens_of] at h2 ⊢
    simp [h2]
  show popR m _ = _
  rw [e]
  exact popR_tail (by simpa [pureD] using pt)
end
end DL
namespace DL
open PySem PySem.Spec PyProof.Rows L2
variable {C : CE} {m : Store}
@[simp] theorem set_new (m : Store) (d e : Option D) : (m ++ [d]).set m.length e = m ++ [e] := by simp
theorem intsD_of {Y : Type} (h : Y → Int) (ys : List Y) : intsD (ys.map fun y => .int (h y)) = some (ys.map h) := by
  induction ys with
  | nil => rfl
  | cons y ys ih => simp [intsD, ih]
theorem blsD_of {Y : Type} (h : Y → Bool) (ys : List Y) : blsD (ys.map fun y => .bl (h y)) = some (ys.map h) := by
  induction ys with
  | nil => rfl
  | cons y ys ih => simp [blsD, ih]
theorem strsD_of {Y : Type} (h : Y → Str) (ys : List Y) : strsD (ys.map fun y => .str (h y)) = some (ys.map h) := by
  induction ys with
  | nil => rfl
  | cons y ys ih => simp [strsD, ih]
/-- for all that a person may say -/
theorem p4_all {F : P4 → Prop} (h0 : F none) (h : ∀ a b c d, F (some (a, b, c, d))) (p : P4) : F p := by
  rcases p with _ | ⟨a, b, c, d⟩
  · exact h0
  · exact h a b c d
def leafT (p : P4) : D := .tup [.str "person", .str (T (sg p)), .tup [], .non, .int 1, .int 1]
theorem q_leaf (p : P4) : G_leaf_of_token C [.str (T (sg p))] m = .ok (leafT p) m := by
  rcases p with _ | ⟨a, b, c, d⟩
  · kernel_rfl
  · cases a <;> cases b <;> cases c <;> cases d <;> kernel_rfl
theorem sg_ne (p : P4) : decide (T (sg p) = "~") = false ∧ decide (T (sg p) = "^") = false ∧ decide (T (sg p) = ")") = false ∧ decide (T (sg p) = "(") = false := by
  rcases p with _ | ⟨a, b, c, d⟩
  · decide +kernel
  · cases a <;> cases b <;> cases c <;> cases d <;> decide +kernel
def stT (ps : List D) (w : Str) : D := .tup [.tup [], .tup ps, .str w]
theorem q_state (p : P4) (ps : List D) (w : Str) (hw : w = "start" ∨ w = "part") (hl : ps.length ≤ 1000) : G_state_behind C [stT ps w, .str (T (sg p))] m = .ok (stT (ps ++ [leafT p]) "part") m := by
  have hw1 : decide (w = "number") = false := by rcases hw with rfl | rfl <;> decide +kernel
  have hl2 : ps.length + 1 ≤ 16777216 := by omega
  obtain ⟨h1, h2, h3, h4⟩ := sg_ne p
  have e1 : leafT p = .tup [.str "person", .str (T (sg p)), .tup [], .non, .int 1, .int 1] := rfl
  have hp : decide (w = "part") = true ∨ decide (w = "part") = false := by cases decide (w = "part") <;> simp
  rcases hp with hp | hp <;>
  simp [G_state_behind, S_state_behind, stT, hw1, hp, h1, h2, h3, h4, q_leaf, hl2, e1]
noncomputable abbrev bodyR (C : CE) : DS := sCons (sSet 1 (eCall (G_state_behind C) (aCons (eVar 1) (aCons (eVar 3) (aNil))))) <|
    sIf (eTest (eBin dIs (eVar 1) (eC .non))) (sNever) (sNil)
abbrev gR : DG := gTupD (gsCons (gName 2) (gsCons (gName 3) (gsNil)))
theorem loop_R (t : D) (x4 x5 x6 : Option D) : ∀ (ss : List P4) (k : Nat) (ps : List D) (w : Str) (x2 x3 : Option D), (w = "start" ∨ w = "part") → ps.length + ss.length ≤ 1000 →
    ∃ y2 y3, forN gR (bodyR C) (toks k ss) [some t, some (stT ps w), x2, x3, x4, x5, x6] m = .nx [some t, some (stT (ps ++ ss.map leafT) (if ss = [] then w else "part")), y2, y3, x4, x5, x6] m
  | [], k, ps, w, x2, x3, hw, hl => ⟨x2, x3, by simp [toks, forN]⟩
  | p :: ss, k, ps, w, x2, x3, hw, hl => by
    simp only [List.length_cons] at hl
    obtain ⟨y2, y3, h⟩ := loop_R t x4 x5 x6 ss (k + (sg p).length + 1) (ps ++ [leafT p]) "part" (some (.int k)) (some (.str (T (sg p)))) (.inr rfl) (by simp; omega)
    refine ⟨y2, y3, ?_⟩
    rw [toks, forN_nx (r1 := [some t, some (stT ps w), some (.int k), some (.str (T (sg p))), x4, x5, x6]) (r2 := [some t, some (stT (ps ++ [leafT p]) "part"), some (.int k), some (.str (T (sg p))), x4, x5, x6]) (m2 := m) (by simp) ?_, h]
    · simp
    · have hq := q_state (C := C) (m := m) p ps w hw (by omega)
      have hn : ∀ ps w, dIs (stT ps w) .non = some (.bl false) := fun _ _ => rfl
      have hv : ∀ ps w, vw m (stT ps w) = stT ps w := fun _ _ => rfl
      simp [hq, hn, hv]
def treeT (ss : List P4) : D := .tup [.str "join", .str "", .tup (ss.map leafT), .non, .int (1 + ss.length), .int 2]
theorem intsD_repl (n : Nat) (i : Int) : intsD (List.replicate n (.int i)) = some (List.replicate n i) := by
  induction n with
  | zero => rfl
  | succ n ih => simp [List.replicate_succ, intsD, ih]
theorem sum_repl (n : Nat) : (List.replicate n (1 : Int)).sum = n := by
  induction n with
  | zero => rfl
  | succ n ih => rw [List.replicate_succ, List.sum_cons, ih]; omega
theorem foldmax_repl (n : Nat) : (List.replicate n (1 : Int)).foldl max 1 = 1 := by
  induction n with
  | zero => rfl
  | succ n ih => rw [List.replicate_succ, List.foldl_cons]; exact ih
theorem fSum_rep (n : Nat) : fSum [.lst (List.replicate n (.int 1))] = some (.int n) := by
  show (match intsD (List.replicate n (.int 1)) with | some l => some (D.int l.sum) | none => none) = _
  rw [intsD_repl]
  exact congrArg (fun z => some (D.int z)) (sum_repl n)
theorem fMax_rep (n : Nat) (h : 0 < n) : fMax [.lst (List.replicate n (.int 1))] = some (.int 1) := by
  obtain ⟨k, rfl⟩ := Nat.exists_eq_succ_of_ne_zero (Nat.pos_iff_ne_zero.mp h)
  show (match intsD (List.replicate k.succ (.int 1)) with | some l => Option.map D.int (maxI l) | none => none) = _
  rw [intsD_repl]
  simp only [Nat.succ_eq_add_one, List.replicate_succ, maxI, Option.map_some, foldmax_repl]
theorem leaf_at4 (p : P4) : dIx (leafT p) (.int 4) = some (.int 1) := rfl
theorem leaf_at5 (p : P4) : dIx (leafT p) (.int 5) = some (.int 1) := rfl
theorem leaf_vw (p : P4) : vw m (leafT p) = leafT p := rfl
theorem q_tree (ss : List P4) (h2 : 2 ≤ ss.length) (hl : ss.length ≤ 1000) : G_tree_of C [.str "join", .tup (ss.map leafT), .non] m = .ok (treeT ss) m := by
  have hl2 : ss.length ≤ 16777216 := by omega
  have c1 := fun r (h : r.length = 5) => compN_map (g := gName 4) (fe := eBin dIx (eVar 4) (eC (.int 4))) (r := r) (m := m) leafT (fun _ => .int 1) ss hl2 (fun y _ => ⟨r.set 4 (some (leafT y)), rfl, by simp [leaf_at4, leaf_vw, h]⟩)
  have c2 := fun r (h : r.length = 5) => compN_map (g := gName 4) (fe := eBin dIx (eVar 4) (eC (.int 5))) (r := r) (m := m) leafT (fun _ => .int 1) ss hl2 (fun y _ => ⟨r.set 4 (some (leafT y)), rfl, by simp [leaf_at5, leaf_vw, h]⟩)
  simp only [map_const_rep] at c1 c2
  simp [G_tree_of, S_tree_of, wipeD, c1, c2, fSum_rep, fMax_rep ss.length (by omega), fTuple, treeT]
theorem q_read (ss : List P4) (h2 : 2 ≤ ss.length) (hl : ss.length ≤ 60) : G_read_tree C [.str (T (rowT ss))] m = .ok (treeT ss) m := by
  have ht := q_tokens (C := C) (m := m) hl
  obtain ⟨y2, y3, h⟩ := loop_R (C := C) (m := m) (.str (T (rowT ss))) none none none ss 0 [] "start" none none (.inl rfl) (by simp; omega)
  have hne : ss ≠ [] := by rintro rfl; simp at h2
  rw [if_neg hne] at h
  have hq := q_tree (C := C) (m := m) ss h2 (by omega)
  have hc : G_closed_group C [.tup (ss.map leafT)] m = .ok (treeT ss) m := by
    have : decide ((ss.length : Int) = 1) = false := decide_eq_false (by omega)
    simp [G_closed_group, S_closed_group, hq, this]
  simp [stT] at h
  have w1 : decide (("part" : Str) = "part") = true := by decide
  have e1 : dNe (.tup []) (.tup []) = some (.bl false) := by kernel_rfl
  simp [G_read_tree, S_read_tree, isiD, tyD, ht, h, stT, hc, e1]
end DL
namespace DL
open PySem PySem.Spec PyProof.Rows L2
variable {C : CE} {m : Store}
abbrev FL : Type := List (Str × D)
def exprD (kind : Str) (parts : List D) (tm : D) (nodes levels : Int) (text : Str) : D := .obj 1 [("own_kind", .str kind), ("own_parts", .lst parts), ("own_times", tm), ("own_nodes", .int nodes), ("own_levels", .int levels), ("own_text", .str text)]
section
variable {k : Str} {ps : List D} {tm : D} {n l : Int} {t : Str}
theorem q_kind : G_Expression_kind C [exprD k ps tm n l t] m = .ok (.str k) m := by kernel_rfl
theorem q_text : G_Expression_text C [exprD k ps tm n l t] m = .ok (.str t) m := by kernel_rfl
theorem q_nodes : G_Expression_nodes C [exprD k ps tm n l t] m = .ok (.int n) m := by kernel_rfl
theorem q_levels : G_Expression_levels C [exprD k ps tm n l t] m = .ok (.int l) m := by kernel_rfl
theorem q_parts : G_Expression_parts C [exprD k ps tm n l t] m = .ok (.lst ps) m := by kernel_rfl
theorem e_obj : objD 1 (exprD k ps tm n l t) m = some ([("own_kind", .str k), ("own_parts", .lst ps), ("own_times", tm), ("own_nodes", .int n), ("own_levels", .int l), ("own_text", .str t)] : FL) := rfl
end
def leafE (p : P4) : D := exprD "person" [] .non 1 1 (T (sg p))
def rowE (ss : List P4) : D := exprD "join" (ss.map leafE) .non (1 + ss.length) 2 (T (rowT ss))
theorem pf1 (a : D) : putFD "own_kind" a ([] : FL) = ([("own_kind", a)] : FL) := rfl
theorem pf2 (a b : D) : putFD "own_parts" b ([("own_kind", a)] : FL) = ([("own_kind", a), ("own_parts", b)] : FL) := by kernel_rfl
theorem pf3 (a b c : D) : putFD "own_times" c ([("own_kind", a), ("own_parts", b)] : FL) = ([("own_kind", a), ("own_parts", b), ("own_times", c)] : FL) := by kernel_rfl
theorem pf4 (a b c d : D) : putFD "own_nodes" d ([("own_kind", a), ("own_parts", b), ("own_times", c)] : FL) = ([("own_kind", a), ("own_parts", b), ("own_times", c), ("own_nodes", d)] : FL) := by kernel_rfl
theorem pf5 (a b c d e : D) : putFD "own_levels" e ([("own_kind", a), ("own_parts", b), ("own_times", c), ("own_nodes", d)] : FL) = ([("own_kind", a), ("own_parts", b), ("own_times", c), ("own_nodes", d), ("own_levels", e)] : FL) := by kernel_rfl
theorem pf6 (a b c d e f : D) : putFD "own_text" f ([("own_kind", a), ("own_parts", b), ("own_times", c), ("own_nodes", d), ("own_levels", e)] : FL) = ([("own_kind", a), ("own_parts", b), ("own_times", c), ("own_nodes", d), ("own_levels", e), ("own_text", f)] : FL) := by kernel_rfl
theorem kin1 : dIn (.str "person") (.tup [.str "person", .str "name"]) = some (.bl true) := by kernel_rfl
theorem kin2 : dIn (.str "join") (.tup [.str "person", .str "name"]) = some (.bl false) := by kernel_rfl
theorem init_leaf (t : Str) : G_Expression_init C [.loc m.length, .str "person", .str t, .lst [], .non] (m ++ [some (.obj 1 [])]) = .ok .non (m ++ [some (exprD "person" [] .non 1 1 t)]) := by
  have s0 : fSum [.lst []] = some (.int 0) := rfl
  have s1 : fMaxD [.lst []] [.int 0] = some (.int 0) := rfl
  simp [G_Expression_init, S_Expression_init, fList, compN, s0, s1, pf1, pf2, pf3, pf4, pf5, pf6, kin1, exprD]
theorem mk_pure {j : Nat} {G : List D → Store → Res D} {ds : List D} {d : D} (h : G (.loc m.length :: ds) (m ++ [some (.obj j [])]) = .ok .non (m ++ [some d])) (hp : pureD d = true) : mkD j G ds m = .ok d m := by
  unfold mkD
  rw [h]
  simp only [bind_ok]
  rw [frz_loc _ (d := d) (by simp)]
  rw [set_new]
  exact popR_tail hp
theorem q_leafE (p : P4) (n : Nat) : G_expression_of C (n + 1) [leafT p] m = .ok (leafE p) m := by
  have h := mk_pure (G := G_Expression_init C) (m := m) (init_leaf (T (sg p))) (by rfl)
  simp [G_expression_of, S_expression_of, leafT, compN, h, leafE]
theorem join_row (ss : List P4) : Txt.join " " (ss.map fun p => T (sg p)) = T (rowT ss) := by
  have h := SX.join_S [32] (ss.map sg)
  rw [List.map_map] at h
  have e : (" " : Str) = SX.S [32] := by decide +kernel
  rw [e]; exact h
theorem sum_le (ss : List P4) : (ss.map fun p => (T (sg p)).length).sum ≤ 4 * ss.length := by
  induction ss with
  | nil => simp
  | cons p ss ih =>
    have hp : (sg p).length ≤ 4 := by rcases p with _ | ⟨a, b, c, d⟩ <;> simp [sg]
    simp only [List.map_cons, List.sum_cons, T_len, List.length_cons] at ih ⊢; omega
theorem q_enclosed (p : P4) : G_enclosed_text C [leafE p] m = .ok (.str (T (sg p))) m := by
  have w : decide (("person" : Str) = "join") = false := by decide +kernel
  simp [G_enclosed_text, S_enclosed_text, leafE, e_obj, q_kind, q_text, w]
theorem q_join {ss : List P4} (hl : ss.length ≤ 1000) : dJoin (.str " ") (.lst (ss.map fun p => .str (T (sg p)))) = some (.str (T (rowT ss))) := by
  have h1 := sum_le ss
  have h2 : ((" " : Str)).length = 1 := by decide +kernel
  unfold dJoin oJoin
  simp only [strsD_of, join_row]
  rw [if_pos (by rw [List.map_map, h2]; show (ss.map fun p => (T (sg p)).length).sum + _ ≤ _; simp only [List.length_map]; omega)]
theorem q_textof {ss : List P4} (hl : ss.length ≤ 1000) : G_text_of_parts C [.str "join", .lst (ss.map leafE), .non] m = .ok (.str (T (rowT ss))) m := by
  have hl2 : ss.length ≤ 16777216 := by omega
  have c1 := fun r (h : r.length = 4) => compN_map (g := gName 3) (fe := eCall (G_enclosed_text C) (aCons (eVar 3) aNil)) (r := r) (m := m) leafE (fun p => .str (T (sg p))) ss hl2 (fun y _ => ⟨r.set 3 (some (leafE y)), rfl, by simp [q_enclosed, h]⟩)
  simp [G_text_of_parts, S_text_of_parts, wipeD, c1, q_join hl]
theorem fMaxD_rep (n : Nat) (h : 0 < n) : fMaxD [.lst (List.replicate n (.int 1))] [.int 0] = some (.int 1) := by
  obtain ⟨k, rfl⟩ := Nat.exists_eq_succ_of_ne_zero (Nat.pos_iff_ne_zero.mp h)
  show (match intsD (List.replicate k.succ (.int 1)) with | some l => some (D.int ((maxI l).getD 0)) | none => none) = _
  rw [intsD_repl]
  simp only [Nat.succ_eq_add_one, List.replicate_succ, maxI, Option.getD_some, foldmax_repl]
theorem init_row {ss : List P4} (h2 : 2 ≤ ss.length) (hl : ss.length ≤ 1000) : G_Expression_init C [.loc m.length, .str "join", .str "", .lst (ss.map leafE), .non] (m ++ [some (.obj 1 [])]) = .ok .non (m ++ [some (rowE ss)]) := by
  have hl2 : ss.length ≤ 16777216 := by omega
  have c1 := fun r m (h : r.length = 6) => compN_map (g := gName 5) (fe := eProp' 1 (G_Expression_nodes C) (eVar 5)) (r := r) (m := m) leafE (fun _ => .int 1) ss hl2 (fun y _ => ⟨r.set 5 (some (leafE y)), rfl, by simp [q_nodes, leafE, e_obj, h]⟩)
  have nl : List.lookup ("levels" : Str) [(("own_kind" : Str), (.str "person" : D)), ("own_parts", .lst []), ("own_times", .non), ("own_nodes", .int 1), ("own_levels", .int 1)] = none := by kernel_rfl
  have c2 := fun r m (h : r.length = 6) => compN_map (g := gName 5) (fe := eMeth 1 "levels" (G_Expression_levels C) (eVar 5) aNil) (r := r) (m := m) leafE (fun _ => .int 1) ss hl2 (fun y _ => ⟨r.set 5 (some (leafE y)), rfl, by
    have nl : List.lookup ("levels" : Str) [(("own_kind" : Str), (.str "person" : D)), ("own_parts", .lst []), ("own_times", .non), ("own_nodes", .int 1), ("own_levels", .int 1), ("own_text", .str (T (sg y)))] = none := by kernel_rfl
    simp [q_levels, leafE, e_obj, h, nl]⟩)
  simp only [map_const_rep] at c1 c2
  have ht := fun m => q_textof (C := C) (m := m) hl
  simp [G_Expression_init, S_Expression_init, fList, wipeD, c1, c2, fSum_rep, fMaxD_rep ss.length (by omega), ht, pf1, pf2, pf3, pf4, pf5, pf6, kin2, rowE, exprD]
theorem leafE_pure (ss : List P4) : pureL (ss.map leafE) = true := by
  induction ss with
  | nil => rfl
  | cons p ss ih => simp [pureL, ih]; rfl
theorem rowE_pure (ss : List P4) : pureD (rowE ss) = true := by
  simp [rowE, exprD, pureD, pureF, leafE_pure]
theorem q_rowE {ss : List P4} (h2 : 2 ≤ ss.length) (hl : ss.length ≤ 1000) : G_expression_of C 3 [treeT ss] m = .ok (rowE ss) m := by
  have hl2 : ss.length ≤ 16777216 := by omega
  have h := mk_pure (G := G_Expression_init C) (m := m) (init_row h2 hl) (rowE_pure ss)
  have c1 := fun r (h : r.length = 8) => compN_map (g := gName 7) (fe := eCall (G_expression_of C 2) (aCons (eVar 7) aNil)) (r := r) (m := m) leafT leafE ss hl2 (fun y _ => ⟨r.set 7 (some (leafT y)), rfl, by simp [q_leafE, h]⟩)
  simp [G_expression_of, S_expression_of, treeT, wipeD] at c1 ⊢
  simp [c1, h]
theorem q_eread {ss : List P4} (a : D) (h2 : 2 ≤ ss.length) (hl : ss.length ≤ 60) : G_Expression_read C [a, .str (T (rowT ss))] m = .ok (rowE ss) m := by
  have h := q_read (C := C) (m := m) ss h2 hl
  have h3 := q_rowE (C := C) (m := m) h2 (by omega)
  have a4 : dIx (treeT ss) (.int 4) = some (.int (1 + ss.length)) := rfl
  have a5 : dIx (treeT ss) (.int 5) = some (.int 2) := rfl
  have av : vw m (treeT ss) = treeT ss := rfl
  have hr : G_require_measures C [.int (1 + ss.length), .int 2] m = .ok .non m := by
    have : decide ((500 : Int) < 1 + ss.length) = false := decide_eq_false (by omega)
    simp [G_require_measures, S_require_measures, this]
  simp [G_Expression_read, S_Expression_read, h, h3, a4, a5, av, hr]
end DL
namespace DL
open PySem PySem.Spec PyProof.Rows L2
variable {C : CE} {m : Store}
abbrev KA : Key := Sum.inr "a"
theorem leaf_obj (p : P4) : objD 1 (leafE p) m = some ([("own_kind", .str "person"), ("own_parts", .lst []), ("own_times", .non), ("own_nodes", .int 1), ("own_levels", .int 1), ("own_text", .str (T (sg p)))] : FL) := rfl
theorem row_obj (ss : List P4) : objD 1 (rowE ss) m = some ([("own_kind", .str "join"), ("own_parts", .lst (ss.map leafE)), ("own_times", .non), ("own_nodes", .int (1 + ss.length)), ("own_levels", .int 2), ("own_text", .str (T (rowT ss)))] : FL) := rfl
theorem leaf_fk (p : P4) : fldD 1 "own_kind" (leafE p) m = some (.str "person") := by kernel_rfl
theorem leaf_fp (p : P4) : fldD 1 "own_parts" (leafE p) m = some (.lst []) := by kernel_rfl
theorem row_fk (ss : List P4) : fldD 1 "own_kind" (rowE ss) m = some (.str "join") := by kernel_rfl
theorem row_fp (ss : List P4) : fldD 1 "own_parts" (rowE ss) m = some (.lst (ss.map leafE)) := by kernel_rfl
theorem wpn : decide (("person" : Str) = "name") = false := by decide +kernel
theorem wjn : decide (("join" : Str) = "name") = false := by decide +kernel
theorem wjp : decide (("join" : Str) = "person") = false := by decide +kernel
theorem wjr : decide (("join" : Str) = "repeat") = false := by decide +kernel
theorem wjm : decide (("join" : Str) = "mirror") = false := by decide +kernel
theorem fss0 : fSortSet [.set []] = some (.lst []) := rfl
theorem q_names_leaf (p : P4) (n : Nat) : G_Expression_names C (n + 1) [leafE p] m = .ok (.lst []) m := by
  simp [G_Expression_names, S_Expression_names, leaf_fk, leaf_fp, wpn, outS2, fss0]
theorem outS2_none {Y : Type} {vs1 : List Nat} {g : DG} {ft : DT} {fi1 : DA} {g1 : DG} {ft1 : DT} {fe : DE} {r : DEnv} (e : Y → D) : ∀ (ys : List Y), (∀ y ∈ ys, ∃ r', g (e y) r = some r' ∧ ft r' m = .ok true m ∧ fi1 r' m = .ok [] m) → outS2 vs1 g ft fi1 g1 ft1 fe r (ys.map e) [] m = .ok [] m
  | [], _ => rfl
  | y :: ys, h => by
    obtain ⟨r', h1, h2, h3⟩ := h y (List.mem_cons_self ..)
    have ih := outS2_none (vs1 := vs1) (g := g) (ft := ft) (fi1 := fi1) (g1 := g1) (ft1 := ft1) (fe := fe) (r := r) e ys fun z hz => h z (List.mem_cons_of_mem _ hz)
    simp [outS2, h1, h2, h3, inS2, ih]
theorem q_names_row (ss : List P4) : G_Expression_names C 3 [rowE ss] m = .ok (.lst []) m := by
  have hn : ∀ y : P4, List.lookup ("names" : Str) ([("own_kind", .str "person"), ("own_parts", .lst []), ("own_times", .non), ("own_nodes", .int 1), ("own_levels", .int 1), ("own_text", .str (T (sg y)))] : FL) = none := fun y => by kernel_rfl
  have c1 := fun r (h : r.length = 3) => outS2_none (m := m) (vs1 := [2]) (g := gName 1) (ft := dTrue) (fi1 := iSeq (eMeth 1 "names" (G_Expression_names C 2) (eVar 1) aNil)) (g1 := gName 2) (ft1 := dTrue) (fe := eVar 2) (r := r) leafE ss (fun y _ => ⟨r.set 1 (some (leafE y)), rfl, rfl, by simp [leaf_obj, hn, q_names_leaf, h]⟩)
  simp [G_Expression_names, S_Expression_names, row_fk, row_fp, wjn, wipeD, fss0] at c1 ⊢
  simp [c1, fss0]
theorem isi_e (ss : List P4) : isiD [] [1] (fun _ => false) (fun _ => true) (rowE ss) = some true := rfl
theorem row_vw (ss : List P4) : vw m (rowE ss) = rowE ss := rfl
theorem q_name_a : G_is_name C [.str "a"] m = .ok (.bl true) m := by kernel_rfl
theorem q_defs (ss : List P4) : G_is_definitions C [.dic [(KA, rowE ss)]] m = .ok (.bl true) m := by
  simp [G_is_definitions, S_is_definitions, isi_dict, pairD, kD, wipeD, compN, q_name_a, isi_e, row_vw, fAll, blsD]
theorem q_reached : GP_reached_from C [.dic [(KA, .lst [])], .str "a"] m = .ok (.lst []) m := by
  have hw : ∀ b (M : Store) (x0 x1 x2 : Option D) (n : Nat) (x4 : Option D), M[n]? = some (some (.lst [])) → sWhile (eTest (eBin dNe (eVar 3) (eLst (aNil)))) b [x0, x1, x2, some (.loc n), x4] M = .nx [x0, x1, x2, some (.loc n), x4] M := fun b M x0 x1 x2 n x4 hM => by
    have e1 : dNe (.lst []) (.lst []) = some (.bl false) := by kernel_rfl
    exact sWhile_of 1 (by omega) (whileN_stop (m1 := M) (by simp [vw_loc M n hM, e1])) (by simp)
  have hs : fSortedS [.lst []] = some (.lst []) := by kernel_rfl
  have e : G_reached_from C [.dic [(KA, .lst [])], .str "a"] m = .ok (.lst []) (m ++ [some (.lst []), some (.lst [])]) := by
    have v1 : valD ([(KA, .lst [])] : List (Key × D)) (Sum.inr "a") = some (.lst []) := by kernel_rfl
    have hx : dIx (.dic [(KA, .lst [])]) (.str "a") = some (.lst []) := by kernel_rfl
    simp [G_reached_from, S_reached_from, hx, extD, lstAt, hw, hs]
  show popR m _ = _
  rw [e]
  exact popR_tail (by rfl)
noncomputable abbrev bodyO : DS := (sCons (sSet 3 (eBin dIx (eVar 2) (eNeg (eC (.int 1))))) <|
    sCons (sSet 4 (eLc [5] (iSeq (eBin dIx (eVar 0) (eVar 3))) (gName 5) (eTest (eBin dNotIn (eVar 5) (eVar 1))) (eVar 5))) <|
    sCons (sIf (eOr (eTest (eBin dIn (eVar 3) (eVar 1))) (eTest (eBin dEq (eVar 4) (eLst (aNil))))) (sExpr (ePop (eVar 2))) (sNil)) <|
    sCons (sIf (eAnd (eTest (eBin dNotIn (eVar 3) (eVar 1))) (eTest (eBin dEq (eVar 4) (eLst (aNil))))) (sExpr (eOnL appD (eVar 1) (eVar 3))) (sNil)) <|
    sExpr (eOnL extD (eVar 2) (eVar 4)))
theorem dn1 : dNe (.lst []) (.lst []) = some (.bl false) := by kernel_rfl
theorem dn2 : dNe (.lst [.str "a"]) (.lst []) = some (.bl true) := by kernel_rfl
theorem de1 : dEq (.lst []) (.lst []) = some (.bl true) := by kernel_rfl
theorem di1 : dIn (.str "a") (.lst []) = some (.bl false) := by kernel_rfl
theorem di2 : dNotIn (.str "a") (.lst []) = some (.bl true) := by kernel_rfl
theorem hxa (d : D) : dIx (.dic [(KA, d)]) (.str "a") = some d := by kernel_rfl
theorem hia (d : D) : dIn (.str "a") (.dic [(KA, d)]) = some (.bl true) := by kernel_rfl
theorem hnia (d : D) : dNotIn (.str "a") (.dic [(KA, d)]) = some (.bl false) := by kernel_rfl
theorem q_ordered : GP_ordered_names C [.dic [(KA, .lst [])]] m = .ok (.lst [.str "a"]) m := by
  have hs : fSortedR [.dic [(KA, .lst [])]] [.bl true] = some (.lst [.str "a"]) := by kernel_rfl
  have hw : sWhile (eTest (eBin dNe (eVar 2) (eLst (aNil)))) bodyO [some (.dic [(KA, .lst [])]), some (.loc m.length), some (.loc (m.length + 1)), none, none, none] (m ++ [some (.lst []), some (.lst [.str "a"])]) =
      .nx [some (.dic [(KA, .lst [])]), some (.loc m.length), some (.loc (m.length + 1)), some (.str "a"), some (.lst []), none] (m ++ [some (.lst [.str "a"]), some (.lst [])]) := by
    have a1 : atI [(.str "a" : D)] (-1) = some (.str "a") := by kernel_rfl
    refine sWhile_of 2 (by omega) ?_ (fun h => by cases h)
    refine (whileN_go (m1 := m ++ [some (.lst []), some (.lst [.str "a"])]) (r2 := [some (.dic [(KA, .lst [])]), some (.loc m.length), some (.loc (m.length + 1)), some (.str "a"), some (.lst []), none]) (m2 := m ++ [some (.lst [.str "a"]), some (.lst [])]) ?_ ?_).trans ?_
    · simp [dn2]
    · simp [a1, hxa, di1, di2, de1, compN, wipeD, lstAt, appD, extD]
    · simp [whileN, dn1]
  have e : G_ordered_names C [.dic [(KA, .lst [])]] m = .ok (.lst [.str "a"]) (m ++ [none, some (.lst [])]) := by
    simp [G_ordered_names, S_ordered_names, hs, extD, lstAt, hw]
  show popR m _ = _
  rw [e]
  exact popR_tail (by rfl)
theorem qk_leaf (p : P4) : G_Expression_kind C [leafE p] m = .ok (.str "person") m := q_kind
theorem qk_row (ss : List P4) : G_Expression_kind C [rowE ss] m = .ok (.str "join") m := q_kind
theorem qp_leaf (p : P4) : G_Expression_parts C [leafE p] m = .ok (.lst []) m := q_parts
theorem qp_row (ss : List P4) : G_Expression_parts C [rowE ss] m = .ok (.lst (ss.map leafE)) m := q_parts
theorem lk_parts (p : P4) : List.lookup ("parts" : Str) ([("own_kind", .str "person"), ("own_parts", .lst []), ("own_times", .non), ("own_nodes", .int 1), ("own_levels", .int 1), ("own_text", .str (T (sg p)))] : FL) = none := by kernel_rfl
theorem lk_partsR (ss : List P4) : List.lookup ("parts" : Str) ([("own_kind", .str "join"), ("own_parts", .lst (ss.map leafE)), ("own_times", .non), ("own_nodes", .int (1 + ss.length)), ("own_levels", .int 2), ("own_text", .str (T (rowT ss)))] : FL) = none := by kernel_rfl
theorem q_pw_leaf (p : P4) (x : D) (n : Nat) : G_persons_within C (n + 1) [leafE p, x] m = .ok (.int 1) m := by
  simp [G_persons_within, S_persons_within, leaf_obj, qk_leaf]
theorem q_pw_row (ss : List P4) (x : D) (hl : ss.length ≤ 1000) : G_persons_within C 3 [rowE ss, x] m = .ok (.int ss.length) m := by
  have hl2 : ss.length ≤ 16777216 := by omega
  have c1 := compN_map (g := gName 3) (fe := eCall (G_persons_within C 2) (aCons (eVar 3) (aCons (eVar 1) aNil))) (r := [some (rowE ss), some x, none, none]) (m := m) leafE (fun _ => .int 1) ss hl2 (fun y _ => ⟨_, rfl, by simp [q_pw_leaf]⟩)
  simp only [map_const_rep] at c1
  simp [G_persons_within, S_persons_within, row_obj, qk_row, qp_row, lk_partsR, wjn, wjp, wjr, wipeD] at c1 ⊢
  simp [c1, fSum_rep, row_obj, qk_row, wjr]
theorem q_lv_leaf (p : P4) (x : D) (n : Nat) : G_levels_of C (n + 1) [leafE p, x] m = .ok (.int 1) m := by
  have s1 : fMaxD [.lst []] [.int 0] = some (.int 0) := rfl
  simp [G_levels_of, S_levels_of, leaf_obj, qk_leaf, qp_leaf, lk_parts, wpn, compN, s1]
theorem q_lv_row (ss : List P4) (x : D) (h0 : 0 < ss.length) (hl : ss.length ≤ 1000) : G_levels_of C 3 [rowE ss, x] m = .ok (.int 2) m := by
  have hl2 : ss.length ≤ 16777216 := by omega
  have c1 := compN_map (g := gName 2) (fe := eCall (G_levels_of C 2) (aCons (eVar 2) (aCons (eVar 1) aNil))) (r := [some (rowE ss), some x, none]) (m := m) leafE (fun _ => .int 1) ss hl2 (fun y _ => ⟨_, rfl, by simp [q_lv_leaf]⟩)
  simp only [map_const_rep] at c1
  simp [G_levels_of, S_levels_of, row_obj, qk_row, qp_row, lk_partsR, wjn, wipeD] at c1 ⊢
  simp [c1, fMaxD_rep ss.length h0]
theorem q_lengths (ss : List P4) (hl : ss.length ≤ 1000) : GP_all_lengths C [.dic [(KA, rowE ss)], .lst [.str "a"]] m = .ok (.dic [(KA, .int ss.length)]) m := by
  have e : G_all_lengths C [.dic [(KA, rowE ss)], .lst [.str "a"]] m = .ok (.dic [(KA, .int ss.length)]) (m ++ [none]) := by
    simp [G_all_lengths, S_all_lengths, forN, hxa, q_pw_row ss _ hl, putD, keyD, putKD]
  show popR m _ = _
  rw [e]
  exact popR_tail (by rfl)
theorem q_alevels (ss : List P4) (h0 : 0 < ss.length) (hl : ss.length ≤ 1000) : GP_all_levels C [.dic [(KA, rowE ss)], .lst [.str "a"]] m = .ok (.dic [(KA, .int 2)]) m := by
  have e : G_all_levels C [.dic [(KA, rowE ss)], .lst [.str "a"]] m = .ok (.dic [(KA, .int 2)]) (m ++ [none]) := by
    simp [G_all_levels, S_all_levels, forN, hxa, q_lv_row ss _ h0 hl, putD, keyD, putKD]
  show popR m _ = _
  rw [e]
  exact popR_tail (by rfl)
def sourceD (ss : List P4) : D := .obj 2 ([("own_parts", .dic [(KA, rowE ss)]), ("own_links", .dic [(KA, .lst [])]), ("own_order", .lst [.str "a"]), ("own_sizes", .dic [(KA, .int ss.length)])] : FL)
theorem pg1 (a : D) : putFD "own_parts" a ([] : FL) = ([("own_parts", a)] : FL) := rfl
theorem pg2 (a b : D) : putFD "own_links" b ([("own_parts", a)] : FL) = ([("own_parts", a), ("own_links", b)] : FL) := by kernel_rfl
theorem pg3 (a b c : D) : putFD "own_order" c ([("own_parts", a), ("own_links", b)] : FL) = ([("own_parts", a), ("own_links", b), ("own_order", c)] : FL) := by kernel_rfl
theorem pg4 (a b c d : D) : putFD "own_sizes" d ([("own_parts", a), ("own_links", b), ("own_order", c)] : FL) = ([("own_parts", a), ("own_links", b), ("own_order", c), ("own_sizes", d)] : FL) := by kernel_rfl
theorem lk_namesR (ss : List P4) : List.lookup ("names" : Str) ([("own_kind", .str "join"), ("own_parts", .lst (ss.map leafE)), ("own_times", .non), ("own_nodes", .int (1 + ss.length)), ("own_levels", .int 2), ("own_text", .str (T (rowT ss)))] : FL) = none := by kernel_rfl
theorem init_source (ss : List P4) (h0 : 0 < ss.length) (hl : ss.length ≤ 1000) : G_Source_init C [.loc m.length, .dic [(KA, rowE ss)]] (m ++ [some (.obj 2 [])]) = .ok .non (m ++ [some (sourceD ss)]) := by
  have hs : fSortedS [.dic [(KA, rowE ss)]] = some (.lst [.str "a"]) := by kernel_rfl
  have l1 : ∀ a : D, List.lookup ("own_parts" : Str) ([("own_parts", a)] : FL) = some a := fun a => by kernel_rfl
  have l2 : ∀ a b : D, List.lookup ("own_links" : Str) ([("own_parts", a), ("own_links", b)] : FL) = some b := fun a b => by kernel_rfl
  have l2p : ∀ a b : D, List.lookup ("own_parts" : Str) ([("own_parts", a), ("own_links", b)] : FL) = some a := fun a b => by kernel_rfl
  have l3 : ∀ a b c : D, List.lookup ("own_order" : Str) ([("own_parts", a), ("own_links", b), ("own_order", c)] : FL) = some c := fun a b c => by kernel_rfl
  have l3p : ∀ a b c : D, List.lookup ("own_parts" : Str) ([("own_parts", a), ("own_links", b), ("own_order", c)] : FL) = some a := fun a b c => by kernel_rfl
  have l4 : ∀ a b c d : D, List.lookup ("own_sizes" : Str) ([("own_parts", a), ("own_links", b), ("own_order", c), ("own_sizes", d)] : FL) = some d := fun a b c d => by kernel_rfl
  have l4p : ∀ a b c d : D, List.lookup ("own_parts" : Str) ([("own_parts", a), ("own_links", b), ("own_order", c), ("own_sizes", d)] : FL) = some a := fun a b c d => by kernel_rfl
  have l4o : ∀ a b c d : D, List.lookup ("own_order" : Str) ([("own_parts", a), ("own_links", b), ("own_order", c), ("own_sizes", d)] : FL) = some c := fun a b c d => by kernel_rfl
  have b1 : decide ((1000000000000000000000000000000000000000000000000000000000000 : Int) < ss.length) = false := decide_eq_false (by omega)
  simp [G_Source_init, S_Source_init, q_defs, fldD, hs, compDN, hxa, wipeD, keyD, putKD, pg1, pg2, pg3, pg4, l1, l2, l2p, l3, l3p, l4, l4p, l4o, pairD, kD, row_obj, lk_namesR, q_names_row, outS2, inS2, fss0, dn1, forN, q_reached, di1, q_ordered, q_lengths ss hl, q_alevels ss h0 hl, compN, b1, fAny, blsD, sourceD]
theorem source_pure (ss : List P4) : pureD (sourceD ss) = true := by
  simp [sourceD, pureD, pureF, pureK, pureL, rowE_pure]
theorem q_source (ss : List P4) (h0 : 0 < ss.length) (hl : ss.length ≤ 1000) : mkD 2 (G_Source_init C) [.dic [(KA, rowE ss)]] m = .ok (sourceD ss) m := mk_pure (init_source ss h0 hl) (source_pure ss)
def lineD (ss : List P4) (ring : Bool) : D := .obj 3 ([("own_source", sourceD ss), ("own_part", .str "a"), ("own_kind", .bl ring)] : FL)
theorem ph1 (a : D) : putFD "own_source" a ([] : FL) = ([("own_source", a)] : FL) := rfl
theorem ph2 (a b : D) : putFD "own_part" b ([("own_source", a)] : FL) = ([("own_source", a), ("own_part", b)] : FL) := by kernel_rfl
theorem ph3 (a b c : D) : putFD "own_kind" c ([("own_source", a), ("own_part", b)] : FL) = ([("own_source", a), ("own_part", b), ("own_kind", c)] : FL) := by kernel_rfl
theorem src_obj (ss : List P4) : objD 2 (sourceD ss) m = some ([("own_parts", .dic [(KA, rowE ss)]), ("own_links", .dic [(KA, .lst [])]), ("own_order", .lst [.str "a"]), ("own_sizes", .dic [(KA, .int ss.length)])] : FL) := rfl
theorem src_fp (ss : List P4) : fldD 2 "own_parts" (sourceD ss) m = some (.dic [(KA, rowE ss)]) := by kernel_rfl
theorem src_fl (ss : List P4) : fldD 2 "own_links" (sourceD ss) m = some (.dic [(KA, .lst [])]) := by kernel_rfl
theorem src_fo (ss : List P4) : fldD 2 "own_order" (sourceD ss) m = some (.lst [.str "a"]) := by kernel_rfl
theorem src_fs (ss : List P4) : fldD 2 "own_sizes" (sourceD ss) m = some (.dic [(KA, .int ss.length)]) := by kernel_rfl
theorem q_require (ss : List P4) : G_Source_require C [sourceD ss, .str "a"] m = .ok .non m := by
  simp [G_Source_require, S_Source_require, q_name_a, src_fp, hnia]
theorem src_lk {f : Str} {a b c d : D} (h : decide (f = "own_parts" ∨ f = "own_links" ∨ f = "own_order" ∨ f = "own_sizes") = false) : List.lookup f ([("own_parts", a), ("own_links", b), ("own_order", c), ("own_sizes", d)] : FL) = none := by
  have h := of_decide_eq_false h
  simp only [not_or] at h
  obtain ⟨h1, h2, h3, h4⟩ := h
  simp [List.lookup, beq_eq_false_iff_ne.mpr h1, beq_eq_false_iff_ne.mpr h2, beq_eq_false_iff_ne.mpr h3, beq_eq_false_iff_ne.mpr h4]
theorem sk_require {a b c d : D} : List.lookup ("require" : Str) ([("own_parts", a), ("own_links", b), ("own_order", c), ("own_sizes", d)] : FL) = none := src_lk (by decide +kernel)
theorem sk_length {a b c d : D} : List.lookup ("length" : Str) ([("own_parts", a), ("own_links", b), ("own_order", c), ("own_sizes", d)] : FL) = none := src_lk (by decide +kernel)
theorem sk_uses {a b c d : D} : List.lookup ("uses" : Str) ([("own_parts", a), ("own_links", b), ("own_order", c), ("own_sizes", d)] : FL) = none := src_lk (by decide +kernel)
theorem sk_order {a b c d : D} : List.lookup ("order" : Str) ([("own_parts", a), ("own_links", b), ("own_order", c), ("own_sizes", d)] : FL) = none := src_lk (by decide +kernel)
theorem q_length (ss : List P4) : G_Source_length C [sourceD ss, .str "a"] m = .ok (.int ss.length) m := by
  simp [G_Source_length, S_Source_length, src_obj, sk_require, q_require, src_fs, hxa]
theorem q_contains (ss : List P4) : G_Source_contains C [sourceD ss, .str "a"] m = .ok (.bl true) m := by
  simp [G_Source_contains, S_Source_contains, q_name_a, src_fp, hia]
theorem init_line (ss : List P4) (ring : Bool) (h0 : 3 ≤ ss.length) : G_Line_init C [.loc m.length, sourceD ss, .str "a", .bl ring] (m ++ [some (.obj 3 [])]) = .ok .non (m ++ [some (lineD ss ring)]) := by
  have b1 : decide ((ss.length : Int) < 3) = false := decide_eq_false (by omega)
  cases ring <;> simp [G_Line_init, S_Line_init, src_obj, q_contains, sk_length, q_length, b1, ph1, ph2, ph3, lineD]
theorem line_pure (ss : List P4) (ring : Bool) : pureD (lineD ss ring) = true := by
  simp [lineD, pureD, pureF, source_pure]
theorem q_line (ss : List P4) (ring : Bool) (h0 : 3 ≤ ss.length) (hl : ss.length ≤ 60) : G_law_line C [.lst (ss.map fun p => .str (T (sg p))), .bl ring] m = .ok (lineD ss ring) m := by
  have h1 := mk_pure (m := m) (G := flatK 3 (GK_Line_init C)) (ds := [sourceD ss, .str "a", .bl ring]) (init_line (C := C) ss ring h0) (line_pure ss ring)
  have h2 := q_source (C := C) (m := m) ss (by omega) (by omega)
  have h3 := q_eread (C := C) (m := m) (.adr (C 1)) (ss := ss) (by omega) hl
  have h4 : isAdr (C 3) (some (some (.adr (C 3)))) = true := by simp [isAdr]
  simp [G_law_line, S_law_line, q_join (ss := ss) (by omega), GK_Line_of_text, G_Line_of_text, S_Line_of_text, h4, eDisp, ePairs, keyD, mergeKD, putKD, h3, h2, h1]
end DL
namespace DL
open PySem PySem.Spec PyProof.Rows L2
variable {C : CE} {m : Store}
def stD : P4 → D
  | none => .non
  | some p => .obj 0 ([("own_text", .str (T (sg (some p))))] : FL)
theorem leaf_ft (p : P4) : fldD 1 "own_text" (leafE p) m = some (.str (T (sg p))) := by kernel_rfl
theorem q_istext (p : Bool × Bool × Bool × Bool) : G_is_statement_text C [.str (T (sg (some p)))] m = .ok (.bl true) m := by
  obtain ⟨a, b, c, d⟩ := p
  cases a <;> cases b <;> cases c <;> cases d <;> kernel_rfl
theorem sg_q (p : Bool × Bool × Bool × Bool) : decide (T (sg (some p)) = "?") = false := by
  obtain ⟨a, b, c, d⟩ := p
  cases a <;> cases b <;> cases c <;> cases d <;> decide +kernel
theorem pt1 (a : D) : putFD "own_text" a ([] : FL) = ([("own_text", a)] : FL) := rfl
theorem q_stmt (p : P4) : G_Expression_statement C [leafE p] m = .ok (stD p) m := by
  rcases p with _ | p
  · have w : decide (T (sg none) = "?") = true := by decide +kernel
    simp [G_Expression_statement, S_Expression_statement, leaf_fk, leaf_ft, w, stD]
  · have hi : G_Statement_init C [.loc m.length, .str (T (sg (some p)))] (m ++ [some (.obj 0 [])]) = .ok .non (m ++ [some (stD (some p))]) := by
      simp [G_Statement_init, S_Statement_init, q_istext, pt1, stD]
    have h := mk_pure (m := m) hi (by rfl)
    simp [G_Expression_statement, S_Expression_statement, leaf_fk, leaf_ft, sg_q, h]
theorem q_wo_leaf (p : P4) (x : D) (n : Nat) : G_written_out C (n + 1) [leafE p, x] m = .ok (.lst [stD p]) m := by
  simp [G_written_out, S_written_out, leaf_obj, qk_leaf, q_stmt]
theorem loop_W (x : D) (r : D) (C : CE) : ∀ (ss : List P4) (xs : List D) (x3 : Option D), xs.length + ss.length ≤ 1000 →
    ∃ y3, forN (gName 3) (sSet 2 (eBin dAdd (eVar 2) (eCall (G_written_out C 2) (aCons (eVar 3) (aCons (eVar 1) (aNil)))))) (ss.map leafE) [some r, some x, some (.lst xs), x3] m = .nx [some r, some x, some (.lst (xs ++ ss.map stD)), y3] m
  | [], xs, x3, _ => ⟨x3, by simp [forN]⟩
  | p :: ss, xs, x3, hl => by
    simp only [List.length_cons] at hl
    obtain ⟨y3, h⟩ := loop_W x r C ss (xs ++ [stD p]) (some (leafE p)) (by simp; omega)
    refine ⟨y3, ?_⟩
    have hl2 : xs.length + 1 ≤ 16777216 := by omega
    rw [List.map_cons, forN_nx (r1 := [some r, some x, some (.lst xs), some (leafE p)]) (r2 := [some r, some x, some (.lst (xs ++ [stD p])), some (leafE p)]) (m2 := m) (by simp) (by simp [q_wo_leaf, hl2]), h]
    simp
theorem q_wo_row (ss : List P4) (x : D) (hl : ss.length ≤ 1000) : G_written_out C 3 [rowE ss, x] m = .ok (.lst (ss.map stD)) m := by
  obtain ⟨y3, h⟩ := loop_W (m := m) x (rowE ss) C ss [] none (by simpa using hl)
  simp [G_written_out, S_written_out, row_obj, qk_row, qp_row, lk_partsR, wjn, wjp, wjr, wjm] at h ⊢
  simp [h, row_obj, qk_row, wjr, wjm]
theorem line_obj (ss : List P4) (ring : Bool) : objD 3 (lineD ss ring) m = some ([("own_source", sourceD ss), ("own_part", .str "a"), ("own_kind", .bl ring)] : FL) := rfl
theorem q_lsource (ss : List P4) (ring : Bool) : G_Line_source C [lineD ss ring] m = .ok (sourceD ss) m := by kernel_rfl
theorem q_lpart (ss : List P4) (ring : Bool) : G_Line_part C [lineD ss ring] m = .ok (.str "a") m := by kernel_rfl
theorem q_lring (ss : List P4) (ring : Bool) : G_Line_is_ring C [lineD ss ring] m = .ok (.bl ring) m := by kernel_rfl
theorem q_order (ss : List P4) : G_Source_order C [sourceD ss] m = .ok (.lst [.str "a"]) m := by
  simp [G_Source_order, S_Source_order, src_fo, fList]
theorem q_uses (ss : List P4) : G_Source_uses C [sourceD ss, .str "a"] m = .ok (.lst []) m := by
  simp [G_Source_uses, S_Source_uses, src_obj, sk_require, q_require, src_fl, q_reached]
theorem q_sget (ss : List P4) : G_Source_getitem C [sourceD ss, .str "a"] m = .ok (rowE ss) m := by
  simp [G_Source_getitem, S_Source_getitem, q_name_a, src_fp, hnia, hxa]
theorem lline_fs (ss : List P4) (ring : Bool) : fldD 3 "own_source" (lineD ss ring) m = some (sourceD ss) := by kernel_rfl
theorem lline_fp (ss : List P4) (ring : Bool) : fldD 3 "own_part" (lineD ss ring) m = some (.str "a") := by kernel_rfl
theorem q_size (ss : List P4) (ring : Bool) : G_Line_size C [lineD ss ring] m = .ok (.int ss.length) m := by
  simp [G_Line_size, S_Line_size, lline_fs, lline_fp, src_obj, sk_length, q_length]
theorem stD_pure (ss : List P4) : pureL (ss.map stD) = true := by
  induction ss with
  | nil => rfl
  | cons p ss ih => rcases p with _ | p <;> simp [pureL, stD, pureD, pureF, ih]
theorem q_persons (ss : List P4) (ring : Bool) (hl : ss.length ≤ 1000) : GP_persons_of C [lineD ss ring] m = .ok (.lst (ss.map stD)) m := by
  have hw := fun x m => q_wo_row (C := C) (m := m) ss x hl
  have e : G_persons_of C [lineD ss ring] m = .ok (.lst (ss.map stD)) (m ++ [some (.dic [(KA, .lst (ss.map stD))])]) := by
    simp [G_persons_of, S_persons_of, line_obj, q_lsource, q_lpart, src_obj, sk_uses, q_uses, sk_order, q_order, forN, di1, q_sget, hw, putD, keyD, putKD, hxa, fList]
  show popR m _ = _
  rw [e]
  exact popR_tail (by simpa [pureD] using stD_pure ss)
/-! ### pairs -/
abbrev Pr : Type := Bool × Bool
def lt : Bool → Str
  | true => "T"
  | false => "L"
def prS : Pr → Str
  | (true, true) => "TT"
  | (true, false) => "TL"
  | (false, true) => "LT"
  | (false, false) => "LL"
abbrev prD (q : Pr) : D := .str (prS q)
def pairs4 : List Pr := [(true, true), (true, false), (false, true), (false, false)]
def fit : P4 → Bool → Bool → Bool → Bool
  | none, _, _, _ => true
  | some (a, b, c, d), l, o, r => o == (match l, r with | true, true => a | true, false => b | false, true => c | false, false => d)
def nx (p : P4) (q : Pr) : List Pr := [(q.2, true), (q.2, false)].filter fun r => fit p q.1 q.2 r.2
theorem q_next (p : P4) (q : Pr) : G_next_pairs C [stD p, prD q] m = .ok (.lst ((nx p q).map prD)) m := by
  obtain ⟨q1, q2⟩ := q
  rcases p with _ | ⟨a, b, c, d⟩
  · cases q1 <;> cases q2 <;> kernel_rfl
  · cases q1 <;> cases q2 <;> cases a <;> cases b <;> cases c <;> cases d <;> kernel_rfl
end DL
namespace DL
open PySem PySem.Spec PyProof.Rows L2
variable {C : CE} {m : Store}
/-! ### facts -/
abbrev Fc : Type := Nat → Option Bool
def FR (m : Store) (d : D) (φ : Fc) : Prop := ∃ kvs : List (Key × D), vw m d = .dic kvs ∧ ∀ k : Nat, valD kvs (.inl (k : Int)) = (φ k).map fun b => .str (lt b)
def al (φ : Fc) (k : Nat) (q : Pr) : Bool := match φ k with
  | none => true
  | some b => b == q.2
theorem dIx_pr (q : Pr) : dIx (prD q) (.int 1) = some (.str (lt q.2)) := by
  obtain ⟨a, b⟩ := q
  cases a <;> cases b <;> kernel_rfl
theorem lt_eq (a b : Bool) : decide (lt a = lt b) = (a == b) := by cases a <;> cases b <;> decide +kernel
theorem q_allows {d : D} {φ : Fc} (h : FR m d φ) (k : Nat) (q : Pr) : G_allows_pair C [d, .int k, prD q] m = .ok (.bl (al φ k q)) m := by
  obtain ⟨kvs, hd, hv⟩ := h
  have h1 : dNotIn (.int k) (.dic kvs) = some (.bl (!(valD kvs (.inl (k : Int))).isSome)) := by simp [dNotIn, inD, keyD]
  have h2 : dIx (.dic kvs) (.int k) = valD kvs (.inl (k : Int)) := by simp [dIx, keyD]
  have h3 := dIx_pr q
  rw [hv] at h1 h2
  unfold al
  cases hp : φ k with
  | none => rw [hp] at h1; simp [G_allows_pair, S_allows_pair, hd, h1]
  | some b => rw [hp] at h1 h2; simp [G_allows_pair, S_allows_pair, hd, h1, h2, h3, lt_eq]
/-! ### the set of those that follow -/
theorem inS2_of {g1 : DG} {fe : DE} {r : DEnv} : ∀ (zs : List Str) (ks : List Str), ks.length + zs.length ≤ 4000 → (∀ z ∈ zs, ∃ r', g1 (.str z) r = some r' ∧ fe r' m = .ok (.str z) m) → inS2 g1 dTrue fe r (zs.map D.str) ks m = .ok (zs.foldl addS ks) m
  | [], ks, _, _ => rfl
  | z :: zs, ks, hl, h => by
    obtain ⟨r', h1, h2⟩ := h z (List.mem_cons_self ..)
    simp only [List.length_cons] at hl
    have hk : (addS ks z).length ≤ ks.length + 1 := by unfold addS; split <;> simp
    have ih := inS2_of (g1 := g1) (fe := fe) (r := r) zs (addS ks z) (by omega) fun y hy => h y (List.mem_cons_of_mem _ hy)
    have hl2 : ks.length + 1 < 4096 := by omega
    simp [inS2, h1, h2, strD, hl2, ih]
theorem foldl_addS_len : ∀ (zs ks : List Str), (zs.foldl addS ks).length ≤ ks.length + zs.length
  | [], ks => by simp
  | z :: zs, ks => by
    have h1 := foldl_addS_len zs (addS ks z)
    have hk : (addS ks z).length ≤ ks.length + 1 := by unfold addS; split <;> simp
    simp only [List.foldl_cons, List.length_cons]; omega
theorem mem_foldl_addS (x : Str) : ∀ (zs ks : List Str), x ∈ zs.foldl addS ks ↔ x ∈ ks ∨ x ∈ zs
  | [], ks => by simp
  | z :: zs, ks => by
    rw [List.foldl_cons, mem_foldl_addS x zs]
    unfold addS
    split
    · rename_i h
      constructor
      · rintro (h1 | h1)
        · exact .inl h1
        · exact .inr (List.mem_cons_of_mem _ h1)
      · rintro (h1 | h1)
        · exact .inl h1
        · rcases List.mem_cons.mp h1 with rfl | h1
          · exact .inl h
          · exact .inr h1
    · simp only [List.mem_append, List.mem_cons, List.not_mem_nil, or_false]; exact or_assoc
def folS (inn : Pr → List Str) (ys : List Pr) (ks : List Str) : List Str := ys.foldl (fun ks y => (inn y).foldl addS ks) ks
theorem outS2_of {vs1 : List Nat} {g g1 : DG} {fi1 : DA} {fe : DE} {r : DEnv} (inn : Pr → List Str) (hi : ∀ y, (inn y).length ≤ 4) : ∀ (ys : List Pr) (ks : List Str), ks.length + 4 * ys.length ≤ 4000 →
    (∀ y ∈ ys, ∃ r', g (prD y) r = some r' ∧ fi1 r' m = .ok ((inn y).map D.str) m ∧ ∀ z ∈ inn y, ∃ r'', g1 (.str z) (wipeD r' vs1) = some r'' ∧ fe r'' m = .ok (.str z) m) →
    outS2 vs1 g dTrue fi1 g1 dTrue fe r (ys.map prD) ks m = .ok (folS inn ys ks) m
  | [], ks, _, _ => rfl
  | y :: ys, ks, hl, h => by
    obtain ⟨r', h1, h2, h3⟩ := h y (List.mem_cons_self ..)
    simp only [List.length_cons] at hl
    have hy := hi y
    have e1 := inS2_of (m := m) (g1 := g1) (fe := fe) (r := wipeD r' vs1) (inn y) ks (by omega) h3
    have hk := foldl_addS_len (inn y) ks
    have ih := outS2_of (vs1 := vs1) (g := g) (g1 := g1) (fi1 := fi1) (fe := fe) (r := r) inn hi ys ((inn y).foldl addS ks) (by omega) fun z hz => h z (List.mem_cons_of_mem _ hz)
    simp only [List.map_cons, outS2, h1, dTrue_ap, noX_ok, bind_ok, if_true, h2, e1, ih]
    rfl
theorem mem_folS (inn : Pr → List Str) (x : Str) : ∀ (ys : List Pr) (ks : List Str), x ∈ folS inn ys ks ↔ x ∈ ks ∨ ∃ y ∈ ys, x ∈ inn y
  | [], ks => by simp [folS]
  | y :: ys, ks => by
    have ih := mem_folS inn x ys ((inn y).foldl addS ks)
    show x ∈ folS inn ys ((inn y).foldl addS ks) ↔ _
    rw [ih, mem_foldl_addS]
    simp only [List.mem_cons, exists_eq_or_imp]
    exact or_assoc
theorem prS_inj : ∀ p q : Pr, prS p = prS q → p = q := by
  rintro ⟨a, b⟩ ⟨c, d⟩ h
  cases a <;> cases b <;> cases c <;> cases d <;> first | rfl | exact absurd h (by decide +kernel)
def stp (φ : Fc) (p : P4) (k : Nat) (cur : List Pr) : List Pr := pairs4.filter fun q => (cur.any fun c => (nx p c).contains q) && al φ k q
def rch (φ : Fc) : List P4 → Nat → List Pr → List (List Pr)
  | [], _, cur => [cur]
  | p :: ps, k, cur => cur :: rch φ ps (k + 1) (stp φ p (k + 1) cur)
abbrev plD (l : List Pr) : D := .lst (l.map prD)
theorem nx_len (p : P4) (q : Pr) : ((nx p q).map prS).length ≤ 4 := by
  rw [List.length_map]
  exact Nat.le_trans (List.length_filter_le ..) (by simp)
theorem setIn (p : P4) (cur : List Pr) (q : Pr) : decide (prS q ∈ folS (fun c => (nx p c).map prS) cur []) = cur.any fun c => (nx p c).contains q := by
  rw [Bool.eq_iff_iff, decide_eq_true_eq, List.any_eq_true, mem_folS]
  simp only [List.not_mem_nil, false_or, List.mem_map, List.contains_iff_mem]
  constructor
  · rintro ⟨y, hy, z, hz, e⟩
    exact ⟨y, hy, by rw [← prS_inj _ _ e]; exact hz⟩
  · rintro ⟨y, hy, hz⟩
    exact ⟨y, hy, q, hz, rfl⟩
noncomputable abbrev bodyP (C : CE) : DS := (sCons (sSet 6 (eSc2 [7, 8] [8] (iSeq (eBin dIx (eVar 3) (eNeg (eC (.int 1))))) (gName 7) (dTrue) (iSeq (eCall (G_next_pairs C) (aCons (eVar 5) (aCons (eVar 7) (aNil))))) (gName 8) (dTrue) (eVar 8))) <|
    sExpr (eOnL appD (eVar 3) (eLc [7] (iSeq (eC (.tup [(.str "TT"), (.str "TL"), (.str "LT"), (.str "LL")]))) (gName 7) (eAnd (eTest (eBin dInS (eVar 7) (eVar 6))) (eTest (eCall (G_allows_pair C) (aCons (eVar 2) (aCons (eBin dAdd (eVar 4) (eC (.int 1))) (aCons (eVar 7) (aNil))))))) (eVar 7))))
theorem atI_last {α : Type} (xs : List α) (x : α) : atI (xs ++ [x]) (-1) = some x := by
  unfold atI ixN
  rw [if_neg (by omega), if_pos (by simp <;> omega)]
  have e : ((-1 : Int) + ((xs ++ [x]).length : Nat)).toNat = xs.length := by simp; omega
  show (some (((-1 : Int) + ((xs ++ [x]).length : Nat)).toNat)).bind _ = _
  rw [e]; simp
theorem pairs_eq : [(.str "TT" : D), .str "TL", .str "LT", .str "LL"] = pairs4.map prD := rfl
theorem body_P {φ : Fc} {f : D} {n : Nat} {xs : List D} {cur : List Pr} {p : P4} {k : Nat} {x0 x1 x6 x7 x8 : Option D} (hf : FR m f φ) (hm : m[n]? = some (some (.lst (xs ++ [plD cur])))) (hx : xs.length ≤ 1000) (hc : cur.length ≤ 900) :
    ∃ y6, bodyP C [x0, x1, some f, some (.loc n), some (.int k), some (stD p), x6, x7, x8] m = .nx [x0, x1, some f, some (.loc n), some (.int k), some (stD p), y6, x7, x8] (m.set n (some (.lst (xs ++ [plD cur] ++ [plD (stp φ p (k + 1) cur)])))) := by
  refine ⟨some (.set (folS (fun c => (nx p c).map prS) cur [])), ?_⟩
  have o1 := fun x7 x8 => outS2_of (m := m) (vs1 := [8]) (g := gName 7) (g1 := gName 8) (fi1 := iSeq (eCall (G_next_pairs C) (aCons (eVar 5) (aCons (eVar 7) (aNil))))) (fe := eVar 8) (r := [x0, x1, some f, some (.loc n), some (.int k), some (stD p), x6, x7, x8]) (fun c => (nx p c).map prS) (nx_len p) cur [] (by simp; omega) (fun y _ => ⟨_, rfl, by simp [q_next], fun z _ => ⟨_, rfl, by simp [wipeD]⟩⟩)
  have c1 := fun x7 => compN_of (m := m) (g := gName 7) (ft := eAnd (eTest (eBin dInS (eVar 7) (eVar 6))) (eTest (eCall (G_allows_pair C) (aCons (eVar 2) (aCons (eBin dAdd (eVar 4) (eC (.int 1))) (aCons (eVar 7) (aNil))))))) (fe := eVar 7)
    (r := [x0, x1, some f, some (.loc n), some (.int k), some (stD p), some (.set (folS (fun c => (nx p c).map prS) cur [])), x7, x8]) prD prD (fun q => (cur.any fun c => (nx p c).contains q) && al φ (k + 1) q) pairs4 [] (by simp [pairs4]) (fun q _ => ⟨_, rfl, by
      have ha := q_allows (C := C) hf (k + 1) q
      have hs := setIn p cur q
      have e1 : ((k + 1 : Nat) : Int) = (k : Int) + 1 := by omega
      rw [e1] at ha
      have h3 : dInS (prD q) (.set (folS (fun c => (nx p c).map prS) cur [])) = some (.bl (cur.any fun c => (nx p c).contains q)) := by rw [← hs]; rfl
      generalize (cur.any fun c => (nx p c).contains q) = bb at h3 ⊢
      cases bb <;> simp [h3, ha], fun _ => by simp⟩)
  have hm1 := lstAt_loc _ hm
  have hl2 : xs.length + 1 < 16777216 := by omega
  simp only [pairs_eq, sCons_ap, sSet_ap, eSc2_ap, iSeq_ap, eBin_ap, eVar_ap, eNeg_ap, eC_ap]
  simp [hm, atI_last, wipeD, o1, c1, hm1, appD, hl2, stp]
end DL
namespace DL
open PySem PySem.Spec PyProof.Rows L2
variable {C : CE} {m : Store}
theorem stp_len (φ : Fc) (p : P4) (k : Nat) (cur : List Pr) : (stp φ p k cur).length ≤ 4 := Nat.le_trans (List.length_filter_le ..) (by simp [pairs4])
/-- facts at a later store: the same object -/
theorem FR.of_val {kvs : List (Key × D)} {φ : Fc} (h : ∀ k : Nat, valD kvs (.inl (k : Int)) = (φ k).map fun b => .str (lt b)) (m : Store) : FR m (.dic kvs) φ := ⟨kvs, rfl, h⟩
/-- facts that stay so when cells behind n change -/
def FRs (B : Nat) (m : Store) (d : D) (φ : Fc) : Prop := ∀ m' : Store, m'.take B = m.take B → FR m' d φ
theorem FRs.at_ {B : Nat} {m : Store} {d : D} {φ : Fc} (h : FRs B m d φ) : FR m d φ := h m rfl
theorem FRs.next {B : Nat} {m m' : Store} {d : D} {φ : Fc} (h : FRs B m d φ) (e : m'.take B = m.take B) : FRs B m' d φ := fun m2 e2 => h m2 (e2.trans e)
theorem FRs.val {kvs : List (Key × D)} {φ : Fc} (h : ∀ k : Nat, valD kvs (.inl (k : Int)) = (φ k).map fun b => .str (lt b)) (B : Nat) (m : Store) : FRs B m (.dic kvs) φ := fun m' _ => ⟨kvs, rfl, h⟩
theorem FRs.cell {kvs : List (Key × D)} {φ : Fc} {n B : Nat} {m : Store} (hn : n < B) (hm : m[n]? = some (some (.dic kvs))) (h : ∀ k : Nat, valD kvs (.inl (k : Int)) = (φ k).map fun b => .str (lt b)) : FRs B m (.loc n) φ := fun m' e => by
  refine ⟨kvs, ?_, h⟩
  have : m'[n]? = m[n]? := by
    have h1 : (m'.take B)[n]? = (m.take B)[n]? := by rw [e]
    simpa [List.getElem?_take, hn] using h1
  rw [vw_locE, this, hm]
theorem take_set_ge {m : Store} {B n : Nat} {d : Option D} (h : B ≤ n) : (m.set n d).take B = m.take B := by
  apply List.ext_getElem?
  intro i
  rw [List.getElem?_take, List.getElem?_take]
  split
  · rw [List.getElem?_set_ne (by omega)]
  · rfl
theorem take_app {m t : Store} {B : Nat} (h : B ≤ m.length) : (m ++ t).take B = m.take B := List.take_append_of_le_length h
theorem loop_P {φ : Fc} {f : D} {n B : Nat} (hB : B ≤ n) (x0 x1 x7 x8 : Option D) : ∀ (ss : List P4) (k : Nat) (m : Store) (xs : List D) (cur : List Pr) (x4 x5 x6 : Option D), FRs B m f φ → m[n]? = some (some (.lst (xs ++ [plD cur]))) → xs.length + ss.length ≤ 1000 → cur.length ≤ 900 →
    ∃ y4 y5 y6, forN (gTupD (gsCons (gName 4) (gsCons (gName 5) (gsNil)))) (bodyP C) ((ss.zipIdx k).map fun p => .tup [.int (p.2 : Nat), stD p.1]) [x0, x1, some f, some (.loc n), x4, x5, x6, x7, x8] m = .nx [x0, x1, some f, some (.loc n), y4, y5, y6, x7, x8] (m.set n (some (.lst (xs ++ (rch φ ss k cur).map plD))))
  | [], k, m, xs, cur, x4, x5, x6, hf, hm, hx, hc => ⟨x4, x5, x6, by simp only [List.zipIdx_nil, List.map_nil, forN_nil, rch, List.map_cons]; rw [set_same hm]⟩
  | p :: ss, k, m, xs, cur, x4, x5, x6, hf, hm, hx, hc => by
    simp only [List.length_cons] at hx
    obtain ⟨y6, hb⟩ := body_P (C := C) (x0 := x0) (x1 := x1) (x6 := x6) (x7 := x7) (x8 := x8) (p := p) (k := k) hf.at_ hm (by omega) hc
    have hm2 := set_at (e := some (.lst (xs ++ [plD cur] ++ [plD (stp φ p (k + 1) cur)]))) hm
    obtain ⟨z4, z5, z6, h⟩ := loop_P hB x0 x1 x7 x8 ss (k + 1) (m.set n (some (.lst (xs ++ [plD cur] ++ [plD (stp φ p (k + 1) cur)])))) (xs ++ [plD cur]) (stp φ p (k + 1) cur) (some (.int k)) (some (stD p)) y6 (hf.next (take_set_ge hB)) hm2 (by simp; omega) (Nat.le_trans (stp_len ..) (by omega))
    refine ⟨z4, z5, z6, ?_⟩
    rw [List.zipIdx_cons, List.map_cons, forN_nx (r1 := [x0, x1, some f, some (.loc n), some (.int k), some (stD p), x6, x7, x8]) (by simp) hb, h]
    simp [rch]
theorem enum_eq (ss : List P4) : ((ss.map stD).zipIdx.map fun p => (.tup [.int (p.2 : Nat), p.1] : D)) = (ss.zipIdx 0).map fun p => .tup [.int (p.2 : Nat), stD p.1] := by
  rw [List.zipIdx_map, List.map_map]; rfl
def RP (φ : Fc) (ss : List P4) (st : Pr) : List (List Pr) := rch φ ss 0 (if al φ 0 st = true then [st] else [])
theorem prl_pure (l : List Pr) : pureL (l.map prD) = true := by
  induction l with
  | nil => rfl
  | cons q l ih => simp [pureL, pureD, ih]
theorem pll_pure (l : List (List Pr)) : pureL (l.map plD) = true := by
  induction l with
  | nil => rfl
  | cons q l ih => simp [pureL, pureD, ih, prl_pure]
theorem q_reach {φ : Fc} {f : D} {ss : List P4} {st : Pr} (hf : FRs m.length m f φ) (hl : ss.length ≤ 900) : GP_reached_pairs C [.lst (ss.map stD), prD st, f] m = .ok (.lst ((RP φ ss st).map plD)) m := by
  have ha : G_allows_pair C [f, .int 0, prD st] m = .ok (.bl (al φ 0 st)) m := q_allows (C := C) hf.at_ 0 st
  have hf2 : ∀ d : Option D, FRs m.length (m ++ [d]) f φ := fun d => hf.next (take_app (Nat.le_refl _))
  have key : ∀ cur : List Pr, cur.length ≤ 1 → ∃ y4 y5 y6, forN (gTupD (gsCons (gName 4) (gsCons (gName 5) (gsNil)))) (bodyP C) ((ss.zipIdx 0).map fun p => .tup [.int (p.2 : Nat), stD p.1]) [some (.lst (ss.map stD)), some (prD st), some f, some (.loc m.length), none, none, none, none, none] (m ++ [some (.lst [plD cur])]) = .nx [some (.lst (ss.map stD)), some (prD st), some f, some (.loc m.length), y4, y5, y6, none, none] (m ++ [some (.lst ((rch φ ss 0 cur).map plD))]) := fun cur hc => by
    obtain ⟨y4, y5, y6, h⟩ := loop_P (C := C) (B := m.length) (n := m.length) (Nat.le_refl _) (some (.lst (ss.map stD))) (some (prD st)) none none ss 0 (m ++ [some (.lst [plD cur])]) [] cur none none none (hf2 _) (by simp) (by simp; omega) (by omega)
    exact ⟨y4, y5, y6, by rw [h]; simp⟩
  have e : G_reached_pairs C [.lst (ss.map stD), prD st, f] m = .ok (.lst ((RP φ ss st).map plD)) (m ++ [none]) := by
    cases hh : al φ 0 st with
    | true =>
      rw [hh] at ha
      obtain ⟨y4, y5, y6, h⟩ := key [st] (by simp)
      simp only [plD, List.map_cons, List.map_nil, prD] at h ha ⊢
      simp [G_reached_pairs, S_reached_pairs, ha, enum_eq, h, RP, hh]
    | false =>
      rw [hh] at ha
      obtain ⟨y4, y5, y6, h⟩ := key [] (by simp)
      simp only [plD, List.map_cons, List.map_nil, prD] at h ha ⊢
      simp [G_reached_pairs, S_reached_pairs, ha, enum_eq, h, RP, hh]
  show popR m _ = _
  rw [e]
  exact popR_tail (by simpa [pureD] using pll_pure _)
end DL
namespace DL
open PySem PySem.Spec PyProof.Rows L2
variable {C : CE} {m : Store}
theorem flats_pr (l : List Pr) : flatsD (l.map prD) = some (l.map fun q => V.str (prS q)) := by
  induction l with
  | nil => rfl
  | cons q l ih => simp [flatsD, flatD, ih]
theorem eqV_pr (a b : Pr) : eqV (V.str (prS a)) (V.str (prS b)) = (a == b) := by
  obtain ⟨a1, a2⟩ := a
  obtain ⟨b1, b2⟩ := b
  cases a1 <;> cases a2 <;> cases b1 <;> cases b2 <;> kernel_rfl
theorem inV_pr (q : Pr) (l : List Pr) : inV (V.str (prS q)) (l.map fun q => V.str (prS q)) = l.contains q := by
  unfold inV
  rw [List.any_map]
  induction l with
  | nil => rfl
  | cons a l ih => simp only [List.any_cons, Function.comp, eqV_pr, List.contains_cons] at ih ⊢; rw [ih, Bool.beq_comm]
theorem dIn_pl (q : Pr) (l : List Pr) : dIn (prD q) (plD l) = some (.bl (decide (q ∈ l))) := by
  simp [dIn, inD, flatD, flats_pr, inV_pr]
theorem dIn_pt (q : Pr) (l : List Pr) : dIn (prD q) (.tup (l.map prD)) = some (.bl (decide (q ∈ l))) := by
  simp [dIn, inD, flatD, flats_pr, inV_pr]
noncomputable abbrev bodyL (C : CE) : DS := (sCons (sSet 5 (eBin dIx (eVar 3) (eNeg (eC (.int 1))))) <|
    sCons (sSet 6 (eLc [7] (iSeq (eBin dIx (eVar 1) (eVar 4))) (gName 7) (eTest (eCB fAny (aCons (eLc [8] (iSeq (eCall (G_next_pairs C) (aCons (eBin dIx (eVar 0) (eVar 4)) (aCons (eVar 7) (aNil))))) (gName 8) (dTrue) (eBin dIn (eVar 8) (eVar 5))) (aNil)))) (eVar 7))) <|
    sExpr (eOnL appD (eVar 3) (eVar 6)))
def led (E : List Pr) : List P4 → List (List Pr) → List (List Pr)
  | [], pls => [(pls.headD []).filter (fun a => decide (a ∈ E))]
  | p :: ps, pls => let r := led E ps pls.tail; ((pls.headD []).filter fun q => (nx p q).any (fun a => decide (a ∈ r.headD []))) :: r
theorem led_head (E : List Pr) (ps : List P4) (pls : List (List Pr)) : ∃ h t, led E ps pls = h :: t := by
  cases ps <;> exact ⟨_, _, rfl⟩
theorem any_dIn (p : P4) (q : Pr) (l : List Pr) : fAny [.lst ((nx p q).map fun a => .bl (decide (a ∈ l)))] = some (.bl ((nx p q).any (fun a => decide (a ∈ l)))) := by
  show (match blsD ((nx p q).map fun a => .bl (decide (a ∈ l))) with | some l => some (D.bl (l.any id)) | none => none) = _
  rw [blsD_of]
  simp [List.any_map, Function.comp_def]
theorem body_L {n : Nat} {ss : List P4} {pls : List (List Pr)} {rest : List D} {h0 : List Pr} {j : Nat} {p : P4} {pl : List Pr} {x2 x5 x6 x7 x8 : Option D} (hm : m[n]? = some (some (.lst (rest ++ [plD h0])))) (hr : rest.length ≤ 1000) (hp : ss[j]? = some p) (hq : pls[j]? = some pl) (hl : pl.length ≤ 1000) :
    ∃ y5 y6, bodyL C [some (.lst (ss.map stD)), some (.lst (pls.map plD)), x2, some (.loc n), some (.int j), x5, x6, x7, x8] m = .nx [some (.lst (ss.map stD)), some (.lst (pls.map plD)), x2, some (.loc n), some (.int j), y5, y6, x7, x8] (m.set n (some (.lst (rest ++ [plD h0] ++ [plD (pl.filter fun q => (nx p q).any (fun a => decide (a ∈ h0)))])))) := by
  refine ⟨some (plD h0), some (plD (pl.filter fun q => (nx p q).any (fun a => decide (a ∈ h0)))), ?_⟩
  have e1 : atI (ss.map stD) (j : Int) = some (stD p) := by rw [atI_nat, List.getElem?_map, hp]; rfl
  have e2 : atI (pls.map plD) (j : Int) = some (plD pl) := by rw [atI_nat, List.getElem?_map, hq]; rfl
  have c2 := fun x7 q => compN_map (m := m) (g := gName 8) (fe := eBin dIn (eVar 8) (eVar 5)) (r := [some (.lst (ss.map stD)), some (.lst (pls.map plD)), x2, some (.loc n), some (.int j), some (plD h0), x6, x7, none]) prD (fun a => .bl (decide (a ∈ h0))) (nx p q) (Nat.le_trans (List.length_filter_le ..) (by simp)) (fun a _ => ⟨_, rfl, by
    have := dIn_pl a h0
    simp [this]⟩)
  have vs : ∀ p, vw m (stD p) = stD p := fun p => by cases p <;> rfl
  have c1 := compN_of (m := m) (g := gName 7) (ft := eTest (eCB fAny (aCons (eLc [8] (iSeq (eCall (G_next_pairs C) (aCons (eBin dIx (eVar 0) (eVar 4)) (aCons (eVar 7) (aNil))))) (gName 8) (dTrue) (eBin dIn (eVar 8) (eVar 5))) (aNil)))) (fe := eVar 7)
    (r := [some (.lst (ss.map stD)), some (.lst (pls.map plD)), x2, some (.loc n), some (.int j), some (plD h0), x6, none, x8]) prD prD (fun q => (nx p q).any (fun a => decide (a ∈ h0))) pl [] (by simp; omega) (fun q _ => ⟨_, rfl, by
      have hn := q_next (C := C) (m := m) p q
      have ha := any_dIn p q h0
      simp only [prD] at hn
      simp [e1, hn, wipeD, c2, ha], fun _ => by simp⟩)
  have hm1 := lstAt_loc _ hm
  have hl2 : rest.length + 1 < 16777216 := by omega
  simp [hm, atI_last, e2, wipeD, c1, hm1, appD, hl2]
theorem loop_L {n : Nat} {ss : List P4} {pls : List (List Pr)} {E : List Pr} (hlen : ss.length < pls.length) (hs : ss.length ≤ 900) (hc : ∀ l ∈ pls, l.length ≤ 1000) (x2 x7 x8 : Option D) : ∀ (j : Nat) (m : Store) (x4 x5 x6 : Option D), j ≤ ss.length → m[n]? = some (some (.lst ((led E (ss.drop j) (pls.drop j)).reverse.map plD))) →
    ∃ y4 y5 y6, forN (gName 4) (bodyL C) ((List.range j).map fun (i : Nat) => .int ((j : Int) - 1 - i)) [some (.lst (ss.map stD)), some (.lst (pls.map plD)), x2, some (.loc n), x4, x5, x6, x7, x8] m = .nx [some (.lst (ss.map stD)), some (.lst (pls.map plD)), x2, some (.loc n), y4, y5, y6, x7, x8] (m.set n (some (.lst ((led E ss pls).reverse.map plD))))
  | 0, m, x4, x5, x6, hj, hm => ⟨x4, x5, x6, by simp only [List.range_zero, List.map_nil, forN_nil]; simp only [List.drop_zero] at hm; rw [set_same hm]⟩
  | j + 1, m, x4, x5, x6, hj, hm => by
    have hp : ss[j]? = some ss[j] := List.getElem?_eq_getElem _
    have hq : pls[j]? = some pls[j] := List.getElem?_eq_getElem _
    obtain ⟨h0, t0, e0⟩ := led_head E (ss.drop (j + 1)) (pls.drop (j + 1))
    have ed : led E (ss.drop j) (pls.drop j) = (pls[j].filter fun q => (nx ss[j] q).any (fun a => decide (a ∈ h0))) :: (h0 :: t0) := by
      rw [List.drop_eq_getElem_cons (by omega : j < ss.length), List.drop_eq_getElem_cons (by omega : j < pls.length)]
      simp only [led, List.headD_cons, List.tail_cons, e0]
    have hll : ∀ ps pls, (led E ps pls).length = ps.length + 1 := fun ps => by
      induction ps with
      | nil => intro _; rfl
      | cons p ps ih => intro pls; simp [led, ih]
    have ht : t0.length ≤ 1000 := by
      have := hll (ss.drop (j + 1)) (pls.drop (j + 1))
      rw [e0] at this; simp at this; omega
    have hm' : m[n]? = some (some (.lst (t0.reverse.map plD ++ [plD h0]))) := by rw [hm, e0]; simp
    obtain ⟨y5, y6, hb⟩ := body_L (C := C) (x2 := x2) (x5 := x5) (x6 := x6) (x7 := x7) (x8 := x8) (rest := t0.reverse.map plD) (j := j) hm' (by simp; omega) hp hq (hc _ (List.getElem_mem _))
    have hm2 := set_at (e := some (.lst (t0.reverse.map plD ++ [plD h0] ++ [plD (pls[j].filter fun q => (nx ss[j] q).any (fun a => decide (a ∈ h0)))]))) hm'
    obtain ⟨z4, z5, z6, h⟩ := loop_L hlen hs hc x2 x7 x8 j _ (some (.int j)) y5 y6 (by omega) (by rw [hm2, ed]; simp)
    refine ⟨z4, z5, z6, ?_⟩
    have er : ((List.range (j + 1)).map fun (i : Nat) => (.int (((j + 1 : Nat) : Int) - 1 - i) : D)) = .int j :: ((List.range j).map fun (i : Nat) => .int ((j : Int) - 1 - i)) := by
      rw [List.range_succ_eq_map, List.map_cons, List.map_map]
      congr 1
      · congr 1; omega
      · apply List.map_congr_left
        intro i _
        show D.int _ = D.int _
        congr 1
        simp only [Nat.succ_eq_add_one]; omega
    rw [er, forN_nx (by rfl) hb, h]
    simp
theorem steps_eq (n : Nat) : stepsI ((n : Int) - 1) (-1) n = (List.range n).map fun (i : Nat) => .int ((n : Int) - 1 - i) := by
  unfold stepsI
  apply List.map_congr_left
  intro i _
  congr 1; omega
theorem q_led {ss : List P4} {pls : List (List Pr)} {E : List Pr} (hlen : pls.length = ss.length + 1) (hs : ss.length ≤ 900) (hc : ∀ l ∈ pls, l.length ≤ 1000) : GP_led_pairs C [.lst (ss.map stD), .lst (pls.map plD), .tup (E.map prD)] m = .ok (.lst ((led E ss pls).map plD)) m := by
  have hlast : atI (pls.map plD) (-1) = some (plD (pls.getLast (by intro h; simp [h] at hlen))) := by
    have e : pls = pls.dropLast ++ [pls.getLast (by intro h; simp [h] at hlen)] := (List.dropLast_concat_getLast _).symm
    conv => lhs; rw [e, List.map_append]
    exact atI_last _ _
  have hdrop : led E (ss.drop ss.length) (pls.drop ss.length) = [(pls.getLast (by intro h; simp [h] at hlen)).filter (fun a => decide (a ∈ E))] := by
    rw [List.drop_length]
    have : pls.drop ss.length = [pls.getLast (by intro h; simp [h] at hlen)] := by
      have e : pls = pls.dropLast ++ [pls.getLast (by intro h; simp [h] at hlen)] := (List.dropLast_concat_getLast _).symm
      conv => lhs; rw [e]
      rw [List.drop_append_of_le_length (by simp; omega), List.drop_eq_nil_of_le (by simp; omega)]; rfl
    rw [this]; rfl
  generalize pls.getLast (by intro h; simp [h] at hlen) = pl at hlast hdrop
  obtain ⟨y4, y5, y6, h⟩ := loop_L (C := C) (n := m.length) (E := E) (ss := ss) (pls := pls) (by omega) hs hc (some (.tup (E.map prD))) none none ss.length (m ++ [some (.lst [plD (pl.filter (fun a => decide (a ∈ E)))])]) none none none (Nat.le_refl _) (by rw [hdrop]; simp)
  have c0 := compN_of (m := m) (g := gName 7) (ft := eTest (eBin dIn (eVar 7) (eVar 2))) (fe := eVar 7) (r := [some (.lst (ss.map stD)), some (.lst (pls.map plD)), some (.tup (E.map prD)), none, none, none, none, none, none]) prD prD (fun a => decide (a ∈ E)) pl [] (by
    have : plD pl = plD pl := rfl
    have hpl : pl ∈ pls := by
      have := hlast
      have e : pls = pls.dropLast ++ [pls.getLast (by intro h; simp [h] at hlen)] := (List.dropLast_concat_getLast _).symm
      rw [e, List.map_append] at this
      have e2 := this.symm.trans (atI_last (pls.dropLast.map plD) (plD (pls.getLast (by intro h; simp [h] at hlen))))
      have inj : ∀ a b : List Pr, plD a = plD b → a = b := fun a b h => by
        have h : a.map prD = b.map prD := by simpa [plD] using h
        exact List.map_inj_right (fun x y e => prS_inj x y (by simpa using e)) |>.mp h
      have := inj _ _ (Option.some.inj e2)
      rw [this]; exact List.getLast_mem _
    have := hc _ hpl
    simp; omega) (fun a _ => ⟨_, rfl, by simp [dIn_pt], fun _ => by simp⟩)
  have r1 : rngB ((ss.length : Int) - 1) = true := rngB_iff.mpr (by omega)
  have r2 : rngB (-1) = true := by decide
  have e3 : ((ss.length : Int) - 1 + 1).toNat = ss.length := by omega
  have e : G_led_pairs C [.lst (ss.map stD), .lst (pls.map plD), .tup (E.map prD)] m = .ok (.lst ((led E ss pls).map plD)) (m ++ [some (.lst ((led E ss pls).reverse.map plD))]) := by
    simp at h
    simp [G_led_pairs, S_led_pairs, hlast, wipeD, c0, r1, r2, e3, steps_eq, h]
  show popR m _ = _
  rw [e]
  exact popR_tail (by simpa [pureD] using pll_pure _)
end DL
namespace DL
open PySem PySem.Spec PyProof.Rows L2
variable {C : CE} {m : Store}
/-! ### cells of letters -/
abbrev kvO (o : List Bool) : List (Key × D) := o.map fun b => (Sum.inr (lt b), .bl true)
abbrev cellO (o : List Bool) : Option D := some (.dic (kvO o))
def ins (o : List Bool) (b : Bool) : List Bool := if b ∈ o then o else o ++ [b]
theorem lt_inj {a b : Bool} (h : lt a = lt b) : a = b := by
  have := lt_eq a b
  rw [decide_eq_true h] at this
  exact (beq_iff_eq.mp this.symm)
theorem put_ins (o : List Bool) (b : Bool) : putKD (kvO o) (Sum.inr (lt b)) (.bl true) = kvO (ins o b) := by
  unfold putKD ins
  have h : ((kvO o).any fun kv => decide (kv.1 = Sum.inr (lt b))) = decide (b ∈ o) := by
    rw [List.any_map, Bool.eq_iff_iff, List.any_eq_true, decide_eq_true_eq]
    constructor
    · rintro ⟨x, hx, e⟩
      have e : (Sum.inr (lt x) : Key) = Sum.inr (lt b) := of_decide_eq_true e
      rw [← lt_inj (Sum.inr.inj e)]; exact hx
    · exact fun h => ⟨b, h, by simp⟩
  rw [h]
  by_cases hb : b ∈ o
  · simp only [hb, decide_true, if_true]
    rw [List.map_map]
    apply List.map_congr_left
    intro x _
    simp only [Function.comp]
    split <;> rfl
  · simp [hb]
theorem nodup2 : ∀ (o : List Bool), o.Nodup → o.length ≤ 2
  | [], _ => by simp
  | [_], _ => by simp
  | [_, _], _ => by simp
  | a :: b :: c :: _, h => by
    simp only [List.nodup_cons, List.mem_cons, not_or] at h
    obtain ⟨⟨h1, h2, _⟩, ⟨h3, _⟩, _⟩ := h
    cases a <;> cases b <;> cases c <;> simp_all
theorem ins_nodup (o : List Bool) (b : Bool) (h : o.Nodup) : (ins o b).Nodup := by
  unfold ins
  split
  · exact h
  · rename_i hb
    rw [List.nodup_append]
    exact ⟨h, by simp, fun x hx y hy e => hb (by simp at hy; rw [← hy, ← e]; exact hx)⟩
theorem ins_len (o : List Bool) (b : Bool) : (ins o b).length ≤ o.length + 1 := by unfold ins; split <;> simp
theorem mem_ins (o : List Bool) (b c : Bool) : c ∈ ins o b ↔ c ∈ o ∨ c = b := by
  unfold ins
  split
  · rename_i h
    exact ⟨.inl, fun z => z.elim id fun e => e ▸ h⟩
  · simp
def insAll (pl : List Pr) (o : List Bool) : List Bool := pl.foldl (fun o q => ins o q.2) o
theorem mem_insAll (c : Bool) : ∀ (pl : List Pr) (o : List Bool), c ∈ insAll pl o ↔ c ∈ o ∨ ∃ q ∈ pl, q.2 = c
  | [], o => by simp [insAll]
  | q :: pl, o => by
    show c ∈ insAll pl (ins o q.2) ↔ _
    rw [mem_insAll c pl, mem_ins]
    simp only [List.mem_cons, exists_eq_or_imp]
    rw [or_assoc]
    exact or_congr_right (or_congr_left eq_comm)
theorem insAll_nodup : ∀ (pl : List Pr) (o : List Bool), o.Nodup → (insAll pl o).Nodup
  | [], o, h => h
  | q :: pl, o, h => insAll_nodup pl (ins o q.2) (ins_nodup o q.2 h)
abbrev cells (m : Store) (os : List (List Bool)) : Store := m ++ os.map cellO
theorem cells_at {os : List (List Bool)} {k : Nat} {o : List Bool} (h : os[k]? = some o) : (cells m os)[m.length + k]? = some (cellO o) := by
  unfold cells
  rw [List.getElem?_append_right (by omega)]
  simp [h]
theorem cells_set {os : List (List Bool)} {k : Nat} {o : List Bool} : (cells m os).set (m.length + k) (cellO o) = cells m (os.set k o) := by
  unfold cells
  rw [List.set_append, if_neg (by omega), Nat.add_sub_cancel_left, List.map_set]
abbrev locs (B n : Nat) : List D := (List.range n).map fun i => .loc (B + i)
theorem locs_at {B n k : Nat} (h : k < n) : atI (locs B n) (k : Int) = some (.loc (B + k)) := by
  rw [atI_nat]; simp [h]
noncomputable abbrev bodyQ : DS := (sCons (sSet 9 (eBin dIx (eVar 3) (eVar 7))) <|
        sPut (eVar 9) (eBin dIx (eVar 8) (eC (.int 1))) (eC (.bl true)))
theorem body_Q {os : List (List Bool)} {n k : Nat} {o : List Bool} {q : Pr} {x0 x1 x2 x4 x5 x6 x9 x10 : Option D} (hk : k < n) (ho : os[k]? = some o) (hl : o.length ≤ 1000) :
    bodyQ [x0, x1, x2, some (.lst (locs m.length n)), x4, x5, x6, some (.int k), some (prD q), x9, x10] (cells m os) = .nx [x0, x1, x2, some (.lst (locs m.length n)), x4, x5, x6, some (.int k), some (prD q), some (.loc (m.length + k)), x10] (cells m (os.set k (ins o q.2))) := by
  have h1 := cells_at (m := m) ho
  have h2 := dIx_pr q
  have hl2 : o.length < 16777216 := by omega
  have h3 := locs_at (B := m.length) hk
  simp [h3, h2, putD, h1, keyD, hl2, put_ins, cells_set, -List.map_map]
theorem loop_Q {n k : Nat} {x0 x1 x2 x4 x5 x6 x10 : Option D} (hk : k < n) : ∀ (pl : List Pr) (os : List (List Bool)) (o : List Bool) (x8 x9 : Option D), os[k]? = some o → o.Nodup →
    ∃ y8 y9, forN (gName 8) bodyQ (pl.map prD) [x0, x1, x2, some (.lst (locs m.length n)), x4, x5, x6, some (.int k), x8, x9, x10] (cells m os) = .nx [x0, x1, x2, some (.lst (locs m.length n)), x4, x5, x6, some (.int k), y8, y9, x10] (cells m (os.set k (insAll pl o)))
  | [], os, o, x8, x9, ho, hl => ⟨x8, x9, by
    have e : os.set k (insAll [] o) = os := by
      show os.set k o = os
      obtain ⟨h1, h2⟩ := List.getElem?_eq_some_iff.mp ho
      rw [← h2]; exact List.set_getElem_self h1
    rw [List.map_nil, forN_nil, e]⟩
  | q :: pl, os, o, x8, x9, ho, hl => by
    have h22 := nodup2 o hl
    have hb := body_Q (m := m) (x0 := x0) (x1 := x1) (x2 := x2) (x4 := x4) (x5 := x5) (x6 := x6) (x9 := x9) (x10 := x10) (q := q) hk ho (by omega)
    have h2 : (os.set k (ins o q.2))[k]? = some (ins o q.2) := by
      obtain ⟨h1, _⟩ := List.getElem?_eq_some_iff.mp ho
      rw [List.getElem?_set_self h1]
    obtain ⟨y8, y9, h⟩ := loop_Q (x0 := x0) (x1 := x1) (x2 := x2) (x4 := x4) (x5 := x5) (x6 := x6) (x10 := x10) hk pl (os.set k (ins o q.2)) (ins o q.2) (some (prD q)) (some (.loc (m.length + k))) h2 (ins_nodup o q.2 hl)
    refine ⟨y8, y9, ?_⟩
    rw [List.map_cons, forN_nx (by rfl) hb, h, List.set_set]
    rfl
noncomputable abbrev bodyU : DS := sFor (iSeq (eBin dIx (eVar 6) (eVar 7))) (gName 8) bodyQ
/-- what the persons' cells become -/
def upd1 (pls : List (List Pr)) (os : List (List Bool)) (k : Nat) : List (List Bool) := os.set k (insAll (pls.getD k []) (os.getD k []))
theorem getD_of {α : Type} {l : List α} {k : Nat} (h : k < l.length) (d : α) : l[k]? = some (l.getD k d) := by
  rw [List.getD_eq_getElem?_getD, List.getElem?_eq_getElem h]; rfl
theorem set_nodup {os : List (List Bool)} {k : Nat} {o : List Bool} (h : ∀ o ∈ os, o.Nodup) (ho : o.Nodup) : ∀ z ∈ os.set k o, z.Nodup := fun z hz => by
  rcases List.mem_or_eq_of_mem_set hz with h1 | h1
  · exact h z h1
  · rw [h1]; exact ho
theorem loop_U {n : Nat} {pls : List (List Pr)} (hp : n ≤ pls.length) {x0 x1 x2 x4 x5 x10 : Option D} : ∀ (ks : List Nat) (os : List (List Bool)) (x7 x8 x9 : Option D), os.length = n → (∀ o ∈ os, o.Nodup) → (∀ k ∈ ks, k < n) →
    ∃ y7 y8 y9, forN (gName 7) bodyU (ks.map fun (i : Nat) => .int (i : Int)) [x0, x1, x2, some (.lst (locs m.length n)), x4, x5, some (.lst (pls.map plD)), x7, x8, x9, x10] (cells m os) = .nx [x0, x1, x2, some (.lst (locs m.length n)), x4, x5, some (.lst (pls.map plD)), y7, y8, y9, x10] (cells m (ks.foldl (upd1 pls) os))
  | [], os, x7, x8, x9, _, _, _ => ⟨x7, x8, x9, rfl⟩
  | k :: ks, os, x7, x8, x9, hos, hnd, hks => by
    have hk := hks k (List.mem_cons_self ..)
    have ho := getD_of (l := os) (k := k) (by omega) []
    have hpl := getD_of (l := pls) (k := k) (by omega) []
    have hn1 := hnd _ (List.mem_of_getElem? ho)
    obtain ⟨z8, z9, h2⟩ := loop_Q (m := m) (x0 := x0) (x1 := x1) (x2 := x2) (x4 := x4) (x5 := x5) (x6 := some (.lst (pls.map plD))) (x10 := x10) (k := k) (n := n) hk (pls.getD k []) os (os.getD k []) x8 x9 ho hn1
    obtain ⟨y7, y8, y9, h⟩ := loop_U hp (x0 := x0) (x1 := x1) (x2 := x2) (x4 := x4) (x5 := x5) (x10 := x10) ks (upd1 pls os k) (some (.int k)) z8 z9 (by simp [upd1, hos]) (set_nodup hnd (insAll_nodup _ _ hn1)) fun j hj => hks j (List.mem_cons_of_mem _ hj)
    refine ⟨y7, y8, y9, ?_⟩
    have e1 : atI (pls.map plD) (k : Int) = some (plD (pls.getD k [])) := by rw [atI_nat, List.getElem?_map, hpl]; rfl
    have hb : bodyU [x0, x1, x2, some (.lst (locs m.length n)), x4, x5, some (.lst (pls.map plD)), some (.int k), x8, x9, x10] (cells m os) = .nx [x0, x1, x2, some (.lst (locs m.length n)), x4, x5, some (.lst (pls.map plD)), some (.int k), z8, z9, x10] (cells m (upd1 pls os k)) := by
      simp only [sFor_ap, iSeq_ap, eBin_ap, eVar_ap]
      simp [e1, -List.map_map]
      exact h2
    rw [List.map_cons, forN_nx (by rfl) hb, h]
    rfl
theorem upd_len (pls : List (List Pr)) : ∀ (ks : List Nat) (os : List (List Bool)), (ks.foldl (upd1 pls) os).length = os.length
  | [], _ => rfl
  | k :: ks, os => by rw [List.foldl_cons, upd_len pls ks]; simp [upd1]
theorem upd_nodup (pls : List (List Pr)) : ∀ (ks : List Nat) (os : List (List Bool)), (∀ o ∈ os, o.Nodup) → ∀ o ∈ ks.foldl (upd1 pls) os, o.Nodup
  | [], _, h => h
  | k :: ks, os, h => upd_nodup pls ks (upd1 pls os k) (by
    by_cases hk : k < os.length
    · exact set_nodup h (insAll_nodup _ _ (h _ (List.mem_of_getElem? (getD_of hk []))))
    · have : upd1 pls os k = os := List.set_eq_of_length_le (by omega)
      rw [this]; exact h)
theorem upd_mem (pls : List (List Pr)) (b : Bool) : ∀ (ks : List Nat) (os : List (List Bool)) (j : Nat), j < os.length → (b ∈ (ks.foldl (upd1 pls) os).getD j [] ↔ b ∈ os.getD j [] ∨ (j ∈ ks ∧ ∃ q ∈ pls.getD j [], q.2 = b))
  | [], os, j, hj => by simp
  | k :: ks, os, j, hj => by
    rw [List.foldl_cons, upd_mem pls b ks (upd1 pls os k) j (by simpa [upd1] using hj)]
    by_cases e : k = j
    · subst e
      have : (upd1 pls os k).getD k [] = insAll (pls.getD k []) (os.getD k []) := by
        unfold upd1
        rw [List.getD_eq_getElem?_getD, List.getElem?_set_self hj]; rfl
      rw [this, mem_insAll]
      simp only [List.mem_cons, true_or, true_and]
      constructor
      · rintro ((h | h) | ⟨_, h⟩)
        · exact .inl h
        · exact .inr h
        · exact .inr h
      · rintro (h | h)
        · exact .inl (.inl h)
        · exact .inl (.inr h)
    · have : (upd1 pls os k).getD j [] = os.getD j [] := by
        unfold upd1
        rw [List.getD_eq_getElem?_getD, List.getElem?_set_ne e, ← List.getD_eq_getElem?_getD]
      rw [this]
      simp only [List.mem_cons, show (j = k) ↔ False from ⟨fun z => e z.symm, False.elim⟩, false_or]
end DL
namespace DL
open PySem PySem.Spec PyProof.Rows L2
variable {C : CE} {m : Store}
theorem FRs.up {B B' : Nat} {m : Store} {d : D} {φ : Fc} (h : FRs B m d φ) (hb : B ≤ B') : FRs B' m d φ := fun m' e => h m' (by
  have := congrArg (List.take B) e
  simpa [List.take_take, Nat.min_eq_left hb] using this)
theorem newCells {g : DG} {r : DEnv} {Y : Type} (e : Y → D) : ∀ (ys : List Y) (acc : List D) (m : Store), acc.length + ys.length ≤ 1000 → (∀ y, ∃ r', g (e y) r = some r') → compN g dTrue eNewD r (ys.map e) acc m = .ok (acc ++ (List.range ys.length).map fun i => .loc (m.length + i)) (m ++ List.replicate ys.length (some (.dic [])))
  | [], acc, m, _, _ => by simp [compN]
  | y :: ys, acc, m, hl, h => by
    obtain ⟨r', h1⟩ := h y
    simp only [List.length_cons] at hl
    have ih := newCells (g := g) (r := r) e ys (acc ++ [.loc m.length]) (m ++ [some (.dic [])]) (by simp; omega) h
    have hl2 : acc.length < 16777216 := by omega
    simp only [List.map_cons, compN, h1, dTrue_ap, noX_ok, bind_ok, if_true, eNewD_ap, size_val, hl2, ih]
    simp only [List.length_append, List.length_cons, List.length_nil, List.append_assoc, List.cons_append, List.nil_append, List.range_succ_eq_map, List.map_cons, List.map_map, Nat.add_zero, List.replicate_succ]
    congr 3
    apply List.map_congr_left
    intro i _
    show D.loc _ = D.loc _
    congr 1
    simp only [Nat.succ_eq_add_one]; omega
theorem rch_len (φ : Fc) : ∀ (ss : List P4) (k : Nat) (cur : List Pr), (rch φ ss k cur).length = ss.length + 1
  | [], _, _ => rfl
  | p :: ss, k, cur => by simp [rch, rch_len φ ss]
theorem rch_small (φ : Fc) : ∀ (ss : List P4) (k : Nat) (cur : List Pr), cur.length ≤ 4 → ∀ l ∈ rch φ ss k cur, l.length ≤ 4
  | [], _, cur, h, l, hl => by simp only [rch, List.mem_singleton] at hl; rw [hl]; exact h
  | p :: ss, k, cur, h, l, hl => by
    simp only [rch, List.mem_cons] at hl
    rcases hl with rfl | hl
    · exact h
    · exact rch_small φ ss _ _ (stp_len ..) l hl
theorem RP_len (φ : Fc) (ss : List P4) (st : Pr) : (RP φ ss st).length = ss.length + 1 := rch_len ..
theorem RP_small (φ : Fc) (ss : List P4) (st : Pr) : ∀ l ∈ RP φ ss st, l.length ≤ 4 := rch_small φ ss 0 _ (by split <;> simp)
theorem led_len (E : List Pr) : ∀ (ps : List P4) (pls : List (List Pr)), (led E ps pls).length = ps.length + 1
  | [], _ => rfl
  | p :: ps, pls => by simp [led, led_len E ps]
def endsL (ring : Bool) : List (Pr × List Pr) := if ring then pairs4.map fun q => (q, [q]) else [((true, true), [(true, true), (false, true)]), ((true, false), [(true, true), (false, true)])]
def seD (se : Pr × List Pr) : D := .tup [prD se.1, .tup (se.2.map prD)]
theorem q_ends (ring : Bool) : G_ends_of C [.bl ring] m = .ok (.lst ((endsL ring).map seD)) m := by cases ring <;> kernel_rfl
def ledP (φ : Fc) (ss : List P4) (se : Pr × List Pr) : List (List Pr) := led se.2 ss (RP φ ss se.1)
def endO (φ : Fc) (ss : List P4) (os : List (List Bool)) (se : Pr × List Pr) : List (List Bool) := (List.range ss.length).foldl (upd1 (ledP φ ss se)) os
noncomputable abbrev bodyE (C : CE) : DS := (sCons (sSet 6 (eCall (GP_led_pairs C) (aCons (eVar 2) (aCons (eCall (GP_reached_pairs C) (aCons (eVar 2) (aCons (eVar 4) (aCons (eVar 1) (aNil))))) (aCons (eVar 5) (aNil)))))) <|
    sFor (iRange1 (aCons (eCB fLen (aCons (eVar 2) (aNil))) (aNil))) (gName 7) bodyU)
theorem steps0 (n : Nat) : stepsI 0 1 n = (List.range n).map fun (i : Nat) => .int (i : Int) := by
  unfold stepsI
  apply List.map_congr_left
  intro i _
  congr 1; omega
theorem body_E {φ : Fc} {f : D} {ss : List P4} {os : List (List Bool)} {se : Pr × List Pr} {x0 x6 x7 x8 x9 x10 : Option D} (hf : FRs m.length m f φ) (hl : ss.length ≤ 900) (hos : os.length = ss.length) (hnd : ∀ o ∈ os, o.Nodup) :
    ∃ y6 y7 y8 y9, bodyE C [x0, some f, some (.lst (ss.map stD)), some (.lst (locs m.length ss.length)), some (prD se.1), some (.tup (se.2.map prD)), x6, x7, x8, x9, x10] (cells m os) =
      .nx [x0, some f, some (.lst (ss.map stD)), some (.lst (locs m.length ss.length)), some (prD se.1), some (.tup (se.2.map prD)), y6, y7, y8, y9, x10] (cells m (endO φ ss os se)) := by
  have hf2 : FRs (cells m os).length (cells m os) f φ := (hf.next (take_app (Nat.le_refl _))).up (by simp)
  have h1 := q_reach (C := C) (st := se.1) hf2 hl
  have h2 := q_led (C := C) (m := cells m os) (E := se.2) (RP_len φ ss se.1) hl (fun l h => Nat.le_trans (RP_small φ ss se.1 l h) (by omega))
  obtain ⟨y7, y8, y9, h3⟩ := loop_U (m := m) (n := ss.length) (pls := ledP φ ss se) (by rw [ledP, led_len]; omega) (x0 := x0) (x1 := some f) (x2 := some (.lst (ss.map stD))) (x4 := some (prD se.1)) (x5 := some (.tup (se.2.map prD))) (x10 := x10) (List.range ss.length) os x7 x8 x9 hos hnd (fun k hk => List.mem_range.mp hk)
  refine ⟨some (.lst ((ledP φ ss se).map plD)), y7, y8, y9, ?_⟩
  have r1 : rngB ((ss.length : Int)) = true := rngB_iff.mpr (by omega)
  simp only [prD] at h1 h2 h3 ⊢
  simp only [sCons_ap, sSet_ap, eCall_ap, aCons_ap, eVar_ap, aNil_ap]
  simp [h1, h2, -List.map_map]
  simp [r1, steps0, -List.map_map]
  exact h3
theorem endO_len (φ : Fc) (ss : List P4) (os : List (List Bool)) (se : Pr × List Pr) : (endO φ ss os se).length = os.length := upd_len ..
theorem endO_nodup {φ : Fc} {ss : List P4} {os : List (List Bool)} (se : Pr × List Pr) (h : ∀ o ∈ os, o.Nodup) : ∀ o ∈ endO φ ss os se, o.Nodup := upd_nodup _ _ _ h
theorem loop_E {φ : Fc} {f : D} {ss : List P4} (hf : FRs m.length m f φ) (hl : ss.length ≤ 900) (x0 x10 : Option D) : ∀ (es : List (Pr × List Pr)) (os : List (List Bool)) (x4 x5 x6 x7 x8 x9 : Option D), os.length = ss.length → (∀ o ∈ os, o.Nodup) →
    ∃ y4 y5 y6 y7 y8 y9, forN (gTupD (gsCons (gName 4) (gsCons (gName 5) (gsNil)))) (bodyE C) (es.map seD) [x0, some f, some (.lst (ss.map stD)), some (.lst (locs m.length ss.length)), x4, x5, x6, x7, x8, x9, x10] (cells m os) =
      .nx [x0, some f, some (.lst (ss.map stD)), some (.lst (locs m.length ss.length)), y4, y5, y6, y7, y8, y9, x10] (cells m (es.foldl (endO φ ss) os))
  | [], os, x4, x5, x6, x7, x8, x9, _, _ => ⟨x4, x5, x6, x7, x8, x9, rfl⟩
  | se :: es, os, x4, x5, x6, x7, x8, x9, hos, hnd => by
    obtain ⟨z6, z7, z8, z9, hb⟩ := body_E (C := C) (x0 := x0) (x6 := x6) (x7 := x7) (x8 := x8) (x9 := x9) (x10 := x10) (se := se) hf hl hos hnd
    obtain ⟨y4, y5, y6, y7, y8, y9, h⟩ := loop_E hf hl x0 x10 es (endO φ ss os se) (some (prD se.1)) (some (.tup (se.2.map prD))) z6 z7 z8 z9 (by rw [endO_len, hos]) (endO_nodup se hnd)
    exact ⟨y4, y5, y6, y7, y8, y9, by rw [List.map_cons, forN_nx (by rfl) hb, h]; rfl⟩
/-- the letters that the k-th person may have -/
def PL (φ : Fc) (ss : List P4) (ring : Bool) (k : Nat) (b : Bool) : Bool := (endsL ring).any fun se => ((ledP φ ss se).getD k []).any fun q => q.2 == b
theorem ends_mem {φ : Fc} {ss : List P4} (b : Bool) (j : Nat) (hj : j < ss.length) : ∀ (es : List (Pr × List Pr)) (os : List (List Bool)), os.length = ss.length → (b ∈ (es.foldl (endO φ ss) os).getD j [] ↔ b ∈ os.getD j [] ∨ ∃ se ∈ es, ∃ q ∈ (ledP φ ss se).getD j [], q.2 = b)
  | [], os, _ => by simp
  | se :: es, os, hos => by
    rw [List.foldl_cons, ends_mem b j hj es (endO φ ss os se) (by rw [endO_len, hos])]
    unfold endO
    rw [upd_mem _ _ _ _ _ (by omega)]
    simp only [List.mem_range, hj, true_and, List.mem_cons, exists_eq_or_imp]
    rw [or_assoc]
def osF (φ : Fc) (ss : List P4) (ring : Bool) : List (List Bool) := (endsL ring).foldl (endO φ ss) (List.replicate ss.length [])
theorem osF_len (φ : Fc) (ss : List P4) (ring : Bool) : (osF φ ss ring).length = ss.length := by
  unfold osF
  generalize hE : endsL ring = es
  have : ∀ (es : List (Pr × List Pr)) (os : List (List Bool)), (es.foldl (endO φ ss) os).length = os.length := fun es => by
    induction es with
    | nil => intro _; rfl
    | cons e es ih => intro os; rw [List.foldl_cons, ih, endO_len]
  rw [this]; simp
theorem osF_mem (φ : Fc) (ss : List P4) (ring : Bool) (j : Nat) (hj : j < ss.length) (b : Bool) : b ∈ (osF φ ss ring).getD j [] ↔ PL φ ss ring j b = true := by
  unfold osF
  rw [ends_mem b j hj _ _ (by simp)]
  have : (List.replicate ss.length ([] : List Bool)).getD j [] = [] := by simp [List.getD_eq_getElem?_getD, List.getElem?_replicate]; split <;> rfl
  rw [this]
  simp [PL]
end DL
namespace DL
open PySem PySem.Spec PyProof.Rows L2
variable {C : CE} {m : Store}
theorem noneD0 (o : List Bool) : dEq (.dic (kvO o)) (.dic []) = some (.bl o.isEmpty) := by cases o <;> rfl
theorem keyIn (o : List Bool) (b : Bool) : dIn (.str (lt b)) (.dic (kvO o)) = some (.bl (decide (b ∈ o))) := by
  have h : (valD (kvO o) (Sum.inr (lt b) : Key)).isSome = decide (b ∈ o) := by
    unfold valD
    rw [Option.isSome_map, Bool.eq_iff_iff, List.find?_isSome, decide_eq_true_eq]
    constructor
    · rintro ⟨kv, hkv, e⟩
      obtain ⟨x, hx, rfl⟩ := List.mem_map.mp hkv
      have e : (Sum.inr (lt x) : Key) = Sum.inr (lt b) := of_decide_eq_true e
      rw [← lt_inj (Sum.inr.inj e)]; exact hx
    · intro hb
      exact ⟨_, List.mem_map.mpr ⟨b, hb, rfl⟩, by simp⟩
  simp [dIn, inD, keyD, h]
def letL (φ : Fc) (ss : List P4) (ring : Bool) (k : Nat) : List Bool := [true, false].filter fun b => PL φ ss ring k b
abbrev bsD (l : List Bool) : D := .lst (l.map fun b => .str (lt b))
theorem lets_eq : [(.str "T" : D), .str "L"] = [true, false].map fun b => .str (lt b) := rfl
/-- all that may be -/
def KL (φ : Fc) (ss : List P4) (ring : Bool) : List (List Bool) := (List.range ss.length).map (letL φ ss ring)
theorem bs_pure (l : List Bool) : pureL (l.map fun b => (.str (lt b) : D)) = true := by
  induction l with
  | nil => rfl
  | cons q l ih => simp [pureL, pureD, ih]
theorem bss_pure (l : List (List Bool)) : pureL (l.map bsD) = true := by
  induction l with
  | nil => rfl
  | cons q l ih => simp [pureL, pureD, ih, bs_pure]
theorem q_possible {φ : Fc} {f : D} {ss : List P4} (ring : Bool) (hf : FRs m.length m f φ) (h0 : 0 < ss.length) (hl : ss.length ≤ 900) :
    GP_possible_letters C [lineD ss ring, f] m = .ok (if letL φ ss ring 0 = [] then .non else .lst ((KL φ ss ring).map bsD)) m := by
  have hp := q_persons (C := C) (m := m) ss ring (by omega)
  have hc := newCells (g := gName 7) (r := [some (lineD ss ring), some f, some (.lst (ss.map stD)), none, none, none, none, none, none, none, none]) stD ss [] m (by simp; omega) (fun y => ⟨_, rfl⟩)
  have hcell : m ++ List.replicate ss.length (some (.dic [])) = cells m (List.replicate ss.length []) := by simp [cells, cellO]
  rw [hcell] at hc
  obtain ⟨y4, y5, y6, y7, y8, y9, hE⟩ := loop_E (C := C) hf hl (some (lineD ss ring)) none (endsL ring) (List.replicate ss.length []) none none none none none none (by simp) (fun o ho => by rw [(List.mem_replicate.mp ho).2]; exact List.nodup_nil)
  have hlen := osF_len φ ss ring
  have hmem := osF_mem φ ss ring
  change _ = RS.nx _ (cells m (osF φ ss ring)) at hE
  generalize osF φ ss ring = os at hE hlen hmem
  have hat : ∀ k, k < ss.length → os[k]? = some (os.getD k []) := fun k hk => getD_of (by omega) []
  have hlet : ∀ k, k < ss.length → ([true, false].filter fun b => decide (b ∈ os.getD k [])) = letL φ ss ring k := fun k hk => by
    unfold letL
    apply List.filter_congr
    intro b _
    rw [Bool.eq_iff_iff, decide_eq_true_eq]
    exact hmem k hk b
  have hemp : (os.getD 0 []).isEmpty = decide (letL φ ss ring 0 = []) := by
    rw [Bool.eq_iff_iff, List.isEmpty_iff, decide_eq_true_eq, ← hlet 0 h0]
    constructor
    · intro e; rw [e]; rfl
    · intro e
      rw [List.filter_eq_nil_iff] at e
      cases hq : os.getD 0 [] with
      | nil => rfl
      | cons b t =>
        have := e b (by cases b <;> simp)
        rw [hq] at this; simp at this
  have h00 : atI (locs m.length ss.length) (0 : Int) = some (.loc m.length) := locs_at (B := m.length) (k := 0) h0
  have v0 : (cells m os)[m.length]? = some (cellO (os.getD 0 [])) := cells_at (m := m) (k := 0) (hat 0 h0)
  have ci := fun k (hk : k < ss.length) x4 x5 x6 x7 x8 => compN_of (m := cells m os) (g := gName 10) (ft := eTest (eBin dIn (eVar 10) (eVar 9))) (fe := eVar 10) (r := [some (lineD ss ring), some f, some (.lst (ss.map stD)), some (.lst (locs m.length ss.length)), x4, x5, x6, x7, x8, some (.loc (m.length + k)), none]) (fun b => .str (lt b)) (fun b => .str (lt b)) (fun b => decide (b ∈ os.getD k [])) [true, false] [] (by simp) (fun b _ => ⟨_, rfl, by
    have := cells_at (m := m) (hat k hk)
    simp [this, keyIn], fun _ => by simp⟩)
  have co := fun x4 x5 x6 x7 x8 => compN_map (m := cells m os) (g := gName 9) (fe := eLc [10] (iSeq (eC (.tup [(.str "T"), (.str "L")]))) (gName 10) (eTest (eBin dIn (eVar 10) (eVar 9))) (eVar 10)) (r := [some (lineD ss ring), some f, some (.lst (ss.map stD)), some (.lst (locs m.length ss.length)), x4, x5, x6, x7, x8, none, none]) (fun k => .loc (m.length + k)) (fun k => bsD (letL φ ss ring k)) (List.range ss.length) (by simp; omega) (fun k hk => ⟨_, rfl, by
    have hk := List.mem_range.mp hk
    have h1 := ci k hk x4 x5 x6 x7 x8
    simp only [← lets_eq] at h1
    rw [hlet k hk] at h1
    simp [wipeD, h1]⟩)
  have e : ∃ M, G_possible_letters C [lineD ss ring, f] m = .ok (if letL φ ss ring 0 = [] then .non else .lst ((KL φ ss ring).map bsD)) M ∧ M.take m.length = m := by
    refine ⟨cells m os, ?_, by simp⟩
    have hk : (KL φ ss ring).map bsD = (List.range ss.length).map fun k => bsD (letL φ ss ring k) := by simp [KL]
    rw [hk]
    have hd := noneD0 (os.getD 0 [])
    rw [hemp] at hd
    simp only [locs] at hc hE h00 co
    simp [G_possible_letters, S_possible_letters, hp, wipeD, hc, line_obj, q_lring, q_ends, hE, h00, v0, -List.map_map]
    have hd2 : dEq (.dic (kvO (os[0]?.getD []))) (.dic []) = some (.bl (decide (letL φ ss ring 0 = []))) := by rw [← List.getD_eq_getElem?_getD]; exact hd
    by_cases hL : letL φ ss ring 0 = []
    · simp [hd2, hL]
    · simp [hd2, hL, co, -List.map_map]
  obtain ⟨M, e, hM⟩ := e
  show popR m _ = _
  rw [e]
  refine popR_ok ?_ hM
  split
  · rfl
  · simpa [pureD] using bss_pure _
theorem map_const_rep' {X Y : Type} (d : X) (ys : List Y) : ys.map (fun _ => d) = List.replicate ys.length d := by
  induction ys with
  | nil => rfl
  | cons y ys ih => rw [List.map_cons, ih, List.length_cons, List.replicate_succ]
/-- one person's sign in what is known -/
def chr (l : List Bool) : Str := match l with
  | [b] => lt b
  | _ => "?"
def KT (φ : Fc) (ss : List P4) (ring : Bool) : Option Str := if letL φ ss ring 0 = [] then none else some (Txt.join "" ((KL φ ss ring).map chr))
def optD : Option Str → D
  | none => .non
  | some t => .str t
theorem chr_len (l : List Bool) : (chr l).length = 1 := by
  match l with
  | [] => decide +kernel
  | [true] => decide +kernel
  | [false] => decide +kernel
  | _ :: _ :: _ => show (("?" : Str)).length = 1; decide +kernel
theorem letL_len (φ : Fc) (ss : List P4) (ring : Bool) (k : Nat) : (letL φ ss ring k).length ≤ 2 := Nat.le_trans (List.length_filter_le ..) (by simp)
theorem q_known_text {φ : Fc} {f : D} {ss : List P4} (ring : Bool) (hf : FRs m.length m f φ) (h0 : 0 < ss.length) (hl : ss.length ≤ 900) :
    G_known_text C [lineD ss ring, f] m = .ok (optD (KT φ ss ring)) m := by
  have hp := q_possible (C := C) ring hf h0 hl
  unfold KT
  by_cases hL : letL φ ss ring 0 = []
  · simp only [hL, if_true] at hp ⊢
    simp [G_known_text, S_known_text, hp, dIs, isNonD, optD]
  · simp only [hL, if_false] at hp ⊢
    have hk : (KL φ ss ring).length = ss.length := by simp [KL]
    have hc := compN_map (m := m) (g := gName 3) (fe := eIf (eTest (eBin dEq (eCB fLen (aCons (eVar 3) (aNil))) (eC (.int 1)))) (eBin dIx (eVar 3) (eC (.int 0))) (eC (.str "?"))) (r := [some (lineD ss ring), some f, some (.lst ((KL φ ss ring).map bsD)), none]) bsD (fun l => .str (chr l)) (KL φ ss ring) (by rw [hk, size_val]; omega) (fun l _ => ⟨_, rfl, by
      match l with
      | [] => simp [chr]
      | [b] =>
        have : atI [(.str (lt b) : D)] (0 : Int) = some (.str (lt b)) := rfl
        simp [chr, this]
      | a :: b :: t =>
        have : decide ((t.length : Int) + 1 + 1 = 1) = false := decide_eq_false (by omega)
        simp [chr, this]⟩)
    have hj : dJoin (.str "") (.lst ((KL φ ss ring).map fun l => .str (chr l))) = some (.str (Txt.join "" ((KL φ ss ring).map chr))) := by
      have h2 : ((("" : Str)).length) = 0 := by decide +kernel
      unfold dJoin oJoin
      simp only [strsD_of]
      rw [if_pos]
      rw [h2, List.map_map]
      have : ((KL φ ss ring).map ((fun x => x.length) ∘ chr)) = List.replicate ss.length 1 := by
        rw [← hk, ← map_const_rep' 1 (KL φ ss ring)]
        apply List.map_congr_left
        intro l _; exact chr_len l
      rw [this]
      simp; omega
    simp [G_known_text, S_known_text, hp, wipeD, hc, hj, optD, -List.map_map]
end DL
namespace DL
open PySem PySem.Spec PyProof.Rows L2
def φ0 : Fc := fun _ => none
/-- the line in which those of whom a fact tells say something always true, or always false -/
def stat (φ : Fc) : Nat → List P4 → List P4
  | _, [] => []
  | k, p :: ps => (match φ k with | some b => some (b, b, b, b) | none => p) :: stat φ (k + 1) ps
/-- facts tell of free persons alone -/
def Fr (φ : Fc) : Nat → List P4 → Prop
  | _, [] => True
  | k, p :: ps => (∀ b, φ k = some b → p = none) ∧ Fr φ (k + 1) ps
def fil (φ : Fc) : Nat → List (List Pr) → List (List Pr)
  | _, [] => []
  | k, l :: ls => l.filter (al φ k) :: fil φ (k + 1) ls
theorem stat_len (φ : Fc) : ∀ (ss : List P4) (k : Nat), (stat φ k ss).length = ss.length
  | [], _ => rfl
  | p :: ss, k => by simp [stat, stat_len φ ss]
theorem nx_same {φ : Fc} {k : Nat} {p : P4} (h : ∀ b, φ k = some b → p = none) (q : Pr) (f : Pr → Bool) : (al φ k q && (nx p q).any f) = (nx (match φ k with | some b => some (b, b, b, b) | none => p) q).any f := by
  unfold al
  cases hp : φ k with
  | none => simp
  | some b =>
    rw [h b hp]
    obtain ⟨q1, q2⟩ := q
    cases b <;> cases q1 <;> cases q2 <;> simp [nx, fit]
theorem any_filter {α : Type} (l : List α) (p f : α → Bool) : (l.filter p).any f = l.any fun a => p a && f a := by
  induction l with
  | nil => rfl
  | cons a l ih => rw [List.filter_cons]; cases hp : p a <;> simp [hp, ih]
theorem stp_stat {φ : Fc} {k : Nat} {p : P4} (h : ∀ b, φ k = some b → p = none) (cur : List Pr) : stp φ p (k + 1) (cur.filter (al φ k)) = (stp φ0 (match φ k with | some b => some (b, b, b, b) | none => p) (k + 1) cur).filter (al φ (k + 1)) := by
  unfold stp
  rw [List.filter_filter]
  apply List.filter_congr
  intro q _
  rw [any_filter]
  have e : (cur.any fun a => al φ k a && (nx p a).contains q) = cur.any fun c => (nx (match φ k with | some b => some (b, b, b, b) | none => p) c).contains q := by
    apply congrArg
    funext a
    have := nx_same h a (fun z => q == z)
    simp only [List.contains_eq_any_beq]; exact this
  rw [e]
  simp [al, φ0, Bool.and_comm]
theorem rch_stat {φ : Fc} : ∀ (ss : List P4) (k : Nat) (cur : List Pr), Fr φ k ss → rch φ ss k (cur.filter (al φ k)) = fil φ k (rch φ0 (stat φ k ss) k cur)
  | [], k, cur, _ => rfl
  | p :: ss, k, cur, ⟨h, hs⟩ => by
    simp only [rch, stat, fil]
    rw [stp_stat h, rch_stat ss (k + 1) _ hs]
theorem fil_ne {φ : Fc} {k : Nat} {l : List (List Pr)} : (fil φ k l).headD [] = (l.headD []).filter (al φ k) := by cases l <;> rfl
theorem fil_tl {φ : Fc} {k : Nat} {l : List (List Pr)} : (fil φ k l).tail = fil φ (k + 1) l.tail := by cases l <;> rfl
theorem led_stat {φ : Fc} (E : List Pr) : ∀ (ss : List P4) (k : Nat) (pls : List (List Pr)), Fr φ k ss → φ (k + ss.length) = none → led E ss (fil φ k pls) = led E (stat φ k ss) pls
  | [], k, pls, _, hn => by
    simp only [led, stat, fil_ne]
    rw [List.filter_filter]
    congr 1
    apply List.filter_congr
    intro q _
    simp only [List.length_nil, Nat.add_zero] at hn
    simp [al, hn]
  | p :: ss, k, pls, ⟨h, hs⟩, hn => by
    have ih := led_stat E ss (k + 1) pls.tail hs (by rw [← hn]; congr 1; simp only [List.length_cons]; omega)
    simp only [led, stat, fil_ne, fil_tl, ih]
    congr 1
    rw [List.filter_filter]
    apply List.filter_congr
    intro q _
    rw [Bool.and_comm]
    exact nx_same h q _
theorem ledP_stat {φ : Fc} {ss : List P4} (h : Fr φ 0 ss) (hn : φ ss.length = none) (se : Pr × List Pr) : ledP φ ss se = ledP φ0 (stat φ 0 ss) se := by
  unfold ledP RP
  have e : (if al φ 0 se.1 = true then [se.1] else []) = [se.1].filter (al φ 0) := by
    rw [List.filter_cons]; split <;> rfl
  rw [e, rch_stat ss 0 _ h, led_stat se.2 ss 0 _ h (by simpa using hn)]
  rfl
theorem KT_stat {φ : Fc} {ss : List P4} (h : Fr φ 0 ss) (hn : φ ss.length = none) (ring : Bool) : KT φ ss ring = KT φ0 (stat φ 0 ss) ring := by
  have e : ∀ k, letL φ ss ring k = letL φ0 (stat φ 0 ss) ring k := fun k => by
    unfold letL PL
    congr 1
    funext b
    congr 1
    funext se
    rw [ledP_stat h hn]
  unfold KT KL
  rw [e 0, stat_len, funext e]
theorem rch_tt : ∀ (n k : Nat) (cur : List Pr), (true, true) ∈ cur → ∀ l ∈ rch φ0 (List.replicate n none) k cur, (true, true) ∈ l
  | 0, k, cur, h, l, hl => by simp only [List.replicate_zero, rch, List.mem_singleton] at hl; rw [hl]; exact h
  | n + 1, k, cur, h, l, hl => by
    simp only [List.replicate_succ, rch, List.mem_cons] at hl
    rcases hl with rfl | hl
    · exact h
    · refine rch_tt n (k + 1) _ ?_ l hl
      unfold stp
      rw [List.mem_filter]
      refine ⟨by simp [pairs4], ?_⟩
      have : (cur.any fun c => (nx none c).contains (true, true)) = true := List.any_eq_true.mpr ⟨(true, true), h, by decide⟩
      rw [this]; rfl
theorem led_tt (E : List Pr) (hE : (true, true) ∈ E) : ∀ (n : Nat) (pls : List (List Pr)), pls.length = n + 1 → (∀ l ∈ pls, (true, true) ∈ l) → (true, true) ∈ (led E (List.replicate n none) pls).headD []
  | 0, pls, hl, h => by
    match pls, hl with
    | [l], _ =>
      show (true, true) ∈ l.filter _
      rw [List.mem_filter]
      exact ⟨h l (by simp), by simpa using hE⟩
  | n + 1, pls, hl, h => by
    match pls, hl with
    | l :: pls, hl =>
      have ih := led_tt E hE n pls (by simpa using hl) fun z hz => h z (List.mem_cons_of_mem _ hz)
      show (true, true) ∈ l.filter _
      rw [List.mem_filter]
      refine ⟨h l (by simp), ?_⟩
      rw [List.any_eq_true]
      exact ⟨(true, true), by decide, by simpa using ih⟩
theorem KT_free (n : Nat) (ring : Bool) : KT φ0 (List.replicate n none) ring ≠ none := by
  have hb : PL φ0 (List.replicate n none) ring 0 true = true := by
    have key : ∀ E : List Pr, (true, true) ∈ E → (true, true) ∈ (ledP φ0 (List.replicate n none) ((true, true), E)).getD 0 [] := fun E hE => by
      have := led_tt E hE n (RP φ0 (List.replicate n none) (true, true)) (by rw [RP_len, List.length_replicate]) (rch_tt n 0 _ (by simp [al, φ0]))
      unfold ledP
      obtain ⟨h, t, e⟩ := led_head E (List.replicate n none) (RP φ0 (List.replicate n none) (true, true))
      simp only at *
      rw [e] at this ⊢
      exact this
    unfold PL
    rw [List.any_eq_true]
    cases ring with
    | true => exact ⟨((true, true), [(true, true)]), by simp [endsL, pairs4], List.any_eq_true.mpr ⟨(true, true), key _ (by simp), rfl⟩⟩
    | false => exact ⟨((true, true), [(true, true), (false, true)]), by simp [endsL], List.any_eq_true.mpr ⟨(true, true), key _ (by simp), rfl⟩⟩
  unfold KT
  have : letL φ0 (List.replicate n none) ring 0 ≠ [] := by
    intro e
    have h2 : true ∈ letL φ0 (List.replicate n none) ring 0 := List.mem_filter.mpr ⟨by simp, hb⟩
    rw [e] at h2; cases h2
  rw [if_neg this]
  simp
end DL
namespace DL
open PySem PySem.Spec PyProof.Rows L2
variable {C : CE} {m : Store}
/-! ### facts as they stand -/
abbrev Fs : Type := List (Nat × Bool)
def fctD (p : Nat × Bool) : D := .tup [.int p.1, .str (lt p.2)]
abbrev fctsD (fs : Fs) : D := .lst (fs.map fctD)
abbrev kvF (fs : Fs) : List (Key × D) := fs.map fun p => (Sum.inl (p.1 : Int), .str (lt p.2))
def phi : Fs → Fc
  | [], _ => none
  | p :: fs, k => if p.1 = k then some p.2 else phi fs k
theorem val_phi (fs : Fs) (k : Nat) : valD (kvF fs) (Sum.inl (k : Int)) = (phi fs k).map fun b => .str (lt b) := by
  induction fs with
  | nil => rfl
  | cons p fs ih =>
    unfold valD at ih ⊢
    simp only [List.map_cons, List.find?_cons, phi]
    by_cases h : p.1 = k
    · subst h; simp
    · have : decide ((Sum.inl (p.1 : Int) : Key) = Sum.inl (k : Int)) = false := decide_eq_false (fun e => h (by have := Sum.inl.inj e; omega))
      rw [this, if_neg h]; exact ih
theorem phi_none {fs : Fs} {k : Nat} (h : k ∉ fs.map (·.1)) : phi fs k = none := by
  induction fs with
  | nil => rfl
  | cons p fs ih =>
    simp only [List.map_cons, List.mem_cons, not_or] at h
    unfold phi
    rw [if_neg (fun e => h.1 e.symm)]
    exact ih h.2
theorem phi_mem {fs : Fs} {k : Nat} {b : Bool} (h : phi fs k = some b) : (k, b) ∈ fs := by
  induction fs with
  | nil => cases h
  | cons p fs ih =>
    unfold phi at h
    split at h
    · rename_i e
      cases h; subst e; exact List.mem_cons_self ..
    · exact List.mem_cons_of_mem _ (ih h)
theorem phi_of {fs : Fs} (hn : (fs.map (·.1)).Nodup) {k : Nat} {b : Bool} (h : (k, b) ∈ fs) : phi fs k = some b := by
  induction fs with
  | nil => cases h
  | cons p fs ih =>
    simp only [List.map_cons, List.nodup_cons] at hn
    unfold phi
    rcases List.mem_cons.mp h with e | h
    · rw [← e, if_pos rfl]
    · rw [if_neg, ih hn.2 h]
      intro e
      exact hn.1 (List.mem_map.mpr ⟨(k, b), h, e.symm⟩)
theorem phi_rev {fs : Fs} (hn : (fs.map (·.1)).Nodup) : phi fs.reverse = phi fs := by
  funext k
  have hr : (fs.reverse.map (·.1)).Nodup := by rw [List.map_reverse]; exact (List.Perm.nodup_iff (List.reverse_perm _)).mpr hn
  cases h : phi fs k with
  | some b => exact phi_of hr (List.mem_reverse.mpr (phi_mem h))
  | none =>
    cases h2 : phi fs.reverse k with
    | none => rfl
    | some b => rw [phi_of hn (List.mem_reverse.mp (phi_mem h2))] at h; cases h
theorem put_new {kvs : List (Key × D)} {k : Key} {d : D} (h : ∀ kv ∈ kvs, kv.1 ≠ k) : putKD kvs k d = kvs ++ [(k, d)] := by
  unfold putKD
  rw [if_neg]
  simp only [List.any_eq_true, decide_eq_true_eq, not_exists, not_and]
  exact fun x hx => h x hx
theorem merge_new : ∀ (fs : Fs) (pre : Fs), ((pre ++ fs).map (·.1)).Nodup → mergeKD (kvF pre) (kvF fs) = kvF (pre ++ fs)
  | [], pre, _ => by simp [mergeKD]
  | p :: fs, pre, hn => by
    have e : pre ++ p :: fs = (pre ++ [p]) ++ fs := by simp
    have ih := merge_new fs (pre ++ [p]) (by rw [← e]; exact hn)
    unfold mergeKD at ih ⊢
    show List.foldl (fun acc kv => putKD acc kv.1 kv.2) (putKD (kvF pre) (Sum.inl (p.1 : Int)) (.str (lt p.2))) (kvF fs) = _
    rw [put_new, e, ← ih]
    · simp
    · intro kv hkv
      obtain ⟨z, hz, rfl⟩ := List.mem_map.mp hkv
      intro h
      rw [List.map_append, List.nodup_append] at hn
      exact hn.2.2 z.1 (List.mem_map.mpr ⟨z, hz, rfl⟩) p.1 (by simp) (by have := Sum.inl.inj h; omega)
theorem pairs_F (fs : Fs) : pairsD (fs.map fctD) = some (kvF fs) := by
  induction fs with
  | nil => rfl
  | cons p fs ih => simp [pairsD, fctD, keyD, ih]
theorem q_dict {fs : Fs} (hn : (fs.map (·.1)).Nodup) : fDict [fctsD fs] = some (.dic (kvF fs)) := by
  have := merge_new fs [] (by simpa using hn)
  simp only [List.map_nil, List.nil_append] at this
  show (match pairsD (fs.map fctD) with | some l => some (D.dic (mergeKD [] l)) | none => none) = _
  rw [pairs_F]; simp only [this]
/-! ### known -/
theorem q_isint (i : Int) : G_is_integer C [.int i] m = .ok (.bl true) m := by
  simp [G_is_integer, S_is_integer, isi_int, isi_nbl]
theorem q_person (ss : List P4) (ring : Bool) {k : Nat} (hk : k < ss.length) : G_is_person C [lineD ss ring, .int k] m = .ok (.bl true) m := by
  have h1 : decide ((0 : Int) ≤ k) = true := decide_eq_true (by omega)
  have h2 : decide ((k : Int) ≤ (ss.length : Int) - 1) = true := decide_eq_true (by omega)
  have hb : G_is_between C [.int k, .int 0, .int ((ss.length : Int) - 1)] m = .ok (.bl true) m := by
    simp [G_is_between, S_is_between, q_isint, h1, h2]
  simp [G_is_person, S_is_person, line_obj, q_size, hb]
theorem q_letter (b : Bool) : G_is_letter C [.str (lt b)] m = .ok (.bl true) m := by cases b <;> kernel_rfl
theorem items_F (fs : Fs) : (kvF fs).map pairD = fs.map fctD := by
  rw [List.map_map]; rfl
theorem q_isfacts (ss : List P4) (ring : Bool) {fs : Fs} (h : ∀ p ∈ fs, p.1 < ss.length) (hl : fs.length ≤ 1000) : G_is_facts C [lineD ss ring, .dic (kvF fs)] m = .ok (.bl true) m := by
  have c := compN_map (m := m) (g := gTupD (gsCons (gName 2) (gsCons (gName 3) (gsNil)))) (fe := eAndV (eCall (G_is_person C) (aCons (eVar 0) (aCons (eVar 2) (aNil)))) (eCall (G_is_letter C) (aCons (eVar 3) (aNil)))) (r := [some (lineD ss ring), some (.dic (kvF fs)), none, none]) fctD (fun _ => .bl true) fs (by rw [size_val]; omega) (fun p hp => ⟨_, rfl, by
    simp [q_person ss ring (h p hp), q_letter]⟩)
  have hb : fAll [.lst (fs.map fun _ => .bl true)] = some (.bl true) := by
    show (match blsD (fs.map fun _ => .bl true) with | some l => some (D.bl (l.all id)) | none => none) = _
    rw [blsD_of (fun _ => true)]
    simp
  simp [G_is_facts, S_is_facts, isi_dict, items_F, wipeD, c, hb, -List.map_map]
theorem q_rsize (ss : List P4) (ring : Bool) (hl : ss.length ≤ 60) : G_require_size C [lineD ss ring] m = .ok .non m := by
  have : decide ((400 : Int) < ss.length) = false := decide_eq_false (by omega)
  simp [G_require_size, S_require_size, line_obj, q_size, this]
theorem q_known {ss : List P4} (ring : Bool) {fs : Fs} (h : ∀ p ∈ fs, p.1 < ss.length) (hf : fs.length ≤ 1000) (h0 : 0 < ss.length) (hl : ss.length ≤ 60) : G_known C [lineD ss ring, .dic (kvF fs)] m = .ok (optD (KT (phi fs) ss ring)) m := by
  have hk := q_known_text (C := C) (m := m) (f := .dic (kvF fs)) ring (FRs.val (val_phi fs) _ _) h0 (by omega)
  simp [G_known, S_known, q_rsize ss ring hl, q_isfacts ss ring h hf, hk]
theorem phi_nil : phi [] = φ0 := rfl
theorem q_known0 {ss : List P4} (ring : Bool) (h0 : 0 < ss.length) (hl : ss.length ≤ 60) : G_known C [lineD ss ring, .dic []] m = .ok (optD (KT φ0 ss ring)) m :=
  q_known (fs := []) ring (fun p hp => by cases hp) (by simp) h0 hl
/-! ### told_by -/
theorem val_none {fs : Fs} {k : Nat} (h : k ∉ fs.map (·.1)) : valD (kvF fs) (Sum.inl (k : Int)) = none := by rw [val_phi, phi_none h]; rfl
theorem loop_B (C : CE) (ln x1 : Option D) {n : Nat} : ∀ (fs pre : Fs) (m : Store) (x3 x4 : Option D), ((pre ++ fs).map (·.1)).Nodup → m[n]? = some (some (.dic (kvF pre))) → pre.length + fs.length ≤ 1000 →
    ∃ y3 y4, forN (gTupD (gsCons (gName 3) (gsCons (gName 4) (gsNil)))) (sIf (eTest (eBin dNe (eSetd (eVar 2) (eVar 3) (eVar 4)) (eVar 4))) (sRet (eC .non)) (sNil)) (fs.map fctD) [ln, x1, some (.loc n), x3, x4] m = .nx [ln, x1, some (.loc n), y3, y4] (m.set n (some (.dic (kvF (pre ++ fs)))))
  | [], pre, m, x3, x4, _, hm, _ => ⟨x3, x4, by rw [List.map_nil, forN_nil, List.append_nil, set_same hm]⟩
  | p :: fs, pre, m, x3, x4, hn, hm, hl => by
    simp only [List.length_cons] at hl
    have e : pre ++ p :: fs = (pre ++ [p]) ++ fs := by simp
    have hp : p.1 ∉ pre.map (·.1) := fun h => by
      rw [List.map_append, List.nodup_append] at hn
      exact hn.2.2 p.1 h p.1 (by simp) rfl
    have hv := val_none hp
    have hput : putKD (kvF pre) (Sum.inl (p.1 : Int)) (.str (lt p.2)) = kvF (pre ++ [p]) := by
      rw [put_new]
      · simp
      · intro kv hkv h
        obtain ⟨z, hz, rfl⟩ := List.mem_map.mp hkv
        exact hp (List.mem_map.mpr ⟨z, hz, by have := Sum.inl.inj h; omega⟩)
    have hl2 : pre.length < 16777216 := by omega
    have hda : dicAt m (.loc n) = some (n, kvF pre) := by simp [dicAt, hm]
    have hb : (sIf (eTest (eBin dNe (eSetd (eVar 2) (eVar 3) (eVar 4)) (eVar 4))) (sRet (eC .non)) (sNil)) [ln, x1, some (.loc n), some (.int p.1), some (.str (lt p.2))] m = .nx [ln, x1, some (.loc n), some (.int p.1), some (.str (lt p.2))] (m.set n (some (.dic (kvF (pre ++ [p]))))) := by
      simp [hda, keyD, hv, hput, hl2]
    obtain ⟨y3, y4, h⟩ := loop_B C ln x1 fs (pre ++ [p]) _ (some (.int p.1)) (some (.str (lt p.2))) (by rw [← e]; exact hn) (set_at (e := some (.dic (kvF (pre ++ [p])))) hm) (by simp; omega)
    refine ⟨y3, y4, ?_⟩
    rw [List.map_cons, forN_nx (by rfl) hb, h, e, List.set_set]
theorem optD_pure (t : Option Str) : pureD (optD t) = true := by cases t <;> rfl
theorem q_told {ss : List P4} (ring : Bool) {fs : Fs} (hn : (fs.map (·.1)).Nodup) (hf : fs.length ≤ 900) (h0 : 0 < ss.length) (hl : ss.length ≤ 60) : GP_told_by C [lineD ss ring, fctsD fs] m = .ok (optD (KT (phi fs) ss ring)) m := by
  obtain ⟨y3, y4, h⟩ := loop_B C (some (lineD ss ring)) (some (fctsD fs)) (n := m.length) fs [] (m ++ [some (.dic [])]) none none (by simpa using hn) (by simp) (by simp; omega)
  simp only [List.nil_append] at h
  rw [set_new] at h
  have hk := q_known_text (C := C) (m := m ++ [some (.dic (kvF fs))]) (f := .loc m.length) (φ := phi fs) ring (FRs.cell (n := m.length) (by simp) (by simp) (val_phi fs)) h0 (by omega)
  have e : G_told_by C [lineD ss ring, fctsD fs] m = .ok (optD (KT (phi fs) ss ring)) (m ++ [some (.dic (kvF fs))]) := by
    simp [G_told_by, S_told_by, h, hk]
  show popR m _ = _
  rw [e]
  exact popR_tail (optD_pure _)
end DL
namespace DL
open PySem PySem.Spec PyProof.Rows L2
variable {C : CE} {m : Store}
/-! ### equal lists -/
def pyF (p : Nat × Bool) : PyData := .tuple [.int p.1, .str (lt p.2)]
theorem toPyL_F (fs : Fs) : toPyL (fs.map fctD) = some (fs.map pyF) := by
  induction fs with
  | nil => rfl
  | cons p fs ih =>
    have h1 : toPy (fctD p) = some (pyF p) := rfl
    rw [List.map_cons, toPyL, h1, ih]; rfl
theorem lay_F (fs : Fs) : PyData.canLayAll0 (fs.map pyF) = true := by
  induction fs with
  | nil => rfl
  | cons p fs ih =>
    have hs : ∀ b, PyData.strOk (lt b) = true := by intro b; cases b <;> decide +kernel
    simp [PyData.canLayAll0, PyData.canLay0, pyF, ih, hs]
theorem depth_F (fs : Fs) : PyData.depthAll (fs.map pyF) ≤ 2 := by
  induction fs with
  | nil => simp [PyData.depthAll]
  | cons p fs ih =>
    have h1 : PyData.depth (pyF p) ≤ 2 := by simp [pyF, PyData.depth, PyData.depthAll]
    simp only [List.map_cons, PyData.depthAll]; omega
theorem shaped_F (fs : Fs) : SeqAt.shaped (.list (fs.map pyF)) = true := by
  have h1 := lay_F fs
  have h2 := depth_F fs
  unfold SeqAt.shaped
  rw [Bool.and_eq_true, decide_eq_true_eq]
  exact ⟨by rw [PyData.canLay0]; exact h1, by rw [PyData.depth]; omega⟩
theorem dNe_self (fs : Fs) : dNe (fctsD fs) (fctsD fs) = some (.bl false) := by
  have h := PySem.SeqAt.eqv_refl (.list (fs.map pyF)) (by rw [PyData.canLay0]; exact lay_F fs)
  simp [dNe, noneD, eqDat, flatD, toPy, toPyL_F, shaped_F, h]
theorem dEq_nil (fs : Fs) : dEq (fctsD fs) (.lst []) = some (.bl fs.isEmpty) := by
  have h : PyData.eqv (.list (fs.map pyF)) (.list []) = fs.isEmpty := by cases fs <;> simp [PyData.eqv, PyData.eqvAll]
  have h2 := shaped_F []
  simp only [List.map_nil] at h2
  simp [dEq, noneD, eqDat, flatD, toPy, toPyL, toPyL_F, shaped_F, h, h2]
theorem dNe_nil (fs : Fs) : dNe (fctsD fs) (.lst []) = some (.bl (!fs.isEmpty)) := by
  have h : PyData.eqv (.list (fs.map pyF)) (.list []) = fs.isEmpty := by cases fs <;> simp [PyData.eqv, PyData.eqvAll]
  have h2 := shaped_F []
  simp only [List.map_nil] at h2
  simp [dNe, noneD, eqDat, flatD, toPy, toPyL, toPyL_F, shaped_F, h, h2]
abbrev nsD (ks : List Nat) : D := .lst (ks.map fun (k : Nat) => .int (k : Int))
theorem toPyL_N (ks : List Nat) : toPyL (ks.map fun (k : Nat) => .int (k : Int)) = some (ks.map fun (k : Nat) => .int (k : Int)) := by
  induction ks with
  | nil => rfl
  | cons k ks ih => rw [List.map_cons, toPyL, ih]; rfl
theorem dEq_nilN (ks : List Nat) : dEq (nsD ks) (.lst []) = some (.bl ks.isEmpty) := by
  have hl : PyData.canLayAll0 (ks.map fun (k : Nat) => .int (k : Int)) = true := by
    induction ks with
    | nil => rfl
    | cons p fs ih => simp [PyData.canLayAll0, PyData.canLay0, ih]
  have hd : PyData.depthAll (ks.map fun (k : Nat) => .int (k : Int)) ≤ 2 := by
    clear hl
    induction ks with
    | nil => simp [PyData.depthAll]
    | cons p fs ih =>
      simp only [List.map_cons, PyData.depthAll, PyData.depth]; omega
  have hs : SeqAt.shaped (.list (ks.map fun (k : Nat) => .int (k : Int))) = true := by
    unfold SeqAt.shaped
    rw [Bool.and_eq_true, decide_eq_true_eq]
    exact ⟨by rw [PyData.canLay0]; exact hl, by rw [PyData.depth]; omega⟩
  have h : PyData.eqv (.list (ks.map fun (k : Nat) => .int (k : Int))) (.list []) = ks.isEmpty := by cases ks <;> simp [PyData.eqv, PyData.eqvAll]
  have h2 := shaped_F []
  simp only [List.map_nil] at h2
  simp [dEq, noneD, eqDat, flatD, toPy, toPyL, toPyL_N, hs, h, h2]
theorem flatsN (ks : List Nat) : flatsD (ks.map fun (k : Nat) => .int (k : Int)) = some (ks.map fun (k : Nat) => V.int (k : Int)) := by
  induction ks with
  | nil => rfl
  | cons k ks ih => rw [List.map_cons, flatsD, ih]; rfl
theorem dNotInN (k : Nat) (ks : List Nat) : dNotIn (.int k) (nsD ks) = some (.bl (!decide (k ∈ ks))) := by
  have h : inV (V.int (k : Int)) (ks.map fun (k : Nat) => V.int (k : Int)) = decide (k ∈ ks) := by
    unfold inV
    rw [List.any_map, Bool.eq_iff_iff, List.any_eq_true, decide_eq_true_eq]
    constructor
    · rintro ⟨x, hx, e⟩
      have e : ((x : Int) == (k : Int)) = true := e
      have := beq_iff_eq.mp e
      have : x = k := by omega
      rw [← this]; exact hx
    · intro hk
      exact ⟨k, hk, beq_self_eq_true (k : Int)⟩
  simp [dNotIn, inD, flatD, flatsN, h]
theorem optD_ne (t : Option Str) : dNe (optD t) (optD t) = some (.bl false) := by
  cases t with
  | none => kernel_rfl
  | some t => simp [optD]
theorem optD_eq (t : Option Str) : dEq (optD t) (optD t) = some (.bl true) := by
  cases t with
  | none => kernel_rfl
  | some t => simp [optD]
/-! ### what is supposed -/
def supO (ss : List P4) (ring : Bool) (fs : Fs) : D := .obj 4 ([("own_line", lineD ss ring), ("own_facts", fctsD fs)] : FL)
theorem pj1 (a : D) : putFD "own_line" a ([] : FL) = ([("own_line", a)] : FL) := rfl
theorem pj2 (a b : D) : putFD "own_facts" b ([("own_line", a)] : FL) = ([("own_line", a), ("own_facts", b)] : FL) := by kernel_rfl
theorem pj3 (a b c : D) : putFD "own_facts" c ([("own_line", a), ("own_facts", b)] : FL) = ([("own_line", a), ("own_facts", c)] : FL) := by kernel_rfl
theorem lj1 (a b : D) : List.lookup ("own_line" : Str) ([("own_line", a), ("own_facts", b)] : FL) = some a := by kernel_rfl
theorem lj2 (a b : D) : List.lookup ("own_facts" : Str) ([("own_line", a), ("own_facts", b)] : FL) = some b := by kernel_rfl
theorem lj3 (a b : D) : List.lookup ("known" : Str) ([("own_line", a), ("own_facts", b)] : FL) = none := by kernel_rfl
theorem lj4 (a b : D) : List.lookup ("facts" : Str) ([("own_line", a), ("own_facts", b)] : FL) = none := by kernel_rfl
theorem lj5 (a b : D) : List.lookup ("suppose" : Str) ([("own_line", a), ("own_facts", b)] : FL) = none := by kernel_rfl
theorem lj6 (a b : D) : List.lookup ("release" : Str) ([("own_line", a), ("own_facts", b)] : FL) = none := by kernel_rfl
structure FOk (ss : List P4) (fs : Fs) : Prop where
  nd : (fs.map (·.1)).Nodup
  at_ : ∀ p ∈ fs, ss[p.1]? = some none
  n3 : 3 ≤ ss.length
  n60 : ss.length ≤ 60
theorem FOk.lt {ss : List P4} {fs : Fs} (h : FOk ss fs) : ∀ p ∈ fs, p.1 < ss.length := fun p hp => (List.getElem?_eq_some_iff.mp (h.at_ p hp)).1
theorem nodup_len : ∀ (n : Nat) (l : List Nat), l.Nodup → (∀ x ∈ l, x < n) → l.length ≤ n
  | n, l, hn, hl => by
    have := List.Nodup.length_le_of_subset hn (l₂ := List.range n) (fun x hx => List.mem_range.mpr (hl x hx))
    simpa using this
theorem FOk.len {ss : List P4} {fs : Fs} (h : FOk ss fs) : fs.length ≤ 60 := by
  have := nodup_len ss.length (fs.map (·.1)) h.nd (fun x hx => by
    obtain ⟨p, hp, rfl⟩ := List.mem_map.mp hx
    exact h.lt p hp)
  rw [List.length_map] at this
  exact Nat.le_trans this h.n60
theorem q_facts (ss : List P4) (ring : Bool) (fs : Fs) {h : Nat} (hm : m[h]? = some (some (supO ss ring fs))) : G_Supposing_facts C [.loc h] m = .ok (fctsD fs) m := by
  simp [G_Supposing_facts, S_Supposing_facts, fldD, hm, supO, lj2, fList]
theorem q_sknown {ss : List P4} {ring : Bool} {fs : Fs} (hf : FOk ss fs) {h : Nat} (hm : m[h]? = some (some (supO ss ring fs))) : G_Supposing_known C [.loc h] m = .ok (optD (KT (phi fs) ss ring)) m := by
  have ht := q_told (C := C) (m := m) ring hf.nd (by have := hf.len; omega) (by have := hf.n3; omega) hf.n60
  simp [G_Supposing_known, S_Supposing_known, fldD, hm, supO, lj1, lj2, ht]
theorem FOk.drop {ss : List P4} {fs : Fs} (h : FOk ss fs) : FOk ss fs.dropLast := by
  have hs : fs.dropLast.Sublist fs := List.dropLast_sublist fs
  exact ⟨List.Nodup.sublist (hs.map _) h.nd, fun p hp => h.at_ p (hs.subset hp), h.n3, h.n60⟩
theorem FOk.snoc {ss : List P4} {fs : Fs} (h : FOk ss fs) {k : Nat} {b : Bool} (hk : ss[k]? = some none) (hn : k ∉ fs.map (·.1)) : FOk ss (fs ++ [(k, b)]) := by
  refine ⟨?_, fun p hp => ?_, h.n3, h.n60⟩
  · rw [List.map_append, List.nodup_append]
    exact ⟨h.nd, by simp, fun x hx y hy e => hn (by simp at hy; rw [← hy, ← e]; exact hx)⟩
  · rcases List.mem_append.mp hp with hp | hp
    · exact h.at_ p hp
    · simp at hp; rw [hp]; exact hk
theorem cut_drop {α : Type} (l : List α) (h : l ≠ []) : cutD l none (some (-1)) = l.dropLast := by
  have hl : 0 < l.length := List.length_pos_iff.mpr h
  unfold cutD
  have e1 : HT.sIx l.length 0 none = 0 := rfl
  have e2 : HT.sIx l.length l.length (some (-1)) = l.length - 1 := by
    show (if (-1 : Int) < 0 then ((-1 : Int) + (l.length : Int)).toNat else min (-1 : Int).toNat l.length) = _
    rw [if_pos (by omega)]; omega
  rw [e1, e2, List.drop_zero, Nat.sub_zero, List.dropLast_eq_take]
theorem q_release {ss : List P4} {ring : Bool} {fs : Fs} (hf : FOk ss fs) (hne : fs ≠ []) {h : Nat} (hm : m[h]? = some (some (supO ss ring fs))) : G_Supposing_release C [.loc h] m = .ok (optD (KT (phi fs.dropLast) ss ring)) (m.set h (some (supO ss ring fs.dropLast))) := by
  have hc := cut_drop (fs.map fctD) (by simpa using hne)
  have hd : (fs.map fctD).dropLast = fs.dropLast.map fctD := by rw [List.map_dropLast]
  rw [hd] at hc
  have he := dEq_nil fs
  have hne2 : fs.isEmpty = false := by cases fs <;> simp_all
  rw [hne2] at he
  have hk := q_sknown (C := C) (m := m.set h (some (supO ss ring fs.dropLast))) (h := h) (ring := ring) hf.drop (set_at hm)
  have hm2 := set_at (e := some (supO ss ring fs.dropLast)) hm
  simp only [supO] at hm hk hm2 ⊢
  simp [G_Supposing_release, S_Supposing_release, fldD, objD, hm, lj1, lj2, lj3, he, hc, pj3, hm2, hk, -List.map_dropLast]
theorem init_sup {ss : List P4} (ring : Bool) (h0 : 0 < ss.length) (hl : ss.length ≤ 60) (hk : KT φ0 ss ring ≠ none) {M : Store} {h : Nat} (hM : M[h]? = some (some (.obj 4 []))) : G_Supposing_init C [.loc h, lineD ss ring] M = .ok .non (M.set h (some (supO ss ring []))) := by
  have hq := q_known_text (C := C) (m := M) (f := .dic []) (φ := φ0) ring (FRs.val (kvs := []) (fun k => rfl) _ _) h0 (by omega)
  obtain ⟨t, ht⟩ := Option.ne_none_iff_exists'.mp hk
  rw [ht] at hq
  have hm2 := set_at (e := some (.obj 4 ([("own_line", lineD ss ring)] : FL))) hM
  simp [G_Supposing_init, S_Supposing_init, q_rsize ss ring hl, hq, optD, hM, pj1, hm2, pj2, supO]
  rfl
theorem q_suppose {ss : List P4} {ring : Bool} {fs : Fs} {k : Nat} {b : Bool} (hf : FOk ss fs) (hf2 : FOk ss (fs ++ [(k, b)])) {h : Nat} (hm : m[h]? = some (some (supO ss ring fs))) :
    G_Supposing_suppose C [.loc h, .int k, .str (lt b)] m = (match KT (phi (fs ++ [(k, b)])) ss ring with
      | none => .ex 5 [("value", fctD (k, b))] m
      | some t => .ok (.str t) (m.set h (some (supO ss ring (fs ++ [(k, b)]))))) := by
  have hk : k < ss.length := hf2.lt (k, b) (by simp)
  have hp := q_person (C := C) (m := m) ss ring hk
  have ht := q_told (C := C) (m := m) ring hf2.nd (by have := hf2.len; omega) (by have := hf2.n3; omega) hf2.n60
  have hl := q_letter (C := C) (m := m) b
  have hlen : fs.length + 1 ≤ 16777216 := by have := hf.len; omega
  have e1 : fctsD (fs ++ [(k, b)]) = .lst (fs.map fctD ++ [.tup [.int k, .str (lt b)]]) := by simp [fctD]
  rw [e1] at ht
  cases hK : KT (phi (fs ++ [(k, b)])) ss ring with
  | none =>
    rw [hK] at ht
    simp only [supO] at hm
    simp [G_Supposing_suppose, S_Supposing_suppose, fldD, hm, lj1, lj2, hp, hl, hlen, ht, optD, fctD]
  | some t =>
    rw [hK] at ht
    simp only [supO] at hm ⊢
    simp [G_Supposing_suppose, S_Supposing_suppose, fldD, hm, lj1, lj2, hp, hl, hlen, ht, optD, fctD, pj3]
    simp only [e1]
end DL
namespace DL
open PySem PySem.Spec PyProof.Rows L2
variable {C : CE} {m : Store}
/-! ### the law's own defs -/
def reprS (k : Nat) (b : Bool) : Str := "(" ++ Str.ofString (toString (k : Int)) ++ ", '" ++ lt b ++ "')"
theorem q_repr {k : Nat} (hk : k < 7) (b : Bool) : fRepr [fctD (k, b)] = some (.str (reprS k b)) ∧ (reprS k b).length = 8 := by
  match k, hk with
  | 0, _ => cases b <;> exact ⟨by kernel_rfl, by decide +kernel⟩
  | 1, _ => cases b <;> exact ⟨by kernel_rfl, by decide +kernel⟩
  | 2, _ => cases b <;> exact ⟨by kernel_rfl, by decide +kernel⟩
  | 3, _ => cases b <;> exact ⟨by kernel_rfl, by decide +kernel⟩
  | 4, _ => cases b <;> exact ⟨by kernel_rfl, by decide +kernel⟩
  | 5, _ => cases b <;> exact ⟨by kernel_rfl, by decide +kernel⟩
  | 6, _ => cases b <;> exact ⟨by kernel_rfl, by decide +kernel⟩
theorem q_supposed {ss : List P4} {ring : Bool} {fs : Fs} {k : Nat} {b : Bool} (hf : FOk ss fs) (hf2 : FOk ss (fs ++ [(k, b)])) (hk : k < 7) {h : Nat} (hm : m[h]? = some (some (supO ss ring fs))) :
    G_law_supposed C [.loc h, .int k, .str (lt b)] m = (match KT (phi (fs ++ [(k, b)])) ss ring with
      | none => .ok (.str (reprS k b)) m
      | some t => .ok (.str t) (m.set h (some (supO ss ring (fs ++ [(k, b)]))))) := by
  have hs := q_suppose (C := C) (ring := ring) hf hf2 hm
  have hr := (q_repr hk b).1
  have lv : List.lookup ("value" : Str) [(("value" : Str), fctD (k, b))] = some (fctD (k, b)) := by kernel_rfl
  have vf : ∀ m : Store, vw m (fctD (k, b)) = fctD (k, b) := fun _ => rfl
  have ho : ∀ mm : Store, mm[h]? = some (some (supO ss ring fs)) → objD 4 (.loc h) mm = some ([("own_line", lineD ss ring), ("own_facts", fctsD fs)] : FL) := fun mm e => by simp [objD, e, supO]
  cases hK : KT (phi (fs ++ [(k, b)])) ss ring with
  | none =>
    rw [hK] at hs
    simp [G_law_supposed, S_law_supposed, sTry, ho m hm, lj5, hs, eFs, lv, vf, hr]
  | some t =>
    rw [hK] at hs
    simp [G_law_supposed, S_law_supposed, sTry, ho m hm, lj5, hs]
abbrev sgD (p : P4) : D := .str (T (sg p))
theorem sg01 (b : Bool) : dIx (.lst [.str "0000", .str "1111"]) (.int (if b then 1 else 0)) = some (sgD (some (b, b, b, b))) := by cases b <;> kernel_rfl
theorem lt_T (b : Bool) : decide (lt b = "T") = b := by cases b <;> decide +kernel
def setF (fs : Fs) (ss : List P4) : List P4 := fs.foldl (fun ss p => ss.set p.1 (some (p.2, p.2, p.2, p.2))) ss
theorem setF_len : ∀ (fs : Fs) (ss : List P4), (setF fs ss).length = ss.length
  | [], _ => rfl
  | p :: fs, ss => by
    show (setF fs (ss.set p.1 _)).length = _
    rw [setF_len fs]; simp
theorem loop_S (C : CE) (x0 x1 : Option D) {n : Nat} : ∀ (fs : Fs) (ss : List P4) (m : Store) (x3 x4 : Option D), (∀ p ∈ fs, p.1 < ss.length) → m[n]? = some (some (.lst (ss.map sgD))) →
    ∃ y3 y4, forN (gTupD (gsCons (gName 3) (gsCons (gName 4) (gsNil)))) (sPut (eVar 2) (eVar 3) (eBin dIx (eLst (aCons (eC (.str "0000")) (aCons (eC (.str "1111")) (aNil)))) (eCB fInt (aCons (eBin dEq (eVar 4) (eC (.str "T"))) (aNil))))) (fs.map fctD) [x0, x1, some (.loc n), x3, x4] m = .nx [x0, x1, some (.loc n), y3, y4] (m.set n (some (.lst ((setF fs ss).map sgD))))
  | [], ss, m, x3, x4, _, hm => ⟨x3, x4, by rw [List.map_nil, forN_nil]; show _ = RS.nx _ (m.set n (some (.lst (ss.map sgD)))); rw [set_same hm]⟩
  | p :: fs, ss, m, x3, x4, hl, hm => by
    have hp := hl p (List.mem_cons_self ..)
    have h1 := sg01 p.2
    have h2 := lt_T p.2
    have hi : fInt [.bl p.2] = some (.int (if p.2 then 1 else 0)) := rfl
    have hx : ixN (ss.map sgD).length (p.1 : Int) = some p.1 := by
      unfold ixN; rw [if_pos (by omega), if_pos (by simp; exact hp)]; simp
    have hput : putD (.loc n) (.int p.1) (sgD (some (p.2, p.2, p.2, p.2))) m = some (m.set n (some (.lst ((ss.set p.1 (some (p.2, p.2, p.2, p.2))).map sgD)))) := by
      simp only [putD, hm, hx, List.map_set]
    have hb : (sPut (eVar 2) (eVar 3) (eBin dIx (eLst (aCons (eC (.str "0000")) (aCons (eC (.str "1111")) (aNil)))) (eCB fInt (aCons (eBin dEq (eVar 4) (eC (.str "T"))) (aNil))))) [x0, x1, some (.loc n), some (.int p.1), some (.str (lt p.2))] m = .nx [x0, x1, some (.loc n), some (.int p.1), some (.str (lt p.2))] (m.set n (some (.lst ((ss.set p.1 (some (p.2, p.2, p.2, p.2))).map sgD)))) := by
      simp only [dIx_lst] at h1
      simp only [sgD] at h1 hput ⊢
      simp [h2, hi, h1, hput]
    obtain ⟨y3, y4, h⟩ := loop_S C x0 x1 fs (ss.set p.1 (some (p.2, p.2, p.2, p.2))) _ (some (.int p.1)) (some (.str (lt p.2))) (fun q hq => by rw [List.length_set]; exact hl q (List.mem_cons_of_mem _ hq)) (set_at (e := some (.lst ((ss.set p.1 (some (p.2, p.2, p.2, p.2))).map sgD))) hm)
    refine ⟨y3, y4, ?_⟩
    rw [List.map_cons, forN_nx (by rfl) hb, h, List.set_set]
    rfl
theorem sgs_pure (ss : List P4) : pureL (ss.map sgD) = true := by
  induction ss with
  | nil => rfl
  | cons p ss ih => simp [pureL, pureD, ih]
theorem q_stated {ss : List P4} {fs : Fs} (h : ∀ p ∈ fs, p.1 < ss.length) : GP_law_stated C [.lst (ss.map sgD), fctsD fs] m = .ok (.lst ((setF fs ss).map sgD)) m := by
  obtain ⟨y3, y4, hl⟩ := loop_S C (some (.lst (ss.map sgD))) (some (fctsD fs)) (n := m.length) fs ss (m ++ [some (.lst (ss.map sgD))]) none none h (by simp)
  rw [set_new] at hl
  have e : G_law_stated C [.lst (ss.map sgD), fctsD fs] m = .ok (.lst ((setF fs ss).map sgD)) (m ++ [none]) := by
    simp [G_law_stated, S_law_stated, fList, hl]
  show popR m _ = _
  rw [e]
  exact popR_tail (by simpa [pureD] using sgs_pure _)
theorem setF_at : ∀ (fs : Fs) (ss : List P4) (i : Nat), (fs.map (·.1)).Nodup → i < ss.length → (setF fs ss)[i]? = some (match phi fs i with | some b => some (b, b, b, b) | none => ss.getD i none)
  | [], ss, i, _, hi => getD_of hi none
  | p :: fs, ss, i, hn, hi => by
    simp only [List.map_cons, List.nodup_cons] at hn
    show (setF fs (ss.set p.1 _))[i]? = _
    rw [setF_at fs _ i hn.2 (by rw [List.length_set]; exact hi)]
    have hph : phi (p :: fs) i = if p.1 = i then some p.2 else phi fs i := rfl
    rw [hph]
    by_cases e : p.1 = i
    · subst e
      rw [phi_none hn.1, if_pos rfl]
      simp only [List.getD_eq_getElem?_getD, List.getElem?_set_self hi, Option.getD_some]
    · rw [if_neg e]
      simp only [List.getD_eq_getElem?_getD, List.getElem?_set_ne e]
theorem stat_at (φ : Fc) : ∀ (ss : List P4) (k i : Nat), i < ss.length → (stat φ k ss)[i]? = some (match φ (k + i) with | some b => some (b, b, b, b) | none => ss.getD i none)
  | [], _, _, hi => by simp at hi
  | p :: ss, k, 0, _ => rfl
  | p :: ss, k, i + 1, hi => by
    simp only [stat, List.getElem?_cons_succ]
    rw [stat_at φ ss (k + 1) i (by simpa using hi)]
    have : k + 1 + i = k + (i + 1) := by omega
    rw [this]; simp
theorem setF_stat {fs : Fs} {ss : List P4} (hn : (fs.map (·.1)).Nodup) : setF fs ss = stat (phi fs) 0 ss := by
  apply List.ext_getElem?
  intro i
  by_cases hi : i < ss.length
  · rw [setF_at fs ss i hn hi, stat_at (phi fs) ss 0 i hi, Nat.zero_add]
  · rw [List.getElem?_eq_none (by rw [setF_len]; omega), List.getElem?_eq_none (by rw [stat_len]; omega)]
theorem fr_of {φ : Fc} : ∀ (ss : List P4) (k : Nat), (∀ i b, φ (k + i) = some b → i < ss.length → ss[i]? = some none) → Fr φ k ss
  | [], _, _ => trivial
  | p :: ss, k, h => ⟨fun b hb => by
      have := h 0 b (by simpa using hb) (by simp)
      simpa using this, fr_of ss (k + 1) fun i b hb hi => by
      have := h (i + 1) b (by rw [show k + (i + 1) = k + 1 + i by omega]; exact hb) (by simp; exact hi)
      simpa using this⟩
theorem FOk.kt {ss : List P4} {fs : Fs} (h : FOk ss fs) (ring : Bool) : KT φ0 (setF fs ss) ring = KT (phi fs) ss ring := by
  rw [setF_stat h.nd]
  refine (KT_stat (fr_of ss 0 fun i b hb hi => ?_) ?_ ring).symm
  · exact h.at_ (i, b) (phi_mem (by simpa using hb))
  · refine phi_none fun hm => ?_
    obtain ⟨p, hp, e⟩ := List.mem_map.mp hm
    have := h.lt p hp
    omega
theorem q_same {ss : List P4} (ring : Bool) {fs : Fs} (h : FOk ss fs) : G_law_same C [.lst (ss.map sgD), .bl ring, fctsD fs, optD (KT (phi fs) ss ring)] m = .ok (.bl true) m := by
  have n3 := h.n3
  have n60 := h.n60
  have h1 := q_stated (C := C) (m := m) h.lt
  have h2 := q_line (C := C) (m := m) (setF fs ss) ring (by rw [setF_len]; exact n3) (by rw [setF_len]; exact n60)
  have h3 := q_known0 (C := C) (m := m) (ss := setF fs ss) ring (by rw [setF_len]; omega) (by rw [setF_len]; exact n60)
  rw [h.kt] at h3
  have h4 := q_line (C := C) (m := m) ss ring n3 n60
  have h5 := q_known (C := C) (m := m) ring h.lt (by have := h.len; omega) (by omega) n60
  have h6 := q_dict h.nd
  have hr : ∀ p ∈ fs.reverse, p.1 < ss.length := fun p hp => h.lt p (List.mem_reverse.mp hp)
  have h7 := q_known (C := C) (m := m) ring hr (by have := h.len; simp; omega) (by omega) n60
  rw [phi_rev h.nd] at h7
  have h8 := q_dict (fs := fs.reverse) (by rw [List.map_reverse]; exact (List.Perm.nodup_iff (List.reverse_perm _)).mpr h.nd)
  have h9 := optD_ne (KT (phi fs) ss ring)
  have h10 := optD_eq (KT (phi fs) ss ring)
  have vo : ∀ t, vw m (optD t) = optD t := fun t => by cases t <;> rfl
  have hrev : (fs.map fctD).reverse = fs.reverse.map fctD := by rw [List.map_reverse]
  simp [G_law_same, S_law_same, h1, h2, h3, h4, h5, h6, h7, h8, h9, h10, vo, hrev, -List.map_reverse]
end DL
namespace DL
open PySem PySem.Spec PyProof.Rows L2
variable {C : CE} {m : Store}
/-! ### numbers -/
theorem dMod_int (i j : Int) (h : 0 < j) : dMod (.int i) (.int j) = some (.int (i % j)) := if_pos h
theorem dDiv_int (i j : Int) (h : 0 < j) (h2 : j < 2 ^ 64) : dDiv (.int i) (.int j) = some (.int (i / j)) := by
  refine if_pos ⟨h, ?_⟩
  have h3 : j.natAbs < 2 ^ 64 := by omega
  have : j.natAbs.log2 < 64 := (Nat.log2_lt (by omega)).mpr h3
  omega
theorem smallI_of (i : Int) (h : i.natAbs < 2 ^ 64) : smallI i = true := by
  unfold smallI
  rw [decide_eq_true_eq]
  by_cases h0 : i.natAbs = 0
  · rw [h0]; decide
  · have : i.natAbs.log2 < 64 := (Nat.log2_lt h0).mpr h
    omega
theorem dMul_int (i j : Int) (h : i.natAbs < 2 ^ 64) (h2 : j.natAbs < 2 ^ 64) : dMul (.int i) (.int j) = some (.int (i * j)) := by
  unfold dMul
  simp only [smallI_of i h, smallI_of j h2, Bool.and_self, if_true]
theorem dPow_int (i j : Int) (h : i.natAbs < 2 ^ 64) (h1 : 0 ≤ j) (h2 : j ≤ 1000000) : dPow (.int i) (.int j) = some (.int (i ^ j.toNat)) := if_pos ⟨h1, h2, h⟩
abbrev rN (c s z N l : D) (n : Nat) (k o : Option D) : DEnv := [some c, some s, some z, some N, some l, some (.loc n), k, o]
theorem s1_N (c z l : D) (N s : Int) (n : Nat) (k : Int) (o : Option D) (hs : 0 ≤ s) (hs2 : s ≤ 100000) : ∃ a : Int, 0 ≤ a ∧ a < 2147483647 ∧
    sSet 7 (eBin dMod (eBin dPow (eBin dAdd (eBin dAdd (eBin dMod (eVar 3) (eC (.int 2147483629))) (eBin dMul (eC (.int 7919)) (eVar 1))) (eC (.int 1))) (eC (.int 3))) (eC (.int 2147483647))) (rN c (.int s) z (.int N) l n (some (.int k)) o) m = .nx (rN c (.int s) z (.int N) l n (some (.int k)) (some (.int a))) m := by
  have h1 := Int.emod_nonneg N (show (2147483629 : Int) ≠ 0 by omega)
  have h2 := Int.emod_lt_of_pos N (show (0 : Int) < 2147483629 by omega)
  have hm := dMul_int 7919 s (by decide) (by omega)
  have hp := dPow_int (N % 2147483629 + 7919 * s + 1) 3 (by omega) (by omega) (by omega)
  refine ⟨(N % 2147483629 + 7919 * s + 1) ^ (3 : Int).toNat % 2147483647, Int.emod_nonneg _ (by omega), Int.emod_lt_of_pos _ (by omega), ?_⟩
  have hq := dMod_int ((N % 2147483629 + 7919 * s + 1) ^ (3 : Int).toNat) 2147483647 (by omega)
  simp only [sSet_ap, eBin_ap, eVar_ap, eC_ap, List.getElem?_cons_zero, List.getElem?_cons_succ, bind_ok, vw_int, dMod_int N 2147483629 (by omega), hm, ofO_some, dAdd_int, hp, hq, thenS_ok, List.set_cons_succ, List.set_cons_zero]
theorem s2_N (c s z N l : D) (n k : Nat) (a : Int) (h0 : 0 ≤ a) (ha : a < 2147483647) (hk : k < 1000) : ∃ b : Int, 0 ≤ b ∧ b < 2147483647 ∧
    sSet 7 (eBin dMod (eBin dMul (eBin dAdd (eVar 7) (eBin dMul (eC (.int 104729)) (eBin dAdd (eVar 6) (eC (.int 1))))) (eBin dAdd (eVar 6) (eC (.int 3)))) (eC (.int 2147483629))) (rN c s z N l n (some (.int k)) (some (.int a))) m = .nx (rN c s z N l n (some (.int k)) (some (.int b))) m := by
  have hm := dMul_int 104729 ((k : Int) + 1) (by decide) (by omega)
  have hb : (a + 104729 * ((k : Int) + 1)).natAbs < 2 ^ 64 := by omega
  have hm2 := dMul_int (a + 104729 * ((k : Int) + 1)) ((k : Int) + 3) hb (by omega)
  have hq := dMod_int ((a + 104729 * ((k : Int) + 1)) * ((k : Int) + 3)) 2147483629 (by omega)
  have h1 := Int.emod_nonneg ((a + 104729 * ((k : Int) + 1)) * ((k : Int) + 3)) (show (2147483629 : Int) ≠ 0 by omega)
  have h2 := Int.emod_lt_of_pos ((a + 104729 * ((k : Int) + 1)) * ((k : Int) + 3)) (show (0 : Int) < 2147483629 by omega)
  refine ⟨(a + 104729 * ((k : Int) + 1)) * ((k : Int) + 3) % 2147483629, h1, by omega, ?_⟩
  simp only [sSet_ap, eBin_ap, eVar_ap, eC_ap, List.getElem?_cons_zero, List.getElem?_cons_succ, bind_ok, vw_int, hm, ofO_some, dAdd_int, hm2, hq, thenS_ok, List.set_cons_succ, List.set_cons_zero]
theorem s3_N (c s z N l : D) (n : Nat) (k : Option D) (a : Int) (h0 : 0 ≤ a) (ha : a < 2147483647) : ∃ b : Int, 0 ≤ b ∧ b < 2147483647 ∧
    sSet 7 (eBin dMod (eBin dMul (eBin dMod (eBin dPow (eVar 7) (eC (.int 5))) (eC (.int 2147483647))) (eC (.int 48271))) (eC (.int 2147483629))) (rN c s z N l n k (some (.int a))) m = .nx (rN c s z N l n k (some (.int b))) m := by
  have hp := dPow_int a 5 (by omega) (by omega) (by omega)
  have hq := dMod_int (a ^ (5 : Int).toNat) 2147483647 (by omega)
  have h1 := Int.emod_nonneg (a ^ (5 : Int).toNat) (show (2147483647 : Int) ≠ 0 by omega)
  have h2 := Int.emod_lt_of_pos (a ^ (5 : Int).toNat) (show (0 : Int) < 2147483647 by omega)
  have hm := dMul_int (a ^ (5 : Int).toNat % 2147483647) 48271 (by omega) (by decide)
  have hq2 := dMod_int (a ^ (5 : Int).toNat % 2147483647 * 48271) 2147483629 (by omega)
  have h3 := Int.emod_nonneg (a ^ (5 : Int).toNat % 2147483647 * 48271) (show (2147483629 : Int) ≠ 0 by omega)
  have h4 := Int.emod_lt_of_pos (a ^ (5 : Int).toNat % 2147483647 * 48271) (show (0 : Int) < 2147483629 by omega)
  refine ⟨a ^ (5 : Int).toNat % 2147483647 * 48271 % 2147483629, h3, by omega, ?_⟩
  simp only [sSet_ap, eBin_ap, eVar_ap, eC_ap, List.getElem?_cons_zero, List.getElem?_cons_succ, bind_ok, vw_int, hp, hq, hm, hq2, ofO_some, thenS_ok, List.set_cons_succ, List.set_cons_zero]
noncomputable abbrev bodyN : DS := (sIf (eAnd (eTest (eBin dGe (eVar 3) (eBin dPow (eC (.int 10)) (eC (.int 18))))) (eTest (eBin dGt (eVar 4) (eC (.int 0))))) (sCons (sExpr (eOnL appD (eVar 5) (eBin dMod (eVar 4) (eBin dIx (eVar 2) (eVar 6))))) <|
      sSet 4 (eBin dDiv (eVar 4) (eBin dIx (eVar 2) (eVar 6)))) (sCons (sSet 7 (eBin dMod (eBin dPow (eBin dAdd (eBin dAdd (eBin dMod (eVar 3) (eC (.int 2147483629))) (eBin dMul (eC (.int 7919)) (eVar 1))) (eC (.int 1))) (eC (.int 3))) (eC (.int 2147483647)))) <|
      sCons (sSet 7 (eBin dMod (eBin dMul (eBin dAdd (eVar 7) (eBin dMul (eC (.int 104729)) (eBin dAdd (eVar 6) (eC (.int 1))))) (eBin dAdd (eVar 6) (eC (.int 3)))) (eC (.int 2147483629)))) <|
      sCons (sSet 7 (eBin dMod (eBin dMul (eBin dMod (eBin dPow (eVar 7) (eC (.int 5))) (eC (.int 2147483647))) (eC (.int 48271))) (eC (.int 2147483629)))) <|
      sExpr (eOnL appD (eVar 5) (eBin dMod (eBin dDiv (eVar 7) (eC (.int 16))) (eBin dIx (eVar 2) (eVar 6))))))
abbrev z420 (N : Nat) : D := .lst (List.replicate N (.int 420))
theorem body_N {c : D} {s N l : Int} {n k sz : Nat} {o : Option D} {L : List Int} (hs : 0 ≤ s) (hs2 : s ≤ 100000) (hk : k < sz) (hz : sz < 1000) (hm : m[n]? = some (some (.lst (L.map .int)))) (hL : L.length ≤ 1000) :
    ∃ (l' x : Int) (o' : Option D), bodyN (rN c (.int s) (z420 sz) (.int N) (.int l) n (some (.int k)) o) m = .nx (rN c (.int s) (z420 sz) (.int N) (.int l') n (some (.int k)) o') (m.set n (some (.lst ((L ++ [x]).map .int)))) := by
  have hx : atI (List.replicate sz (.int 420 : D)) (k : Int) = some (.int 420) := by rw [atI_nat]; simp [hk]
  have hm1 := lstAt_loc _ hm
  have hl2 : L.length < 16777216 := by omega
  have e18 : dPow (.int 10) (.int 18) = some (.int 1000000000000000000) := by
    rw [dPow_int 10 18 (by decide) (by omega) (by omega)]; rfl
  by_cases h1 : (1000000000000000000 : Int) ≤ N
  · by_cases h2 : 0 < l
    · refine ⟨l / 420, l % 420, o, ?_⟩
      simp [e18, h1, h2, hx, dMod_int l 420 (by omega), dDiv_int l 420 (by omega) (by omega), hm1, appD, hl2]
    · obtain ⟨a, a0, a1, ea⟩ := s1_N (m := m) c (z420 sz) (.int l) N s n k o hs hs2
      obtain ⟨b, b0, b1, eb⟩ := s2_N (m := m) c (.int s) (z420 sz) (.int N) (.int l) n k a a0 a1 (by omega)
      obtain ⟨d, d0, d1, ed⟩ := s3_N (m := m) c (.int s) (z420 sz) (.int N) (.int l) n (some (.int k)) b b0 b1
      refine ⟨l, d / 16 % 420, some (.int d), ?_⟩
      have ec : eAnd (eTest (eBin dGe (eVar 3) (eBin dPow (eC (.int 10)) (eC (.int 18))))) (eTest (eBin dGt (eVar 4) (eC (.int 0)))) (rN c (.int s) (z420 sz) (.int N) (.int l) n (some (.int k)) o) m = .ok false m := by simp [e18, h1, h2]
      unfold bodyN
      rw [sIf_ap, ec, thenT_ok, if_neg (by simp), sCons_ap, ea, thenN_nx, sCons_ap, eb, thenN_nx, sCons_ap, ed, thenN_nx]
      simp [hx, dDiv_int d 16 (by omega) (by omega), dMod_int (d / 16) 420 (by omega), hm1, appD, hl2]
  · obtain ⟨a, a0, a1, ea⟩ := s1_N (m := m) c (z420 sz) (.int l) N s n k o hs hs2
    obtain ⟨b, b0, b1, eb⟩ := s2_N (m := m) c (.int s) (z420 sz) (.int N) (.int l) n k a a0 a1 (by omega)
    obtain ⟨d, d0, d1, ed⟩ := s3_N (m := m) c (.int s) (z420 sz) (.int N) (.int l) n (some (.int k)) b b0 b1
    refine ⟨l, d / 16 % 420, some (.int d), ?_⟩
    have ec : eAnd (eTest (eBin dGe (eVar 3) (eBin dPow (eC (.int 10)) (eC (.int 18))))) (eTest (eBin dGt (eVar 4) (eC (.int 0)))) (rN c (.int s) (z420 sz) (.int N) (.int l) n (some (.int k)) o) m = .ok false m := by simp [e18, h1]
    unfold bodyN
    rw [sIf_ap, ec, thenT_ok, if_neg (by simp), sCons_ap, ea, thenN_nx, sCons_ap, eb, thenN_nx, sCons_ap, ed, thenN_nx]
    simp [hx, dDiv_int d 16 (by omega) (by omega), dMod_int (d / 16) 420 (by omega), hm1, appD, hl2]
theorem loop_N {c : D} {s N : Int} {n sz : Nat} (hs : 0 ≤ s) (hs2 : s ≤ 100000) (hz : sz < 1000) : ∀ (ks : List Nat) (m : Store) (l : Int) (k o : Option D) (L : List Int), (∀ k ∈ ks, k < sz) → m[n]? = some (some (.lst (L.map .int))) → L.length + ks.length ≤ 1000 →
    ∃ (l' : Int) (k' o' : Option D) (L' : List Int), L'.length = L.length + ks.length ∧ forN (gName 6) bodyN (ks.map fun (i : Nat) => .int (i : Int)) (rN c (.int s) (z420 sz) (.int N) (.int l) n k o) m = .nx (rN c (.int s) (z420 sz) (.int N) (.int l') n k' o') (m.set n (some (.lst (L'.map .int))))
  | [], m, l, k, o, L, _, hm, _ => ⟨l, k, o, L, rfl, by rw [List.map_nil, forN_nil, set_same hm]⟩
  | j :: ks, m, l, k, o, L, hk, hm, hL => by
    simp only [List.length_cons] at hL
    obtain ⟨l1, x, o1, hb⟩ := body_N (c := c) (N := N) (l := l) (o := o) hs hs2 (hk j (List.mem_cons_self ..)) hz hm (by omega)
    obtain ⟨l2, k2, o2, L2, hl2, h⟩ := loop_N hs hs2 hz (c := c) (N := N) ks _ l1 (some (.int j)) o1 (L ++ [x]) (fun i hi => hk i (List.mem_cons_of_mem _ hi)) (set_at (e := some (.lst ((L ++ [x]).map .int))) hm) (by simp; omega)
    refine ⟨l2, k2, o2, L2, by rw [hl2]; simp; omega, ?_⟩
    rw [List.map_cons, forN_nx (by rfl) hb, h, List.set_set]
theorem ints_pure (L : List Int) : pureL (L.map D.int) = true := by
  induction L with
  | nil => rfl
  | cons p ss ih => simp [pureL, pureD, ih]
theorem q_numbers (c s : Int) (sz : Nat) (hs : 0 ≤ s) (hs2 : s ≤ 100000) (hz : sz < 1000) : ∃ L : List Int, L.length = sz ∧ GP_law_numbers C [.int c, .int s, z420 sz] m = .ok (.lst (L.map .int)) m := by
  have h0 : ∃ N : Int, fMax [.int c, .int (-1 - c)] = some (.int N) := ⟨_, rfl⟩
  obtain ⟨N, hN⟩ := h0
  obtain ⟨l', k', o', L, hl, h⟩ := loop_N (c := .int c) (N := N) (n := m.length) (s := s) hs hs2 hz (List.range sz) (m ++ [some (.lst [])]) N none none [] (fun k hk => List.mem_range.mp hk) (by simp) (by simp; omega)
  rw [set_new] at h
  refine ⟨L, by simpa using hl, ?_⟩
  have r1 : rngB ((sz : Int)) = true := rngB_iff.mpr (by omega)
  have e : G_law_numbers C [.int c, .int s, z420 sz] m = .ok (.lst (L.map .int)) (m ++ [none]) := by
    simp [G_law_numbers, S_law_numbers, hN, r1, steps0, h, -List.map_map]
  show popR m _ = _
  rw [e]
  exact popR_tail (by simpa [pureD] using ints_pure L)
end DL
namespace DL
open PySem PySem.Spec PyProof.Rows L2
variable {C : CE} {m : Store}
abbrev stateD (L : List Int) (a : Nat) : D := .lst [.lst (L.map .int), .int (a : Int)]
theorem q_draw {L : List Int} {a s n : Nat} (hm : m[s]? = some (some (stateD L a))) (hn : 0 < n) : ∃ v : Nat, v < n ∧ G_law_draw C [.loc s, .int n] m = .ok (.int v) (m.set s (some (stateD L (a + 1)))) := by
  have a1 : atI [(.lst (L.map .int) : D), .int (a : Int)] (1 : Int) = some (.int a) := rfl
  have a0 : ∀ b : Int, atI [(.lst (L.map .int) : D), .int b] (0 : Int) = some (.lst (L.map .int)) := fun _ => rfl
  have hp : ∀ d : D, putD (.loc s) (.int 1) d m = some (m.set s (some (.lst [.lst (L.map .int), d]))) := fun d => by
    simp only [putD, hm]; rfl
  have h2 := set_at (e := some (stateD L (a + 1))) hm
  have e1 : ((a + 1 : Nat) : Int) = (a : Int) + 1 := by omega
  simp only [stateD, e1] at h2 hm ⊢
  by_cases hl : a < L.length
  · have hx : atI (L.map D.int) (a : Int) = some (.int L[a]) := by rw [atI_nat]; simp [hl]
    have b1 : (a : Int) < (L.length : Int) := by omega
    have hq := dMod_int L[a] n (by omega)
    have q0 := Int.emod_nonneg L[a] (show (n : Int) ≠ 0 by omega)
    have q1 := Int.emod_lt_of_pos L[a] (show (0 : Int) < n by omega)
    refine ⟨(L[a] % n).toNat, by omega, ?_⟩
    have e2 : (((L[a] % n).toNat : Nat) : Int) = L[a] % n := Int.toNat_of_nonneg q0
    rw [e2]
    simp [G_law_draw, S_law_draw, hm, a1, hp, h2, a0, b1, hx, hq]
  · have b1 : ¬ (a : Int) < (L.length : Int) := by omega
    refine ⟨0, hn, ?_⟩
    simp [G_law_draw, S_law_draw, hm, a1, hp, h2, a0, b1]
theorem sign_at (v : Nat) (hv : v < 16) (x y : Option D) : ∃ p : P4, (eM1 dJoin (eC (.str "")) (eLc [2] (iSeq (eLst (aCons (eC (.int 8)) (aCons (eC (.int 4)) (aCons (eC (.int 2)) (aCons (eC (.int 1)) (aNil))))))) (gName 2) (dTrue) (eCB fStr (aCons (eBin dMod (eBin dDiv (eVar 1) (eVar 2)) (eC (.int 2))) (aNil))))) [x, some (.int v), y] m = .ok (sgD p) m := by
  match v, hv with
  | 0, _ => exact ⟨some (false, false, false, false), by kernel_rfl⟩
  | 1, _ => exact ⟨some (false, false, false, true), by kernel_rfl⟩
  | 2, _ => exact ⟨some (false, false, true, false), by kernel_rfl⟩
  | 3, _ => exact ⟨some (false, false, true, true), by kernel_rfl⟩
  | 4, _ => exact ⟨some (false, true, false, false), by kernel_rfl⟩
  | 5, _ => exact ⟨some (false, true, false, true), by kernel_rfl⟩
  | 6, _ => exact ⟨some (false, true, true, false), by kernel_rfl⟩
  | 7, _ => exact ⟨some (false, true, true, true), by kernel_rfl⟩
  | 8, _ => exact ⟨some (true, false, false, false), by kernel_rfl⟩
  | 9, _ => exact ⟨some (true, false, false, true), by kernel_rfl⟩
  | 10, _ => exact ⟨some (true, false, true, false), by kernel_rfl⟩
  | 11, _ => exact ⟨some (true, false, true, true), by kernel_rfl⟩
  | 12, _ => exact ⟨some (true, true, false, false), by kernel_rfl⟩
  | 13, _ => exact ⟨some (true, true, false, true), by kernel_rfl⟩
  | 14, _ => exact ⟨some (true, true, true, false), by kernel_rfl⟩
  | 15, _ => exact ⟨some (true, true, true, true), by kernel_rfl⟩
  | v + 16, hv => exact absurd hv (by omega)
theorem q_sign {L : List Int} {a s : Nat} (hm : m[s]? = some (some (stateD L a))) : ∃ p : P4, G_law_sign C [.loc s] m = .ok (sgD p) (m.set s (some (stateD L (a + 1)))) := by
  obtain ⟨v, hv, hd⟩ := q_draw (C := C) (n := 16) hm (by omega)
  obtain ⟨p, hp⟩ := sign_at (m := m.set s (some (stateD L (a + 1)))) v hv (some (.loc s)) none
  have hd : G_law_draw C [.loc s, .int 16] m = .ok (.int v) (m.set s (some (stateD L (a + 1)))) := hd
  refine ⟨p, ?_⟩
  simp only [G_law_sign, S_law_sign, List.length_cons, List.length_nil, if_true, runB_eq, startD_cons, startD_nil, sCons_ap, sSet_ap, eCall_ap, aCons_ap, eVar_ap, eC_ap, aNil_ap, List.getElem?_cons_zero, bind_ok, hd, thenS_ok, thenN_nx, sRet_ap, List.replicate, List.set_cons_succ, List.set_cons_zero, hp, Nat.zero_add, reduceIte]
theorem joinL_len : ∀ ys : List (List Nat), (TL.joinL [] ys).length = (ys.map List.length).sum
  | [] => rfl
  | [x] => by simp [TL.joinL]
  | x :: y :: r => by
    have ih := joinL_len (y :: r)
    simp only [TL.joinL, List.append_nil, List.length_append, List.map_cons, List.sum_cons, List.length_nil] at ih ⊢
    omega
theorem join_len (ts : List Str) : (Txt.join "" ts).length = (ts.map (·.length)).sum := by
  have h := SX.join_S [] (ts.map fun t => t.cps.toList)
  have e1 : (ts.map fun t => t.cps.toList).map SX.S = ts := by
    rw [List.map_map]
    conv => rhs; rw [← List.map_id ts]
    apply List.map_congr_left
    intro t _; exact SX.S_tl t
  have e2 : ("" : Str) = SX.S [] := by decide +kernel
  rw [e1] at h
  rw [e2, h, SX.S_len, joinL_len, List.map_map]
  rfl
theorem KT_len {φ : Fc} {ss : List P4} {ring : Bool} {t : Str} (h : KT φ ss ring = some t) : t.length = ss.length := by
  unfold KT at h
  split at h
  · cases h
  · cases h
    rw [join_len, List.map_map]
    have : ((KL φ ss ring).map ((fun x => x.length) ∘ chr)) = List.replicate ss.length 1 := by
      have hk : (KL φ ss ring).length = ss.length := by simp [KL]
      rw [← hk, ← map_const_rep' 1 (KL φ ss ring)]
      apply List.map_congr_left
      intro l _; exact chr_len l
    rw [this]; simp
def freeN (ss : List P4) (fs : Fs) : List Nat := (List.range ss.length).filter fun k => (ss.getD k (some (true, true, true, true))).isNone && !decide (k ∈ fs.map (·.1))
theorem freeN_mem {ss : List P4} {fs : Fs} {k : Nat} (h : k ∈ freeN ss fs) : ss[k]? = some none ∧ k ∉ fs.map (·.1) := by
  unfold freeN at h
  rw [List.mem_filter, List.mem_range, Bool.and_eq_true] at h
  obtain ⟨h1, h2, h3⟩ := h
  refine ⟨?_, by simpa using h3⟩
  rw [getD_of h1 (some (true, true, true, true))]
  generalize ss.getD k (some (true, true, true, true)) = p at h2
  cases p with
  | none => rfl
  | some p => cases h2
theorem freeN_nil {ss : List P4} {fs : Fs} (h : freeN ss fs = []) (hq : none ∈ ss) : fs ≠ [] := by
  intro e
  obtain ⟨k, hk, hs⟩ := List.getElem_of_mem hq
  have : k ∈ freeN ss fs := by
    unfold freeN
    rw [List.mem_filter, List.mem_range, Bool.and_eq_true]
    refine ⟨hk, ?_, by rw [e]; simp⟩
    rw [List.getD_eq_getElem?_getD, List.getElem?_eq_getElem hk, hs]; rfl
  rw [h] at this; cases this
theorem isq (p : P4) : decide (T (sg p) = "?") = p.isNone := by
  cases p with
  | none => decide +kernel
  | some p => exact sg_q p
/-- the state, the object of suppositions -/
structure Held (m : Store) (s h : Nat) (L : List Int) (a : Nat) (ss : List P4) (ring : Bool) (fs : Fs) : Prop where
  st : m[s]? = some (some (stateD L a))
  ob : m[h]? = some (some (supO ss ring fs))
  ne : s ≠ h
theorem Held.draw {m : Store} {s h : Nat} {L : List Int} {a : Nat} {ss : List P4} {ring : Bool} {fs : Fs} (H : Held m s h L a ss ring fs) (b : Nat) : Held (m.set s (some (stateD L b))) s h L b ss ring fs :=
  ⟨set_at H.st, by rw [List.getElem?_set_ne H.ne]; exact H.ob, H.ne⟩
def nextM (m : Store) (s h : Nat) (L : List Int) (a : Nat) (ss : List P4) (ring : Bool) (fs : Fs) : Store := (m.set s (some (stateD L a))).set h (some (supO ss ring fs))
theorem TL_at (v : Nat) (hv : v < 2) : ∃ b : Bool, dIx (.str "TL") (.int v) = some (.str (lt b)) := by
  match v, hv with
  | 0, _ => exact ⟨true, by kernel_rfl⟩
  | 1, _ => exact ⟨false, by kernel_rfl⟩
theorem rep_le {m : Store} {s : Nat} {d : Option D} (h : m[s]? = some d) : m.set s d = m := set_same h
noncomputable abbrev relE (C : CE) : DE := (eIf (eTest (eCall (G_law_same C) (aCons (eVar 2) (aCons (eVar 3) (aCons (eSl (eVar 4) (pNone) (pSome (eNeg (eC (.int 1))))) (aCons (eMeth 4 "release" (G_Supposing_release C) (eVar 1) aNil) (aNil))))))) (eSl (eVar 4) (pNone) (pSome (eNeg (eC (.int 1))))) (eC .non))
theorem rel_ok {M : Store} {ss : List P4} {ring : Bool} {fs : Fs} {s h a : Nat} {L : List Int} (hf : FOk ss fs) (hne : fs ≠ []) (H : Held M s h L a ss ring fs) (x0 x5 x6 x7 x8 x9 x10 : Option D) :
    relE C [x0, some (.loc h), some (.lst (ss.map sgD)), some (.bl ring), some (fctsD fs), x5, x6, x7, x8, x9, x10] M = .ok (fctsD fs.dropLast) (M.set h (some (supO ss ring fs.dropLast))) := by
  have hc := cut_drop (fs.map fctD) (by simpa using hne)
  have hd : (fs.map fctD).dropLast = fs.dropLast.map fctD := by rw [List.map_dropLast]
  rw [hd] at hc
  have hr := q_release (C := C) (ring := ring) hf hne H.ob
  have hs := q_same (C := C) (m := M.set h (some (supO ss ring fs.dropLast))) ring hf.drop
  have ho : objD 4 (.loc h) M = some ([("own_line", lineD ss ring), ("own_facts", fctsD fs)] : FL) := by simp [objD, H.ob, supO]
  simp [hc, ho, lj6, hr, hs, -List.map_dropLast]
noncomputable abbrev contS (C : CE) : DS := sCons (sSet 6 (eTup (aCons (eBin dIx (eVar 5) (eCall (G_law_draw C) (aCons (eVar 0) (aCons (eCB fLen (aCons (eVar 5) (aNil))) (aNil))))) (aCons (eBin dIx (eC (.str "TL")) (eCall (G_law_draw C) (aCons (eVar 0) (aCons (eC (.int 2)) (aNil))))) (aNil))))) <|
  sCons (sSet 7 (eCall (G_law_supposed C) (aCons (eVar 1) (aCons (eBin dIx (eVar 6) (eC (.int 0))) (aCons (eBin dIx (eVar 6) (eC (.int 1))) (aNil)))))) <|
  sCons (sIf (eTest (eBin dEq (eVar 7) (eCB fRepr (aCons (eVar 6) (aNil))))) (sRet (eIf (eTest (eCall (G_law_same C) (aCons (eVar 2) (aCons (eVar 3) (aCons (eBin dAdd (eVar 4) (eLst (aCons (eVar 6) (aNil)))) (aCons (eC .non) (aNil))))))) (eVar 4) (eC .non))) (sNil)) <|
  sRet (eIf (eTest (eCall (G_law_same C) (aCons (eVar 2) (aCons (eVar 3) (aCons (eBin dAdd (eVar 4) (eLst (aCons (eVar 6) (aNil)))) (aCons (eVar 7) (aNil))))))) (eBin dAdd (eVar 4) (eLst (aCons (eVar 6) (aNil)))) (eC .non))
theorem cont_ok {m : Store} {ss : List P4} {ring : Bool} {fs : Fs} {s h a : Nat} {L : List Int} (hf : FOk ss fs) (h7 : ss.length ≤ 7) (hne : freeN ss fs ≠ []) (H : Held m s h L a ss ring fs) :
    ∃ (fs' : Fs) (a' : Nat), FOk ss fs' ∧ contS C [some (.loc s), some (.loc h), some (.lst (ss.map sgD)), some (.bl ring), some (fctsD fs), some (nsD (freeN ss fs)), none, none, none, none, none] m = .rt (fctsD fs') (nextM m s h L a' ss ring fs') := by
  have hp : 0 < (freeN ss fs).length := List.length_pos_iff.mpr hne
  obtain ⟨v1, hv1, d1⟩ := q_draw (C := C) (n := (freeN ss fs).length) H.st hp
  have H1 := H.draw (a + 1)
  obtain ⟨v2, hv2, d2⟩ := q_draw (C := C) (n := 2) H1.st (by omega)
  have d2 : G_law_draw C [.loc s, .int 2] (m.set s (some (stateD L (a + 1)))) = .ok (.int v2) ((m.set s (some (stateD L (a + 1)))).set s (some (stateD L (a + 1 + 1)))) := d2
  rw [List.set_set] at d2
  have H2 := H.draw (a + 1 + 1)
  obtain ⟨b, hb⟩ := TL_at v2 hv2
  have hk := getD_of hv1 0
  generalize (freeN ss fs).getD v1 0 = k at hk
  have hkm := freeN_mem (List.mem_of_getElem? hk)
  have hf2 := hf.snoc (b := b) hkm.1 hkm.2
  have hkl : k < ss.length := (List.getElem?_eq_some_iff.mp hkm.1).1
  have hx : atI ((freeN ss fs).map fun (k : Nat) => (.int (k : Int) : D)) (v1 : Int) = some (.int k) := by rw [atI_nat, List.getElem?_map, hk]; rfl
  have hsup := q_supposed (C := C) (ring := ring) hf hf2 (by omega) H2.ob
  obtain ⟨hrp, hrl⟩ := q_repr (k := k) (by omega) b
  have hlen : fs.length + 1 ≤ 16777216 := by have := hf.len; omega
  have e1 : fctsD (fs ++ [(k, b)]) = .lst (fs.map fctD ++ [fctD (k, b)]) := by simp
  have i0 : atI [(.int (k : Int) : D), .str (lt b)] (0 : Int) = some (.int k) := rfl
  have i1 : atI [(.int (k : Int) : D), .str (lt b)] (1 : Int) = some (.str (lt b)) := rfl
  have hfd : fctD (k, b) = .tup [.int k, .str (lt b)] := rfl
  rw [hfd] at hrp e1
  cases hK : KT (phi (fs ++ [(k, b)])) ss ring with
  | none =>
    rw [hK] at hsup
    have hs := q_same (C := C) (m := m.set s (some (stateD L (a + 1 + 1)))) ring hf2
    rw [hK, e1] at hs
    have hst : nextM m s h L (a + 1 + 1) ss ring fs = m.set s (some (stateD L (a + 1 + 1))) := set_same H2.ob
    refine ⟨fs, a + 1 + 1, hf, ?_⟩
    rw [hst]
    simp only [optD] at hs
    simp only [dIx_str, size_val] at hb
    simp [hx, d1, hb, d2, i0, i1, hsup, hrp, hlen, hs]
  | some t =>
    rw [hK] at hsup
    have hs := q_same (C := C) (m := (m.set s (some (stateD L (a + 1 + 1)))).set h (some (supO ss ring (fs ++ [(k, b)])))) ring hf2
    rw [hK, e1] at hs
    have hne2 : decide (t = reprS k b) = false := decide_eq_false fun e => by
      have := KT_len hK
      rw [e, hrl] at this; omega
    refine ⟨fs ++ [(k, b)], a + 1 + 1, hf2, ?_⟩
    rw [e1]
    show _ = RS.rt _ ((m.set s (some (stateD L (a + 1 + 1)))).set h (some (supO ss ring (fs ++ [(k, b)]))))
    simp only [optD] at hs
    simp only [dIx_str, size_val] at hb
    simp [hx, d1, hb, d2, i0, i1, hsup, hrp, hlen, hs, hne2]
noncomputable abbrev condT (C : CE) : DT := (eOr (eTest (eBin dEq (eVar 5) (eLst (aNil)))) (eAnd (eTest (eBin dNe (eVar 4) (eLst (aNil)))) (eTest (eBin dEq (eCall (G_law_draw C) (aCons (eVar 0) (aCons (eC (.int 4)) (aNil)))) (eC (.int 0))))))
theorem q_next2 {ss : List P4} {ring : Bool} {fs : Fs} {s h a : Nat} {L : List Int} (hf : FOk ss fs) (hq : none ∈ ss) (h7 : ss.length ≤ 7) (H : Held m s h L a ss ring fs) :
    ∃ (fs' : Fs) (a' : Nat), FOk ss fs' ∧ G_law_next C [.loc s, .loc h, .lst (ss.map sgD), .bl ring, fctsD fs] m = .ok (fctsD fs') (nextM m s h L a' ss ring fs') := by
  -- the free persons
  have n3 := hf.n3
  have r1 : rngB ((ss.length : Int)) = true := rngB_iff.mpr (by omega)
  have cin := fun (x5 x6 x7 x8 : Option D) => compN_map (m := m) (g := gTupD (gsCons (gName 9) (gsCons (gName 10) (gsNil)))) (fe := eVar 9) (r := [some (.loc s), some (.loc h), some (.lst (ss.map sgD)), some (.bl ring), some (fctsD fs), x5, x6, x7, x8, none, none]) fctD (fun p => .int (p.1 : Int)) fs (by have := hf.len; rw [size_val]; omega) (fun p _ => ⟨_, rfl, by simp⟩)
  have ce : (fs.map fun p => (.int (p.1 : Int) : D)) = (fs.map (·.1)).map fun (k : Nat) => .int (k : Int) := by rw [List.map_map]; rfl
  rw [ce] at cin
  have cfree := compN_of (m := m) (g := gName 8) (ft := eAnd (eTest (eBin dEq (eBin dIx (eVar 2) (eVar 8)) (eC (.str "?")))) (eTest (eBin dNotIn (eVar 8) (eLc [9, 10] (iSeq (eVar 4)) (gTupD (gsCons (gName 9) (gsCons (gName 10) (gsNil)))) (dTrue) (eVar 9))))) (fe := eVar 8)
    (r := [some (.loc s), some (.loc h), some (.lst (ss.map sgD)), some (.bl ring), some (fctsD fs), none, none, none, none, none, none]) (fun (k : Nat) => .int (k : Int)) (fun (k : Nat) => .int (k : Int)) (fun k => (ss.getD k (some (true, true, true, true))).isNone && !decide (k ∈ fs.map (·.1))) (List.range ss.length) [] (by simp; omega) (fun k hk => ⟨_, rfl, by
      have hk := List.mem_range.mp hk
      have e1 : atI (ss.map sgD) (k : Int) = some (sgD (ss.getD k (some (true, true, true, true)))) := by rw [atI_nat, List.getElem?_map, getD_of hk (some (true, true, true, true))]; rfl
      have e2 := isq (ss.getD k (some (true, true, true, true)))
      have e3 := dNotInN k (fs.map (·.1))
      generalize ss.getD k (some (true, true, true, true)) = p at e1 e2
      cases hp : p.isNone with
      | false => rw [hp] at e2; simp [e1, e2]
      | true =>
        rw [hp] at e2
        simp [e1, e2, wipeD, cin, e3, -List.map_map], fun _ => by simp⟩)
  have hfree : compN (gName 8) (eAnd (eTest (eBin dEq (eBin dIx (eVar 2) (eVar 8)) (eC (.str "?")))) (eTest (eBin dNotIn (eVar 8) (eLc [9, 10] (iSeq (eVar 4)) (gTupD (gsCons (gName 9) (gsCons (gName 10) (gsNil)))) (dTrue) (eVar 9))))) (eVar 8)
    [some (.loc s), some (.loc h), some (.lst (ss.map sgD)), some (.bl ring), some (fctsD fs), none, none, none, none, none, none] ((List.range ss.length).map fun (k : Nat) => .int (k : Int)) [] m = .ok ((freeN ss fs).map fun (k : Nat) => .int (k : Int)) m := by
    rw [cfree]; rfl
  have hef := dEq_nilN (freeN ss fs)
  have hnf := dNe_nil fs
  have e1 : sSet 5 (eLc [8] (iRange1 (aCons (eCB fLen (aCons (eVar 2) (aNil))) (aNil))) (gName 8) (eAnd (eTest (eBin dEq (eBin dIx (eVar 2) (eVar 8)) (eC (.str "?")))) (eTest (eBin dNotIn (eVar 8) (eLc [9, 10] (iSeq (eVar 4)) (gTupD (gsCons (gName 9) (gsCons (gName 10) (gsNil)))) (dTrue) (eVar 9))))) (eVar 8))
      [some (.loc s), some (.loc h), some (.lst (ss.map sgD)), some (.bl ring), some (fctsD fs), none, none, none, none, none, none] m = .nx [some (.loc s), some (.loc h), some (.lst (ss.map sgD)), some (.bl ring), some (fctsD fs), some (nsD (freeN ss fs)), none, none, none, none, none] m := by
    simp [r1, steps0, wipeD, hfree, -List.map_map]
  -- what the rest comes to
  suffices main : ∃ (fs' : Fs) (a' : Nat), FOk ss fs' ∧ sCons (sIf (condT C) (sRet (relE C)) sNil) (contS C) [some (.loc s), some (.loc h), some (.lst (ss.map sgD)), some (.bl ring), some (fctsD fs), some (nsD (freeN ss fs)), none, none, none, none, none] m = .rt (fctsD fs') (nextM m s h L a' ss ring fs') by
    obtain ⟨fs', a', h1, h2⟩ := main
    refine ⟨fs', a', h1, ?_⟩
    have e : S_law_next C [some (.loc s), some (.loc h), some (.lst (ss.map sgD)), some (.bl ring), some (fctsD fs), none, none, none, none, none, none] m = .rt (fctsD fs') (nextM m s h L a' ss ring fs') := by
      show sCons (sSet 5 _) (sCons (sIf (condT C) (sRet (relE C)) sNil) (contS C)) _ _ = _
      rw [sCons_ap, e1, thenN_nx, h2]
    simp [G_law_next, e]
  by_cases hne : freeN ss fs = []
  · -- nothing is free: a release
    have hfn := freeN_nil hne hq
    have hr := rel_ok (C := C) hf hfn H (some (.loc s)) (some (nsD (freeN ss fs))) none none none none none
    refine ⟨fs.dropLast, a, hf.drop, ?_⟩
    have hst : nextM m s h L a ss ring fs.dropLast = m.set h (some (supO ss ring fs.dropLast)) := by unfold nextM; rw [set_same H.st]
    have hc : condT C [some (.loc s), some (.loc h), some (.lst (ss.map sgD)), some (.bl ring), some (fctsD fs), some (nsD (freeN ss fs)), none, none, none, none, none] m = .ok true m := by
      rw [hne] at hef ⊢
      simp only [nsD, List.map_nil, List.isEmpty_nil] at hef ⊢
      simp [hef]
    rw [hst, sCons_ap, sIf_ap, hc, thenT_ok, if_pos rfl, sRet_ap, hr]
    rfl
  · have he : (freeN ss fs).isEmpty = false := by cases hz : freeN ss fs <;> simp_all
    rw [he] at hef
    by_cases hfn : fs = []
    · have hc : condT C [some (.loc s), some (.loc h), some (.lst (ss.map sgD)), some (.bl ring), some (fctsD fs), some (nsD (freeN ss fs)), none, none, none, none, none] m = .ok false m := by
        have : fs.isEmpty = true := by rw [hfn]; rfl
        rw [this] at hnf
        simp [hef, hnf]
      obtain ⟨fs', a', h1, h2⟩ := cont_ok (C := C) hf h7 hne H
      refine ⟨fs', a', h1, ?_⟩
      rw [sCons_ap, sIf_ap, hc, thenT_ok, if_neg (by simp), sNil_ap, thenN_nx, h2]
    · obtain ⟨v, hv, hd⟩ := q_draw (C := C) (n := 4) H.st (by omega)
      have hd : G_law_draw C [.loc s, .int 4] m = .ok (.int v) (m.set s (some (stateD L (a + 1)))) := hd
      have he2 : fs.isEmpty = false := by cases fs <;> simp_all
      rw [he2] at hnf
      have H1 := H.draw (a + 1)
      by_cases hv0 : v = 0
      · have hc : condT C [some (.loc s), some (.loc h), some (.lst (ss.map sgD)), some (.bl ring), some (fctsD fs), some (nsD (freeN ss fs)), none, none, none, none, none] m = .ok true (m.set s (some (stateD L (a + 1)))) := by
          simp [hef, hnf, hd, hv0]
        have hr := rel_ok (C := C) hf hfn H1 (some (.loc s)) (some (nsD (freeN ss fs))) none none none none none
        refine ⟨fs.dropLast, a + 1, hf.drop, ?_⟩
        rw [sCons_ap, sIf_ap, hc, thenT_ok, if_pos rfl, sRet_ap, hr]
        rfl
      · have hc : condT C [some (.loc s), some (.loc h), some (.lst (ss.map sgD)), some (.bl ring), some (fctsD fs), some (nsD (freeN ss fs)), none, none, none, none, none] m = .ok false (m.set s (some (stateD L (a + 1)))) := by
          simp [hef, hnf, hd, hv0]
        obtain ⟨fs', a', h1, h2⟩ := cont_ok (C := C) hf h7 hne H1
        refine ⟨fs', a', h1, ?_⟩
        rw [sCons_ap, sIf_ap, hc, thenT_ok, if_neg (by simp), sNil_ap, thenN_nx, h2]
        unfold nextM
        rw [List.set_set]
end DL
namespace DL
open PySem PySem.Spec PyProof.Rows L2
variable {C : CE} {m : Store}
theorem dAdd_scr (ns : List Int) (ys : List D) : dAdd (.scr ns) (.lst ys) = if ns.length + ys.length ≤ sizeLine then some (.lst (ns.map .int ++ ys)) else none := rfl
theorem mul20 : dMul (.lst [.int 420]) (.int 20) = some (z420 20) := by kernel_rfl
theorem mul4 : dMul (.lst [.int 420]) (.int 4) = some (z420 4) := by kernel_rfl
/-! ### the row -/
theorem comp_sign {s : Nat} {L : List Int} : ∀ (ks : List Nat) (m : Store) (a : Nat) (acc : List D) (r : DEnv), r[1]? = some (some (.loc s)) → r.length = 11 → acc.length + ks.length ≤ 1000 → m[s]? = some (some (stateD L a)) →
    ∃ ps : List P4, ps.length = ks.length ∧ compN (gName 10) dTrue (eCall (G_law_sign C) (aCons (eVar 1) (aNil))) r (ks.map fun (k : Nat) => .int (k : Int)) acc m = .ok (acc ++ ps.map sgD) (m.set s (some (stateD L (a + ks.length))))
  | [], m, a, acc, r, _, _, _, hm => ⟨[], rfl, by simp only [List.map_nil, compN, List.append_nil, List.length_nil, Nat.add_zero]; rw [set_same hm]⟩
  | k :: ks, m, a, acc, r, hr, hl, ha, hm => by
    simp only [List.length_cons] at ha
    obtain ⟨p, hp⟩ := q_sign (C := C) hm
    obtain ⟨ps, hl2, h⟩ := comp_sign (s := s) (L := L) ks _ (a + 1) (acc ++ [sgD p]) r hr hl (by simp; omega) (set_at (e := some (stateD L (a + 1))) hm)
    refine ⟨p :: ps, by simp [hl2], ?_⟩
    have hr2 : (r.set 10 (some (.int (k : Int))))[1]? = some (some (.loc s)) := by rw [List.getElem?_set_ne (by omega)]; exact hr
    have hacc : acc.length < 16777216 := by omega
    have e : a + (k :: ks).length = a + 1 + ks.length := by simp; omega
    rw [e, List.map_cons, compN]
    simp only [gName_ap, dTrue_ap, noX_ok, bind_ok, if_true, eCall_ap, aCons_ap, eVar_ap, aNil_ap, hr2, hp, size_val, hacc]
    rw [h, List.set_set]
    simp
def RowOk (ss : List P4) (n : Nat) : Prop := ss.length = n ∧ none ∈ ss
theorem rot_row {ss : List P4} {w : Nat} (hw : w < ss.length) : dAdd (.lst (cutD (ss.map sgD) (some (w : Int)) none)) (.lst (cutD (ss.map sgD) none (some (w : Int)))) = if ss.length ≤ sizeLine then some (.lst ((ss.drop w ++ ss.take w).map sgD)) else none := by
  have e1 : cutD (ss.map sgD) (some (w : Int)) none = (ss.drop w).map sgD := by
    unfold cutD
    rw [sIx_nat _ _ _ (by simp; omega)]
    have : HT.sIx (ss.map sgD).length (ss.map sgD).length none = (ss.map sgD).length := rfl
    rw [this, List.take_of_length_le (by simp), List.map_drop]
  have e2 : cutD (ss.map sgD) none (some (w : Int)) = (ss.take w).map sgD := by
    unfold cutD
    rw [sIx_nat _ _ _ (by simp; omega)]
    have : HT.sIx (ss.map sgD).length 0 none = 0 := rfl
    rw [this, List.drop_zero, Nat.sub_zero, List.map_take]
  rw [e1, e2, dAdd_lst]
  have e3 : ((ss.drop w).map sgD).length + ((ss.take w).map sgD).length = ss.length := by simp; omega
  rw [e3, List.map_append]
def alt (ss : List P4) : List P4 := (List.range ss.length).map fun k => if k % 2 = 0 then none else ss.getD k none
theorem comp_alt {ss : List P4} (hl : ss.length ≤ 1000) (x0 x1 x3 x4 x5 x6 x7 x8 x9 : Option D) : compN (gName 10) dTrue (eIf (eTest (eBin dEq (eBin dMod (eVar 10) (eC (.int 2))) (eC (.int 0)))) (eC (.str "?")) (eBin dIx (eVar 2) (eVar 10))) [x0, x1, some (.lst (ss.map sgD)), x3, x4, x5, x6, x7, x8, x9, none] ((List.range ss.length).map fun (k : Nat) => .int (k : Int)) [] m = .ok ((alt ss).map sgD) m := by
  have h := compN_map (m := m) (g := gName 10) (fe := eIf (eTest (eBin dEq (eBin dMod (eVar 10) (eC (.int 2))) (eC (.int 0)))) (eC (.str "?")) (eBin dIx (eVar 2) (eVar 10))) (r := [x0, x1, some (.lst (ss.map sgD)), x3, x4, x5, x6, x7, x8, x9, none]) (fun (k : Nat) => .int (k : Int)) (fun k => sgD (if k % 2 = 0 then none else ss.getD k none)) (List.range ss.length) (by simp; omega) (fun k hk => ⟨_, rfl, by
    have hk := List.mem_range.mp hk
    have e1 : atI (ss.map sgD) (k : Int) = some (sgD (ss.getD k none)) := by rw [atI_nat, List.getElem?_map, getD_of hk none]; rfl
    have hq := dMod_int (k : Int) 2 (by omega)
    have hqm : (T (sg none)) = "?" := by decide +kernel
    generalize ss.getD k none = p at e1
    by_cases h2 : k % 2 = 0
    · have : decide ((k : Int) % 2 = 0) = true := decide_eq_true (by omega)
      simp only [sgD]
      rw [if_pos h2, hqm]
      simp [hq, this]
    · have : decide ((k : Int) % 2 = 0) = false := decide_eq_false (by omega)
      rw [if_neg h2]
      simp [hq, this, e1]⟩)
  rw [h]
  simp [alt]
theorem alt_ok {ss : List P4} {n : Nat} (h : ss.length = n) (h0 : 0 < n) : RowOk (alt ss) n := by
  refine ⟨by simp [alt, h], ?_⟩
  unfold alt
  rw [List.mem_map]
  exact ⟨0, List.mem_range.mpr (by omega), by simp⟩
theorem mul_q (n : Nat) (hn : n ≤ 1000) : dMul (.lst [.str "?"]) (.int n) = some (.lst ((List.replicate n (none : P4)).map sgD)) := by
  have hq : (T (sg none)) = "?" := by decide +kernel
  unfold dMul
  simp only
  rw [if_pos ⟨by omega, by omega, by simp; omega⟩]
  congr 2
  rw [Int.toNat_natCast, List.map_replicate]
  show _ = List.replicate n (D.str (T (sg none)))
  rw [hq]
  induction n with
  | zero => rfl
  | succ n ih => rw [List.replicate_succ, List.flatten_cons, ih (by omega), List.replicate_succ]; rfl
/-! ### the steps -/
noncomputable abbrev bodyZ (C : CE) : DS := (sCons (sSet 9 (eNewL (aCons (eCall (GP_law_numbers C) (aCons (eVar 8) (aCons (eBin dAdd (eC (.int 8510)) (eVar 7)) (aCons (eBin dMul (eLst (aCons (eC (.int 420)) (aNil))) (eC (.int 4))) (aNil))))) (aCons (eC (.int 0)) (aNil))))) <|
    sCons (sSet 6 (eCall (G_law_next C) (aCons (eVar 9) (aCons (eVar 5) (aCons (eVar 2) (aCons (eVar 4) (aCons (eVar 6) (aNil)))))))) <|
    sIf (eOr (eTest (eBin dIs (eVar 6) (eC .non))) (eTest (eBin dNe (eMeth 4 "facts" (G_Supposing_facts C) (eVar 5) aNil) (eVar 6)))) (sRet (eC (.bl false))) (sNil))
theorem body_Z {ss : List P4} {ring : Bool} {fs : Fs} {h k : Nat} {c : Int} {x0 x1 x3 x9 x10 : Option D} (hf : FOk ss fs) (hq : none ∈ ss) (h7 : ss.length ≤ 7) (hk : k ≤ 1000) (hm : m[h]? = some (some (supO ss ring fs))) :
    ∃ (fs' : Fs) (m' : Store) (y9 : Option D), FOk ss fs' ∧ m'[h]? = some (some (supO ss ring fs')) ∧
      bodyZ C [x0, x1, some (.lst (ss.map sgD)), x3, some (.bl ring), some (.loc h), some (fctsD fs), some (.int k), some (.int c), x9, x10] m = .nx [x0, x1, some (.lst (ss.map sgD)), x3, some (.bl ring), some (.loc h), some (fctsD fs'), some (.int k), some (.int c), y9, x10] m' := by
  obtain ⟨L, hL, hn⟩ := q_numbers (C := C) (m := m) c (8510 + (k : Int)) 4 (by omega) (by omega) (by omega)
  have hlt : h < m.length := (List.getElem?_eq_some_iff.mp hm).1
  have H : Held (m ++ [some (stateD L 0)]) m.length h L 0 ss ring fs := ⟨by simp, by rw [List.getElem?_append_left hlt]; exact hm, by omega⟩
  obtain ⟨fs', a', hf', hx⟩ := q_next2 (C := C) hf hq h7 H
  refine ⟨fs', nextM (m ++ [some (stateD L 0)]) m.length h L a' ss ring fs', some (.loc m.length), hf', ?_, ?_⟩
  · unfold nextM
    exact set_at (d := some (supO ss ring fs)) (by rw [List.getElem?_set_ne (by omega)]; exact H.ob)
  · have hob : (nextM (m ++ [some (stateD L 0)]) m.length h L a' ss ring fs')[h]? = some (some (supO ss ring fs')) := by
      unfold nextM
      exact set_at (d := some (supO ss ring fs)) (by rw [List.getElem?_set_ne (by omega)]; exact H.ob)
    generalize nextM (m ++ [some (stateD L 0)]) m.length h L a' ss ring fs' = M at hx hob
    have hfa := q_facts (C := C) (m := M) ss ring fs' hob
    have ho : objD 4 (.loc h) M = some ([("own_line", lineD ss ring), ("own_facts", fctsD fs')] : FL) := by simp [objD, hob, supO]
    have hd := dNe_self fs'
    have hst : (.lst [.lst (L.map .int), .int 0] : D) = stateD L 0 := rfl
    have v : vw M (fctsD fs') = fctsD fs' := rfl
    have e1 : sSet 9 (eNewL (aCons (eCall (GP_law_numbers C) (aCons (eVar 8) (aCons (eBin dAdd (eC (.int 8510)) (eVar 7)) (aCons (eBin dMul (eLst (aCons (eC (.int 420)) (aNil))) (eC (.int 4))) (aNil))))) (aCons (eC (.int 0)) (aNil)))) [x0, x1, some (.lst (ss.map sgD)), x3, some (.bl ring), some (.loc h), some (fctsD fs), some (.int k), some (.int c), x9, x10] m
        = .nx [x0, x1, some (.lst (ss.map sgD)), x3, some (.bl ring), some (.loc h), some (fctsD fs), some (.int k), some (.int c), some (.loc m.length), x10] (m ++ [some (stateD L 0)]) := by
      simp [mul4, hn]
    unfold bodyZ
    rw [sCons_ap, e1, thenN_nx]
    simp [hx, ho, lj4, hfa, hd]
theorem loop_Z {ss : List P4} {ring : Bool} {h : Nat} {x0 x1 x3 x10 : Option D} (hq : none ∈ ss) (h7 : ss.length ≤ 7) : ∀ (cs : List Int) (k : Nat) (m : Store) (fs : Fs) (x7 x8 x9 : Option D), k + cs.length ≤ 1000 → FOk ss fs → m[h]? = some (some (supO ss ring fs)) →
    ∃ (r' : DEnv) (m' : Store), forN (gTupD (gsCons (gName 7) (gsCons (gName 8) (gsNil)))) (bodyZ C) ((cs.zipIdx k).map fun p => .tup [.int (p.2 : Nat), .int p.1]) [x0, x1, some (.lst (ss.map sgD)), x3, some (.bl ring), some (.loc h), some (fctsD fs), x7, x8, x9, x10] m = .nx r' m'
  | [], k, m, fs, x7, x8, x9, _, _, _ => ⟨_, _, rfl⟩
  | c :: cs, k, m, fs, x7, x8, x9, hk, hf, hm => by
    simp only [List.length_cons] at hk
    obtain ⟨fs', m', y9, hf', hm', hb⟩ := body_Z (C := C) (x0 := x0) (x1 := x1) (x3 := x3) (x9 := x9) (x10 := x10) (k := k) (c := c) hf hq h7 (by omega) hm
    obtain ⟨r2, m2, h2⟩ := loop_Z hq h7 (x0 := x0) (x1 := x1) (x3 := x3) (x10 := x10) cs (k + 1) m' fs' (some (.int k)) (some (.int c)) y9 (by omega) hf' hm'
    refine ⟨r2, m2, ?_⟩
    rw [List.zipIdx_cons, List.map_cons, forN_nx (by rfl) hb, h2]
end DL
namespace DL
open PySem PySem.Spec PyProof.Rows L2
variable {C : CE} {m : Store}
theorem st_row {L : List Int} {a s : Nat} {x0 : Option D} (hm : m[s]? = some (some (stateD L a))) : ∃ (ps : List P4) (a' : Nat), 1 ≤ ps.length ∧ ps.length ≤ 5 ∧
    sSet 2 (eBin dAdd (eLc [10] (iRange1 (aCons (eBin dAdd (eC (.int 1)) (eCall (G_law_draw C) (aCons (eVar 1) (aCons (eC (.int 5)) (aNil))))) (aNil))) (gName 10) (dTrue) (eCall (G_law_sign C) (aCons (eVar 1) (aNil)))) (eLst (aCons (eC (.str "?")) (aCons (eC (.str "?")) (aNil))))) [x0, some (.loc s), none, none, none, none, none, none, none, none, none] m =
      .nx [x0, some (.loc s), some (.lst ((ps ++ [none, none]).map sgD)), none, none, none, none, none, none, none, none] (m.set s (some (stateD L a'))) := by
  obtain ⟨v, hv, hd⟩ := q_draw (C := C) (n := 5) hm (by omega)
  have hd : G_law_draw C [.loc s, .int 5] m = .ok (.int v) (m.set s (some (stateD L (a + 1)))) := hd
  obtain ⟨ps, hl, hc⟩ := comp_sign (C := C) (L := L) (List.range (1 + v)) (m.set s (some (stateD L (a + 1)))) (a + 1) [] [x0, some (.loc s), none, none, none, none, none, none, none, none, none] rfl rfl (by simp; omega) (set_at hm)
  have hl : ps.length = 1 + v := by simpa using hl
  refine ⟨ps, a + 1 + (List.range (1 + v)).length, by omega, by omega, ?_⟩
  have r1 : rngB (1 + (v : Int)) = true := rngB_iff.mpr (by omega)
  have e1 : (1 + (v : Int)).toNat = 1 + v := by omega
  have hq : (T (sg none)) = "?" := by decide +kernel
  have hl2 : ps.length + 2 ≤ 16777216 := by omega
  rw [List.set_set] at hc
  simp [hd, r1, e1, steps0, wipeD, -List.map_map, -List.length_range]
  rw [List.nil_append] at hc
  rw [hc]
  simp [hl2, hq]
theorem st_par {L : List Int} {a s : Nat} {x0 : Option D} {ss : List P4} (hm : m[s]? = some (some (stateD L a))) (h0 : 0 < ss.length) : ∃ (w a' : Nat) (ring : Bool), w < ss.length ∧
    sPar 3 4 (aCons (eCall (G_law_draw C) (aCons (eVar 1) (aCons (eCB fLen (aCons (eVar 2) (aNil))) (aNil)))) (aCons (eBin dEq (eCall (G_law_draw C) (aCons (eVar 1) (aCons (eC (.int 2)) (aNil)))) (eC (.int 0))) aNil)) [x0, some (.loc s), some (.lst (ss.map sgD)), none, none, none, none, none, none, none, none] m =
      .nx [x0, some (.loc s), some (.lst (ss.map sgD)), some (.int (w : Int)), some (.bl ring), none, none, none, none, none, none] (m.set s (some (stateD L a'))) := by
  obtain ⟨w, hw, hd⟩ := q_draw (C := C) (n := ss.length) hm h0
  obtain ⟨u, hu, hd2⟩ := q_draw (C := C) (n := 2) (set_at (e := some (stateD L (a + 1))) hm) (by omega)
  have hd2 : G_law_draw C [.loc s, .int 2] (m.set s (some (stateD L (a + 1)))) = .ok (.int u) ((m.set s (some (stateD L (a + 1)))).set s (some (stateD L (a + 1 + 1)))) := hd2
  rw [List.set_set] at hd2
  refine ⟨w, a + 1 + 1, decide (u = 0), hw, ?_⟩
  have e1 : decide ((u : Int) = 0) = decide (u = 0) := by rw [Bool.eq_iff_iff]; simp
  simp [hd, hd2]
theorem st_rot {x0 x1 x4 : Option D} {ss : List P4} {w : Nat} (hw : w < ss.length) (hl : ss.length ≤ 1000) :
    sSet 2 (eBin dAdd (eSl (eVar 2) (pSome (eVar 3)) (pNone)) (eSl (eVar 2) (pNone) (pSome (eVar 3)))) [x0, x1, some (.lst (ss.map sgD)), some (.int (w : Int)), x4, none, none, none, none, none, none] m =
      .nx [x0, x1, some (.lst ((ss.drop w ++ ss.take w).map sgD)), some (.int (w : Int)), x4, none, none, none, none, none, none] m := by
  have h := rot_row hw
  have hl2 : ss.length ≤ 16777216 := by omega
  rw [size_val, if_pos hl2] at h
  simp only [sSet_ap, eBin_ap, eSl_ap, eVar_ap, pSome_ap, pNone_ap, List.getElem?_cons_zero, List.getElem?_cons_succ, bind_ok, vw_lst, dSl_lst, ofO_some, h, thenS_ok, List.set_cons_succ, List.set_cons_zero]
noncomputable abbrev knE (C : CE) : DT := eTest (eBin dIs (eCall (G_known C) (aCons (eCall (G_law_line C) (aCons (eVar 2) (aCons (eVar 4) (aNil)))) (aCons (eDic0) (aNil)))) (eC .non))
theorem t_kn {x0 x1 x3 x5 x6 x7 x8 x9 x10 : Option D} {ss : List P4} {ring : Bool} (h3 : 3 ≤ ss.length) (hl : ss.length ≤ 60) : knE C [x0, x1, some (.lst (ss.map sgD)), x3, some (.bl ring), x5, x6, x7, x8, x9, x10] m = .ok (decide (KT φ0 ss ring = none)) m := by
  have h1 := q_line (C := C) (m := m) ss ring h3 hl
  have h2 := q_known0 (C := C) (m := m) (ss := ss) ring (by omega) hl
  cases hK : KT φ0 ss ring with
  | none => rw [hK] at h2; simp [h1, h2, optD]
  | some t => rw [hK] at h2; simp [h1, h2, optD]
theorem st_row2 {x0 x1 x3 : Option D} {ss : List P4} {ring : Bool} {n : Nat} (h : RowOk ss n) (h3 : 3 ≤ n) (hl : n ≤ 7) : ∃ ss' : List P4, RowOk ss' n ∧
    sIf (knE C) (sSet 2 (eLc [10] (iRange1 (aCons (eCB fLen (aCons (eVar 2) (aNil))) (aNil))) (gName 10) (dTrue) (eIf (eTest (eBin dEq (eBin dMod (eVar 10) (eC (.int 2))) (eC (.int 0)))) (eC (.str "?")) (eBin dIx (eVar 2) (eVar 10))))) (sNil) [x0, x1, some (.lst (ss.map sgD)), x3, some (.bl ring), none, none, none, none, none, none] m =
      .nx [x0, x1, some (.lst (ss'.map sgD)), x3, some (.bl ring), none, none, none, none, none, none] m := by
  have hn := h.1
  have ht := t_kn (C := C) (m := m) (x0 := x0) (x1 := x1) (x3 := x3) (x5 := none) (x6 := none) (x7 := none) (x8 := none) (x9 := none) (x10 := none) (ss := ss) (ring := ring) (by omega) (by omega)
  by_cases hK : KT φ0 ss ring = none
  · refine ⟨alt ss, alt_ok hn (by omega), ?_⟩
    have hc := comp_alt (m := m) (ss := ss) (by omega) x0 x1 x3 (some (.bl ring)) none none none none none
    have r1 : rngB ((ss.length : Int)) = true := rngB_iff.mpr (by omega)
    rw [sIf_ap, ht, thenT_ok, if_pos (by simpa using hK)]
    simp [r1, steps0, wipeD, hc, -List.map_map]
  · refine ⟨ss, h, ?_⟩
    rw [sIf_ap, ht, thenT_ok, if_neg (by simpa using hK), sNil_ap]
theorem st_row3 {x0 x1 x3 : Option D} {ss : List P4} {ring : Bool} {n : Nat} (h : RowOk ss n) (h3 : 3 ≤ n) (hl : n ≤ 7) : ∃ ss' : List P4, RowOk ss' n ∧ KT φ0 ss' ring ≠ none ∧
    sIf (knE C) (sSet 2 (eBin dMul (eLst (aCons (eC (.str "?")) (aNil))) (eCB fLen (aCons (eVar 2) (aNil))))) (sNil) [x0, x1, some (.lst (ss.map sgD)), x3, some (.bl ring), none, none, none, none, none, none] m =
      .nx [x0, x1, some (.lst (ss'.map sgD)), x3, some (.bl ring), none, none, none, none, none, none] m := by
  have hn := h.1
  have ht := t_kn (C := C) (m := m) (x0 := x0) (x1 := x1) (x3 := x3) (x5 := none) (x6 := none) (x7 := none) (x8 := none) (x9 := none) (x10 := none) (ss := ss) (ring := ring) (by omega) (by omega)
  by_cases hK : KT φ0 ss ring = none
  · refine ⟨List.replicate n none, ⟨by simp, by rw [List.mem_replicate]; exact ⟨by omega, rfl⟩⟩, KT_free n ring, ?_⟩
    have hq := mul_q n (by omega)
    rw [sIf_ap, ht, thenT_ok, if_pos (by simpa using hK)]
    simp only [sSet_ap, eBin_ap, eLst_ap, aCons_ap, eC_ap, aNil_ap, bind_ok, mkLst_of, eCB_ap, eVar_ap, List.getElem?_cons_zero, List.getElem?_cons_succ, List.map_cons, List.map_nil, vw_lst, fLen_lst, ofO_some, List.length_map, hn, vw_int]
    simp [hq]
  · refine ⟨ss, h, hK, ?_⟩
    rw [sIf_ap, ht, thenT_ok, if_neg (by simpa using hK), sNil_ap]
theorem st_held {x0 x1 x3 : Option D} {ss : List P4} {ring : Bool} (h3 : 3 ≤ ss.length) (hl : ss.length ≤ 60) (hK : KT φ0 ss ring ≠ none) :
    sPar 5 6 (aCons (eCall (mkM 4 (G_Supposing_init C)) (aCons (eCall (G_law_line C) (aCons (eVar 2) (aCons (eVar 4) (aNil)))) (aNil))) (aCons (eLst (aNil)) aNil)) [x0, x1, some (.lst (ss.map sgD)), x3, some (.bl ring), none, none, none, none, none, none] m =
      .nx [x0, x1, some (.lst (ss.map sgD)), x3, some (.bl ring), some (.loc m.length), some (fctsD []), none, none, none, none] (m ++ [some (supO ss ring [])]) := by
  have h1 := q_line (C := C) (m := m) ss ring h3 hl
  have h2 := init_sup (C := C) ring (by omega) hl hK (M := m ++ [some (.obj 4 [])]) (h := m.length) (by simp)
  rw [set_new] at h2
  have h3 : mkM 4 (G_Supposing_init C) [lineD ss ring] m = .ok (.loc m.length) (m ++ [some (supO ss ring [])]) := by
    unfold mkM
    rw [h2]; rfl
  simp [h1, h3]
theorem law_ok (ns : List Int) (hn : ns.length ≤ 63) : ∃ M, G_law C [.scr ns] [] = .ok (.bl true) M := by
  -- the state
  have hd : dAdd (.scr ns) (.lst [.int 7]) = some (.lst (ns.map .int ++ [.int 7])) := by rw [dAdd_scr, size_val, if_pos (by simp; omega)]
  have hd2 : dAdd (.scr ns) (.lst [.int 7, .int 8]) = some (.lst (ns.map .int ++ [.int 7, .int 8])) := by rw [dAdd_scr, size_val, if_pos (by simp; omega)]
  have hx : ∃ c : Int, atI (ns.map D.int ++ [.int 7]) (0 : Int) = some (.int c) := by
    cases ns with
    | nil => exact ⟨7, rfl⟩
    | cons c ns => exact ⟨c, atI_app [] _ _⟩
  obtain ⟨c, hc⟩ := hx
  obtain ⟨L, hL, hq⟩ := q_numbers (C := C) (m := []) c 8500 20 (by omega) (by omega) (by omega)
  have hst : (.lst [.lst (L.map .int), .int 0] : D) = stateD L 0 := rfl
  obtain ⟨ps, a1, hp1, hp5, e2⟩ := st_row (C := C) (x0 := some (.scr ns)) (s := 0) (L := L) (a := 0) (m := [some (stateD L 0)]) rfl
  have hrow : RowOk (ps ++ [none, none]) (ps.length + 2) := ⟨by simp, by simp⟩
  obtain ⟨w, a2, ring, hw, e3⟩ := st_par (C := C) (x0 := some (.scr ns)) (s := 0) (L := L) (a := a1) (m := [some (stateD L a1)]) (ss := ps ++ [none, none]) rfl (by simp)
  have e4 := st_rot (m := [some (stateD L a2)]) (x0 := some (.scr ns)) (x1 := some (.loc 0)) (x4 := some (.bl ring)) hw (by simp; omega)
  have hrow2 : RowOk ((ps ++ [none, none]).drop w ++ (ps ++ [none, none]).take w) (ps.length + 2) := by
    refine ⟨by simp at hw ⊢; omega, ?_⟩
    rw [List.mem_append]
    have : (none : P4) ∈ (ps ++ [none, none]).take w ++ (ps ++ [none, none]).drop w := by rw [List.take_append_drop]; simp
    rcases List.mem_append.mp this with h | h
    · exact .inr h
    · exact .inl h
  obtain ⟨s5, hr5, e5⟩ := st_row2 (C := C) (m := [some (stateD L a2)]) (x0 := some (.scr ns)) (x1 := some (.loc 0)) (x3 := some (.int (w : Int))) (ring := ring) hrow2 (by omega) (by omega)
  obtain ⟨s6, hr6, hK, e6⟩ := st_row3 (C := C) (m := [some (stateD L a2)]) (x0 := some (.scr ns)) (x1 := some (.loc 0)) (x3 := some (.int (w : Int))) (ring := ring) hr5 (by omega) (by omega)
  have h6 := hr6.1
  have e7 := st_held (C := C) (m := [some (stateD L a2)]) (x0 := some (.scr ns)) (x1 := some (.loc 0)) (x3 := some (.int (w : Int))) (ss := s6) (ring := ring) (by omega) (by omega) hK
  -- the steps
  have hcut : cutD (ns.map D.int ++ [.int 7, .int 8]) none (some 63) = ((ns ++ [7, 8]).take 63).map .int := by
    unfold cutD
    have e1 : HT.sIx (ns.map D.int ++ [D.int 7, D.int 8]).length 0 none = 0 := rfl
    have e2 : HT.sIx (ns.map D.int ++ [D.int 7, D.int 8]).length (ns.map D.int ++ [D.int 7, D.int 8]).length (some 63) = min 63 (ns.map D.int ++ [D.int 7, D.int 8]).length := rfl
    rw [e1, e2, List.drop_zero, Nat.sub_zero, List.map_take, List.map_append]
    show (ns.map D.int ++ [D.int 7, D.int 8]).take (min 63 (ns.map D.int ++ [D.int 7, D.int 8]).length) = _
    rw [← List.take_take, List.take_length]
    simp
  obtain ⟨r8, m8, e8⟩ := loop_Z (C := C) (m := [some (stateD L a2)] ++ [some (supO s6 ring [])]) (h := 1) (ss := s6) (ring := ring) (x0 := some (.scr ns)) (x1 := some (.loc 0)) (x3 := some (.int (w : Int))) (x10 := none) hr6.2 (by omega) ((ns ++ [7, 8]).take 63) 0 [] none none none (by simp; omega) ⟨List.nodup_nil, fun p hp => (List.not_mem_nil hp).elim, by omega, by omega⟩ rfl
  refine ⟨m8, ?_⟩
  have e1 : sSet 1 (eNewL (aCons (eCall (GP_law_numbers C) (aCons (eBin dIx (eBin dAdd (eVar 0) (eLst (aCons (eC (.int 7)) (aNil)))) (eC (.int 0))) (aCons (eC (.int 8500)) (aCons (eBin dMul (eLst (aCons (eC (.int 420)) (aNil))) (eC (.int 20))) (aNil))))) (aCons (eC (.int 0)) (aNil)))) [some (.scr ns), none, none, none, none, none, none, none, none, none, none] []
      = .nx [some (.scr ns), some (.loc 0), none, none, none, none, none, none, none, none, none] [some (stateD L 0)] := by
    simp [hd, hc, mul20, hq]
  have ez : (((ns ++ [7, 8]).take 63).map D.int).zipIdx.map (fun (p : D × Nat) => (.tup [.int (p.2 : Nat), p.1] : D)) = (((ns ++ [7, 8]).take 63).zipIdx 0).map fun (p : Int × Nat) => .tup [.int (p.2 : Nat), .int p.1] := by
    rw [List.zipIdx_map, List.map_map]; rfl
  have e9 : sFor (iEnu (aCons (eSl (eBin dAdd (eVar 0) (eLst (aCons (eC (.int 7)) (aCons (eC (.int 8)) (aNil))))) (pNone) (pSome (eC (.int 63)))) (aNil))) (gTupD (gsCons (gName 7) (gsCons (gName 8) (gsNil)))) (bodyZ C)
      [some (.scr ns), some (.loc 0), some (.lst (s6.map sgD)), some (.int w), some (.bl ring), some (.loc 1), some (fctsD []), none, none, none, none] ([some (stateD L a2)] ++ [some (supO s6 ring [])]) = .nx r8 m8 := by
    have ei : iEnu (aCons (eSl (eBin dAdd (eVar 0) (eLst (aCons (eC (.int 7)) (aCons (eC (.int 8)) (aNil))))) (pNone) (pSome (eC (.int 63)))) (aNil)) [some (.scr ns), some (.loc 0), some (.lst (s6.map sgD)), some (.int w), some (.bl ring), some (.loc 1), some (fctsD []), none, none, none, none] ([some (stateD L a2)] ++ [some (supO s6 ring [])])
        = .ok ((((ns ++ [7, 8]).take 63).zipIdx 0).map fun (p : Int × Nat) => .tup [.int (p.2 : Nat), .int p.1]) ([some (stateD L a2)] ++ [some (supO s6 ring [])]) := by
      rw [← ez]
      simp [hd2, hcut, -List.map_take, -List.zipIdx_map]
    rw [sFor_ap, ei, thenA_ok, e8]
  have e : S_law C [some (.scr ns), none, none, none, none, none, none, none, none, none, none] [] = .rt (.bl true) m8 := by
    unfold S_law
    rw [sCons_ap, e1, thenN_nx, sCons_ap, e2, thenN_nx, sCons_ap]
    have e3' := e3
    simp only [List.set_cons_zero] at e3' ⊢
    rw [e3', thenN_nx, sCons_ap, e4, thenN_nx, sCons_ap, e5, thenN_nx, sCons_ap, e6, thenN_nx, sCons_ap, e7, thenN_nx, sCons_ap]
    have e9' := e9
    rw [show (1 : Nat) = [some (stateD L a2)].length from rfl] at e9'
    rw [e9', thenN_nx]
    rfl
  simp [G_law, e]
end DL
open PySem PySem.W PySem.Calls PyProof.Rows
theorem PySem.Challenge.cw_truthrings_k85_whole_supposed_or_stated_holds : PySem.Challenge.rw_truthrings_k85_whole_supposed_or_stated.Holds := by
  w_on; o_law
  refine HandSHeadRun.head_any (r := OpenLaw.row PySem.Challenge.rw_truthrings_k85_whole_supposed_or_stated) (q := view (OpenLaw.row PySem.Challenge.rw_truthrings_k85_whole_supposed_or_stated).prog [118]) (H := DL.hk) (ob := DL.ob) (M := 20000) (loose := DL.names) (d := HandSHeadRun.topDef (OpenLaw.row PySem.Challenge.rw_truthrings_k85_whole_supposed_or_stated).prog 118) (kwd := []) DL.ob_eq
    (by kernel_rfl) (fun s => by kernel_rfl) DL.run (by kernel_rfl) (by kernel_rfl) (by kernel_rfl) (by rfl) (by first | assumption | decide +kernel) (by decide +kernel) ⟨rfl, rfl, rfl, rfl, rfl, by decide +kernel⟩ ?hw ?hc
  case hw => w_witness2
  case hc =>
    refine DL.walk_end (l := PySem.Challenge.rw_truthrings_k85_whole_supposed_or_stated) (n := 63) (k := 16) (G := fun w K => DL.G_law (DL.CL (PySem.Challenge.rw_truthrings_k85_whole_supposed_or_stated).prog w K)) rfl (by decide) (by kernel_rfl) ⟨rfl, by decide, by decide⟩ ?F ?G
    case G =>
      intro w K ns hn
      exact DL.law_ok ns hn
    case F =>
      intro w mg fa h Y G hmg0
      obtain ⟨K, KX, c⟩ := Y
      have hmg : mg ("law" : PySem.Str) = some (.ref fa) := by
        have e : (HandSHeadRun.topDef (OpenLaw.row PySem.Challenge.rw_truthrings_k85_whole_supposed_or_stated).prog 118).name = ("law" : PySem.Str) := by kernel_rfl
        rw [← e]
        exact hmg0
      have Z : DL.KZ K mg := ⟨⟨h, KX, G⟩, c⟩
      have e := hmg.symm.trans (DL.zg_law Z)
      cases e
      exact ⟨K, DL.CL _ w K, KX, fun base _ _ => DL.g_law Z⟩
