import PyProof.Rows.All
import Wide.All
import OpenK.AllK
import Wide.FinOn
import KE.KStateDown
import HandS.Base
import HandS.Call
import HandS.List
import HandS.Comp
import HandS.Dict
import HandS.Iter
import HandS.Text
import HandS.Ends
import HandS.More
import HandS.Words
import HandS.WordsList
import HandS.WordsDict
import HandS.WordsExc
import HandS.Exc
import HandS.ExcOwn
import HandS.TryOnly
import HandS.Defaults
import HandS.Flow
import HandS.Style
import HandS.Walk
import HandS.SortInts
import HandS.TupMul
import HandS.TupAny
import HandS.Codes
import HandS.CallLocal
import HandS.IsInst
import HandS.StrMore
import HandS.Steps
import HandS.Zip
import HandS.DictComp
import HandS.Head0
import HandS.Head1
import HandS.Head2
import HandS.HeadEnd
import HandS.HeadHook1
import HandS.HeadHook2
import HandS.HeadHook3
import PyProof.ListMulRoad
import PyProof.FactsAll.tuple_2
import KE.KSortedM
import KE.DataMinMax
import KE.DatumOrd
import HandS.SortKw
import HandS.Replace
import PySem.Challenge.RW_tacet_k79_whole_census_of_trees
set_option Elab.async false
set_option linter.all false
set_option maxRecDepth 100000
set_option maxHeartbeats 4000000
set_option maxRecDepth 100000
set_option maxHeartbeats 4000000
namespace K79
open PySem PySem.Spec PyProof.Rows L2
def top (i : Nat) : Stmt := PySem.Challenge.pw_tacet_k79_whole_census_of_trees.main.body.getD i (.Pass ⟨0, 0, 0, 0⟩)
abbrev s_is_whole : Stmt := top 11
abbrev s_is_rule : Stmt := top 12
abbrev s_is_machine : Stmt := top 13
abbrev s_rule_text : Stmt := top 14
abbrev s_text : Stmt := top 15
abbrev s_parse_rule : Stmt := top 16
abbrev s_parse : Stmt := top 17
abbrev s_mirrored : Stmt := top 18
abbrev s_Runner_init : Stmt := inClass (top 38) 0
abbrev s_Runner_symbol : Stmt := inClass (top 38) 1
abbrev s_Runner_step : Stmt := inClass (top 38) 2
abbrev s_Runner_run : Stmt := inClass (top 38) 3
abbrev s_Runner_cells : Stmt := inClass (top 38) 4
abbrev s_Runner_tail : Stmt := inClass (top 38) 5
abbrev s_tail : Stmt := top 39
abbrev s_History_init : Stmt := inClass (top 78) 0
abbrev s_History_grow : Stmt := inClass (top 78) 1
abbrev s_History_repeats : Stmt := inClass (top 78) 2
abbrev s_is_loop : Stmt := top 79
abbrev s_last_repeated : Stmt := top 80
abbrev s_find_loop : Stmt := top 81
abbrev s_try_stop : Stmt := top 83
abbrev s_try_loop : Stmt := top 84
abbrev s_decide : Stmt := top 91
abbrev s_shows_loop : Stmt := top 93
abbrev s_shows_stop : Stmt := top 95
abbrev s_shows : Stmt := top 97
abbrev s_Tape_init : Stmt := inClass (top 105) 0
abbrev s_Tape_symbol : Stmt := inClass (top 105) 1
abbrev s_Tape_write : Stmt := inClass (top 105) 2
abbrev s_Tape_take : Stmt := inClass (top 105) 3
abbrev s_walked : Stmt := top 108
abbrev s_root : Stmt := top 109
abbrev s_children : Stmt := top 110
abbrev s_replaced : Stmt := top 111
abbrev s_tree : Stmt := top 112
abbrev s_count_all : Stmt := top 114
abbrev s_tree_census : Stmt := top 115
abbrev s_law_stream : Stmt := top 117
abbrev s_law_draw : Stmt := top 118
abbrev s_law_run : Stmt := top 120
abbrev s_law_ones : Stmt := top 121
abbrev s_law_refused : Stmt := top 122
abbrev s_law : Stmt := top 123
def d_is_whole : He.DefD := ⟨("is_whole", none), "is_whole", "is_whole", defArgs s_is_whole, defBody s_is_whole, defScope s_is_whole, [], []⟩
def d_is_rule : He.DefD := ⟨("is_rule", none), "is_rule", "is_rule", defArgs s_is_rule, defBody s_is_rule, defScope s_is_rule, [], []⟩
def d_is_machine : He.DefD := ⟨("is_machine", none), "is_machine", "is_machine", defArgs s_is_machine, defBody s_is_machine, defScope s_is_machine, [], []⟩
def d_rule_text : He.DefD := ⟨("rule_text", none), "rule_text", "rule_text", defArgs s_rule_text, defBody s_rule_text, defScope s_rule_text, [], []⟩
def d_text : He.DefD := ⟨("text", none), "text", "text", defArgs s_text, defBody s_text, defScope s_text, [], []⟩
def d_parse_rule : He.DefD := ⟨("parse_rule", none), "parse_rule", "parse_rule", defArgs s_parse_rule, defBody s_parse_rule, defScope s_parse_rule, [], []⟩
def d_parse : He.DefD := ⟨("parse", none), "parse", "parse", defArgs s_parse, defBody s_parse, defScope s_parse, [], []⟩
def d_mirrored : He.DefD := ⟨("mirrored", none), "mirrored", "mirrored", defArgs s_mirrored, defBody s_mirrored, defScope s_mirrored, [], []⟩
def d_Runner_init : He.DefD := ⟨("Runner", some "__init__"), "__init__", "Runner.__init__", defArgs s_Runner_init, defBody s_Runner_init, defScope s_Runner_init, [], []⟩
def d_Runner_symbol : He.DefD := ⟨("Runner", some "symbol"), "symbol", "Runner.symbol", defArgs s_Runner_symbol, defBody s_Runner_symbol, defScope s_Runner_symbol, [], []⟩
def d_Runner_step : He.DefD := ⟨("Runner", some "step"), "step", "Runner.step", defArgs s_Runner_step, defBody s_Runner_step, defScope s_Runner_step, [], []⟩
def d_Runner_run : He.DefD := ⟨("Runner", some "run"), "run", "Runner.run", defArgs s_Runner_run, defBody s_Runner_run, defScope s_Runner_run, [], []⟩
def d_Runner_cells : He.DefD := ⟨("Runner", some "cells"), "cells", "Runner.cells", defArgs s_Runner_cells, defBody s_Runner_cells, defScope s_Runner_cells, [], []⟩
def d_Runner_tail : He.DefD := ⟨("Runner", some "tail"), "tail", "Runner.tail", defArgs s_Runner_tail, defBody s_Runner_tail, defScope s_Runner_tail, [], []⟩
def d_tail : He.DefD := ⟨("tail", none), "tail", "tail", defArgs s_tail, defBody s_tail, defScope s_tail, [], []⟩
def d_History_init : He.DefD := ⟨("History", some "__init__"), "__init__", "History.__init__", defArgs s_History_init, defBody s_History_init, defScope s_History_init, [], []⟩
def d_History_grow : He.DefD := ⟨("History", some "grow"), "grow", "History.grow", defArgs s_History_grow, defBody s_History_grow, defScope s_History_grow, [], []⟩
def d_History_repeats : He.DefD := ⟨("History", some "repeats"), "repeats", "History.repeats", defArgs s_History_repeats, defBody s_History_repeats, defScope s_History_repeats, [], []⟩
def d_is_loop : He.DefD := ⟨("is_loop", none), "is_loop", "is_loop", defArgs s_is_loop, defBody s_is_loop, defScope s_is_loop, [], []⟩
def d_last_repeated : He.DefD := ⟨("last_repeated", none), "last_repeated", "last_repeated", defArgs s_last_repeated, defBody s_last_repeated, defScope s_last_repeated, [], []⟩
def d_find_loop : He.DefD := ⟨("find_loop", none), "find_loop", "find_loop", defArgs s_find_loop, defBody s_find_loop, defScope s_find_loop, [], []⟩
def d_try_stop : He.DefD := ⟨("try_stop", none), "try_stop", "try_stop", defArgs s_try_stop, defBody s_try_stop, defScope s_try_stop, [], []⟩
def d_try_loop : He.DefD := ⟨("try_loop", none), "try_loop", "try_loop", defArgs s_try_loop, defBody s_try_loop, defScope s_try_loop, [], []⟩
def d_decide : He.DefD := ⟨("decide", none), "decide", "decide", defArgs s_decide, defBody s_decide, defScope s_decide, [], []⟩
def d_shows_loop : He.DefD := ⟨("shows_loop", none), "shows_loop", "shows_loop", defArgs s_shows_loop, defBody s_shows_loop, defScope s_shows_loop, [], []⟩
def d_shows_stop : He.DefD := ⟨("shows_stop", none), "shows_stop", "shows_stop", defArgs s_shows_stop, defBody s_shows_stop, defScope s_shows_stop, [], []⟩
def d_shows : He.DefD := ⟨("shows", none), "shows", "shows", defArgs s_shows, defBody s_shows, defScope s_shows, [], []⟩
def d_Tape_init : He.DefD := ⟨("Tape", some "__init__"), "__init__", "Tape.__init__", defArgs s_Tape_init, defBody s_Tape_init, defScope s_Tape_init, [], []⟩
def d_Tape_symbol : He.DefD := ⟨("Tape", some "symbol"), "symbol", "Tape.symbol", defArgs s_Tape_symbol, defBody s_Tape_symbol, defScope s_Tape_symbol, [], []⟩
def d_Tape_write : He.DefD := ⟨("Tape", some "write"), "write", "Tape.write", defArgs s_Tape_write, defBody s_Tape_write, defScope s_Tape_write, [], []⟩
def d_Tape_take : He.DefD := ⟨("Tape", some "take"), "take", "Tape.take", defArgs s_Tape_take, defBody s_Tape_take, defScope s_Tape_take, [], []⟩
def d_walked : He.DefD := ⟨("walked", none), "walked", "walked", defArgs s_walked, defBody s_walked, defScope s_walked, [], []⟩
def d_root : He.DefD := ⟨("root", none), "root", "root", defArgs s_root, defBody s_root, defScope s_root, [], []⟩
def d_children : He.DefD := ⟨("children", none), "children", "children", defArgs s_children, defBody s_children, defScope s_children, [], []⟩
def d_replaced : He.DefD := ⟨("replaced", none), "replaced", "replaced", defArgs s_replaced, defBody s_replaced, defScope s_replaced, [], []⟩
def d_tree : He.DefD := ⟨("tree", none), "tree", "tree", defArgs s_tree, defBody s_tree, defScope s_tree, [], []⟩
def d_count_all : He.DefD := ⟨("count_all", none), "count_all", "count_all", defArgs s_count_all, defBody s_count_all, defScope s_count_all, [], []⟩
def d_tree_census : He.DefD := ⟨("tree_census", none), "tree_census", "tree_census", defArgs s_tree_census, defBody s_tree_census, defScope s_tree_census, [], []⟩
def d_law_stream : He.DefD := ⟨("_law_stream", none), "_law_stream", "_law_stream", defArgs s_law_stream, defBody s_law_stream, defScope s_law_stream, [], []⟩
def d_law_draw : He.DefD := ⟨("_law_draw", none), "_law_draw", "_law_draw", defArgs s_law_draw, defBody s_law_draw, defScope s_law_draw, [], []⟩
def d_law_run : He.DefD := ⟨("_law_run", none), "_law_run", "_law_run", defArgs s_law_run, defBody s_law_run, defScope s_law_run, [], []⟩
def d_law_ones : He.DefD := ⟨("_law_ones", none), "_law_ones", "_law_ones", defArgs s_law_ones, defBody s_law_ones, defScope s_law_ones, [], []⟩
def d_law_refused : He.DefD := ⟨("_law_refused", none), "_law_refused", "_law_refused", defArgs s_law_refused, defBody s_law_refused, defScope s_law_refused, [], []⟩
def d_law : He.DefD := ⟨("law", none), "law", "law", defArgs s_law, defBody s_law, defScope s_law, [], []⟩
def fn : List He.DefD := [d_is_whole, d_is_rule, d_is_machine, d_rule_text, d_text, d_parse_rule, d_parse, d_mirrored, d_Runner_init, d_Runner_symbol, d_Runner_step, d_Runner_run, d_Runner_cells, d_Runner_tail, d_tail, d_History_init, d_History_grow, d_History_repeats, d_is_loop, d_last_repeated, d_find_loop, d_try_stop, d_try_loop, d_decide, d_shows_loop, d_shows_stop, d_shows, d_Tape_init, d_Tape_symbol, d_Tape_write, d_Tape_take, d_walked, d_root, d_children, d_replaced, d_tree, d_count_all, d_tree_census, d_law_stream, d_law_draw, d_law_run, d_law_ones, d_law_refused, d_law]
/-! ### tables of the top -/
def itemsAt (K : PySem.W.Frag) (a : Addr) : List Value := match K.lookup a with
  | some ⟨_, _, .seq its _, _⟩ => its.toList
  | _ => []
def refOf : Value → Addr
  | .ref a => a
  | _ => 0
def itemRef (K : PySem.W.Frag) (a : Addr) (i : Nat) : Addr := refOf ((itemsAt K a).getD i .none)
def tupAt (K : PySem.W.Frag) (a : Addr) (vs : List V) : Bool := match K.lookup a with
  | some ⟨.type c, _, .seq its _, _⟩ => decide (c = "tuple") && (decide (its.size ≤ sizeLine) && He.relAll vs its.toList)
  | _ => false
theorem tupAt_ok {K : PySem.W.Frag} {a : Addr} {vs : List V} (h : tupAt K a vs = true) (H : Hp) : SqT K H a vs := by
  unfold tupAt at h
  cases q : K.lookup a with
  | none =>
    rw [q] at h
    cases h
  | some o =>
    obtain ⟨oc, od, dt, osl⟩ := o
    rw [q] at h
    cases oc with
    | type c =>
      cases dt with
      | seq its n =>
        obtain ⟨h1, h2⟩ := He.ba (show (decide (c = "tuple") && (decide (its.size ≤ sizeLine) && He.relAll vs its.toList)) = true from h)
        obtain ⟨h3, h4⟩ := He.ba h2
        exact .inr ⟨_, its, n, q, congrArg Value.type (of_decide_eq_true h1), rfl, of_decide_eq_true h3, He.relAll_ok h4⟩
      | _ => cases h
    | _ => cases dt <;> cases h
def aMet (K : PySem.W.Frag) : Addr := He.ga K "METHODS"
def aBlk (K : PySem.W.Frag) : Addr := He.ga K "BLANK"
def more (K : PySem.W.Frag) : Bool :=
  tupAt K (aMet K) ((List.range 12).map fun i => V.ref (itemRef K (aMet K) i)) && (tupAt K (itemRef K (aMet K) 0) [.str "stop", .int 500] && (tupAt K (itemRef K (aMet K) 1) [.str "loop", .int 40] &&
  (tupAt K (aBlk K) [.int 0, .int 0, .int 0, .ref (itemRef K (aBlk K) 3)] && (tupAt K (itemRef K (aBlk K) 3) [] && (tupAt K (He.ga K "PLAIN") [.int 1, .int 1, .int (-1)] &&
  (He.valsB K (He.ga K "LOOKS") [("stop", .glo "try_stop"), ("loop", .glo "try_loop")] && decide (He.ga K "tail_runner" = He.ga K "tail")))))))
def ts : List He.Tab := [(fun K => He.ga K "LOOKS", ["stop", "loop", "back", "grams", "shape", "small"])]
def gnames : List Str := ["is_whole", "is_rule", "is_machine", "rule_text", "text", "parse_rule", "parse", "mirrored", "Runner", "tail", "tail_runner", "History", "is_loop", "last_repeated", "find_loop", "try_stop", "try_loop", "decide", "shows_loop", "shows_stop", "shows"]
def gnames2 : List Str := ["Tape", "walked", "root", "children", "replaced", "tree", "count_all", "tree_census", "_law_stream", "_law_draw", "_law_run", "_law_ones", "_law_refused", "law", "METHODS", "LOOKS", "BLANK", "PLAIN", "TooLarge"]
def fnames : List Str := ["isinstance", "int", "bool", "tuple", "len", "all", "range", "sorted", "list", "min", "max", "enumerate", "zip", "abs"]
def nats : List (Str × Str) := [("Runner", "machine"), ("Runner", "tape"), ("Runner", "place"), ("Runner", "state"), ("Runner", "steps"), ("History", "runner"), ("History", "states"), ("History", "places"), ("History", "tapes"), ("Tape", "state"), ("Tape", "place"), ("Tape", "cells"), ("Tape", "least"), ("Tape", "most")]
def meths : List (Str × Str) := [("Runner", "symbol"), ("Runner", "step"), ("Runner", "run"), ("Runner", "cells"), ("Runner", "tail"), ("History", "grow"), ("History", "repeats"), ("Tape", "symbol"), ("Tape", "write"), ("Tape", "take")]
def fa : List He.Fa := gnames.map .glo ++ (gnames2.map .glo ++ (fnames.map .free ++ (nats.map (fun p => .noat p.1 p.2) ++ (meths.map (fun p => .meth p.1 p.2) ++
  [.cls "Runner", .cls "History", .cls "Tape", .mkr "Runner", .mkr "History", .mkr "Tape", .int "STOP" (-1), .int "MOST_STATES" 4, .int "MOST_SYMBOLS" 4, .str "LETTERS" "ABCD", .str "DIGITS" "0123", .exc "TooLarge", .exm "TooLarge" "TooLarge" true]))))
abbrev R : PySem.W.OpenRow := PySem.W.OpenLaw.row PySem.Challenge.rw_tacet_k79_whole_census_of_trees
/-- what an object of the written part names, as far as the facts ask -/
def refsM (o : Obj) : List Addr := match o.data with
  | .seq its _ => its.toList.flatMap He.refV
  | .dict es _ => es.toList.flatMap fun e => He.refV e.val
  | .func fd => He.refV fd.code
  | .cls cd => [cd.ns]
  | _ => []
def layer (g : Addr → Option Obj) (as : List Addr) : List Addr := as.flatMap fun a => match g a with
  | some o => refsM o
  | none => []
def asM (g : Addr → Option Obj) : Nat → List Addr → List Addr
  | 0, as => as
  | n + 1, as => as ++ asM g n (layer g as)
/-! ### the Hook -/
abbrev AlM : Type := He.AlT × Bool
def obsM (g : Addr → Option Obj) : AlM := (He.obsT fa fn ts (He.frG g (asM g 4 [mainGlobals])), more (He.frG g (asM g 4 [mainGlobals])))
def valM (w : World) : AlM := (He.valT fn ts w, true)
structure SaysM (w : World) (K : PySem.W.Frag) : Prop where
  t : He.SaysT fa fn ts w K
  more : more K = true
def hk : PySem.W.Hook where
  α := AlM
  obs := fun s => obsM s.heap.get?
  val := fun w => valM w
  says := fun w h => ∃ K : PySem.W.Frag, K.In h ∧ SaysM w K
  of := fun _ _ e => ⟨_, He.frG_in, ⟨congrArg (fun z : AlM => z.1) e, congrArg (fun z : AlM => z.2) e⟩⟩
  keeps := fun _ _ _ ⟨K, hK, c⟩ k => ⟨K, PySem.W.Frag.In.keeps hK k, c⟩
end K79

set_option maxRecDepth 100000
set_option maxHeartbeats 0
namespace K79
open PySem PySem.Spec PyProof.Rows L2
/-! ### the written part, forced -/
section
variable {α : Type}
def frL : List Addr → (List Addr → α) → α
  | [], k => k []
  | a :: r, k => HandSHeadRun.frNat a fun a => frL r fun r => k (a :: r)
theorem frL_eq : ∀ (l : List Addr) (k : List Addr → α), frL l k = k l
  | [], _ => rfl
  | a :: r, k => by
    show HandSHeadRun.frNat a (fun a => frL r fun r => k (a :: r)) = k (a :: r)
    rw [HandSHeadRun.frNat_eq, frL_eq r]
def asF (g : Addr → Option Obj) : Nat → List Addr → (List Addr → α) → α
  | 0, as, k => k as
  | n + 1, as, k => frL (layer g as) fun bs => asF g n bs fun cs => k (as ++ cs)
theorem asF_eq (g : Addr → Option Obj) : ∀ (n : Nat) (as : List Addr) (k : List Addr → α), asF g n as k = k (asM g n as)
  | 0, _, _ => rfl
  | n + 1, as, k => by
    show frL (layer g as) (fun bs => asF g n bs fun cs => k (as ++ cs)) = k (as ++ asM g n (layer g as))
    rw [frL_eq, asF_eq g n]
def frVal (v : Value) (k : Value → α) : α := match v with
  | .ref a => HandSHeadRun.frNat a fun a => k (.ref a)
  | .none => k .none
  | .type n => k (.type n)
  | .builtin n => k (.builtin n)
  | .int i t => k (.int i t)
  | .str x t => k (.str x t)
  | v => k v
theorem frVal_eq (v : Value) (k : Value → α) : frVal v k = k v := by
  cases v with
  | ref a => exact HandSHeadRun.frNat_eq a fun a => k (.ref a)
  | _ => rfl
def frEs : List DictEntry → (List DictEntry → α) → α
  | [], k => k []
  | ⟨h, y, v⟩ :: r, k => frVal y fun y => frVal v fun v => frEs r fun r => k (⟨h, y, v⟩ :: r)
theorem frEs_eq : ∀ (l : List DictEntry) (k : List DictEntry → α), frEs l k = k l
  | [], _ => rfl
  | ⟨h, y, v⟩ :: r, k => by
    show frVal y (fun y => frVal v fun v => frEs r fun r => k (⟨h, y, v⟩ :: r)) = k (⟨h, y, v⟩ :: r)
    rw [frVal_eq, frVal_eq, frEs_eq r]
def frVs : List Value → (List Value → α) → α
  | [], k => k []
  | v :: r, k => frVal v fun v => frVs r fun r => k (v :: r)
theorem frVs_eq : ∀ (l : List Value) (k : List Value → α), frVs l k = k l
  | [], _ => rfl
  | v :: r, k => by
    show frVal v (fun v => frVs r fun r => k (v :: r)) = k (v :: r)
    rw [frVal_eq, frVs_eq r]
def frData (d : Data) (k : Data → α) : α := match d with
  | .dict ⟨es⟩ n => frEs es fun es => k (.dict ⟨es⟩ n)
  | .seq ⟨vs⟩ n => frVs vs fun vs => k (.seq ⟨vs⟩ n)
  | .fields ⟨vs⟩ => frVs vs fun vs => k (.fields ⟨vs⟩)
  | .func fd => k (.func fd)
  | .cls cd => k (.cls cd)
  | d => k d
theorem frData_eq (d : Data) (k : Data → α) : frData d k = k d := by
  cases d with
  | dict es n =>
    obtain ⟨es⟩ := es
    exact frEs_eq es fun es => k (.dict ⟨es⟩ n)
  | seq vs n =>
    obtain ⟨vs⟩ := vs
    exact frVs_eq vs fun vs => k (.seq ⟨vs⟩ n)
  | fields vs =>
    obtain ⟨vs⟩ := vs
    exact frVs_eq vs fun vs => k (.fields ⟨vs⟩)
  | _ => rfl
def frO (o : Obj) (k : Obj → α) : α := match o with
  | ⟨c, d, dt, sl⟩ => frData dt fun dt => frVal c fun c => k ⟨c, d, dt, sl⟩
theorem frO_eq (o : Obj) (k : Obj → α) : frO o k = k o := by
  obtain ⟨c, d, dt, sl⟩ := o
  show frData dt (fun dt => frVal c fun c => k ⟨c, d, dt, sl⟩) = _
  rw [frData_eq, frVal_eq]
def frK : PySem.W.Frag → (PySem.W.Frag → α) → α
  | [], k => k []
  | (a, o) :: r, k => HandSHeadRun.frNat a fun a => frO o fun o => frK r fun r => k ((a, o) :: r)
theorem frK_eq : ∀ (l : PySem.W.Frag) (k : PySem.W.Frag → α), frK l k = k l
  | [], _ => rfl
  | (a, o) :: r, k => by
    show HandSHeadRun.frNat a (fun a => frO o fun o => frK r fun r => k ((a, o) :: r)) = k ((a, o) :: r)
    rw [HandSHeadRun.frNat_eq, frO_eq, frK_eq r]
end
def ob (s : PySem.W.SharedT) : AlM := asF (HandSHeadRun.getT s) 4 [mainGlobals] fun as => frK (He.frG (HandSHeadRun.getT s) as) fun K => (He.obsT fa fn ts K, more K)
theorem ob_eq (s : PySem.W.SharedT) : ob s = hk.obs s.abs := by
  have e : HandSHeadRun.getT s = s.abs.heap.get? := funext (HandSHeadRun.getT_eq s)
  unfold ob
  rw [asF_eq, frK_eq, e]
  rfl
def loose0 : List Str := ["_wall", "TacetError", "TooLarge", "BadText", "MOST_STATES", "MOST_SYMBOLS", "STOP", "LETTERS", "DIGITS", "is_whole", "is_rule", "is_machine", "rule_text", "text", "parse_rule", "parse", "mirrored", "MOST_ROWS", "MOST_ELEMENTS", "is_number"]
def loose1 : List Str := ["is_automaton", "are_rows", "has_form", "edges_into", "is_right", "Closing", "close", "gram", "extended", "plain_automata", "closed_with", "find_grams", "find_small", "Runner", "tail", "tail_runner", "MOST_DEPTH", "MOST_PARTIALS", "stopping", "before"]
def loose2 : List Str := ["predecessors", "checked", "checked_backward", "level", "stops_within", "is_dead_end", "find_dead_end", "MOST_REPEATS", "MOST_WORD", "MOST_FIRST", "MOST_MOVES", "MOST_CROSSING", "are_words", "has_shape_form", "is_shape", "tape_of", "bare", "Symbolic", "sided", "grows"]
def loose3 : List Str := ["has_shape", "MOST_TURNS", "MOST_LENGTH", "MOST_GROWTH", "turns", "shared", "pulled", "Finder", "find_shape", "History", "is_loop", "last_repeated", "find_loop", "try_stop", "try_loop", "try_back", "try_grams", "try_shape", "try_small", "METHODS"]
def loose4 : List Str := ["LOOKS", "decide", "shows_loop", "shows_back", "shows_stop", "shows_shape", "shows", "MOST_CELLS", "MOST_PLACE", "BLANK", "is_configuration", "checked_tapes", "Tape", "PLAIN", "walked", "root", "children", "replaced", "tree", "count_all"]
def loose5 : List Str := ["tree_census", "_law_stream", "_law_draw", "_law_machine", "_law_run", "_law_ones", "_law_refused"]
def loose : List Str := loose0 ++ (loose1 ++ (loose2 ++ (loose3 ++ (loose4 ++ (loose5)))))
theorem runF (w : World) : HandSHeadRun.RunEq R (PySem.W.view R.prog [123]) hk ob 8000 loose (w.withFollow "special-get-raises" false) := by
  intro os
  kernel_rfl
theorem runT (w : World) : HandSHeadRun.RunEq R (PySem.W.view R.prog [123]) hk ob 8000 loose (w.withFollow "special-get-raises" true) := by
  intro os
  kernel_rfl
theorem run (w : World) : HandSHeadRun.RunEq R (PySem.W.view R.prog [123]) hk ob 8000 loose w :=
  PySem.W.byRow2 "special-get-raises" (P := fun w => HandSHeadRun.RunEq R (PySem.W.view R.prog [123]) hk ob 8000 loose w) runF runT w
end K79

set_option maxHeartbeats 4000000
namespace K79
open PySem PySem.Spec PyProof.Rows L2
/-! ### what the defs lean on -/
structure Txt (w : World) (K : PySem.W.Frag) (mg : Str → Option Value) : Prop where
  t : He.SaysT fa fn ts w K
  more : more K = true
  gl : ∀ (i : Nat) {x : Str}, fa[i]? = some (.glo x) → mg x = some (.ref (He.ga K x))
  fr : ∀ (i : Nat) {x : Str}, fa[i]? = some (.free x) → mg x = none
  it : ∀ (i : Nat) {x : Str} {j : Int}, fa[i]? = some (.int x j) → ∃ t, mg x = some (.int j t)
  sr : ∀ (i : Nat) {x y : Str}, fa[i]? = some (.str x y) → ∃ t, mg x = some (.str y t)
section
variable {w : World} {K : PySem.W.Frag} {mg : Str → Option Value} {P : Program} {base : Heap}
theorem Txt.of {h : Heap} (c : SaysM w K) (X : K.In h) (G : h.Ns mainGlobals mg) : Txt w K mg :=
  ⟨c.t, c.more, fun i _ e => He.glo_ok X G (c.t.d.fact i e), fun i _ e => He.free_ok X G (c.t.d.fact i e), fun i _ _ e => He.int_ok X G (c.t.d.fact i e), fun i _ _ e => He.str_ok X G (c.t.d.fact i e)⟩
theorem Txt.fd (T : Txt w K mg) (i : Nat) {d : He.DefD} (h : fn[i]? = some d) (e1 : d.dfl = []) (e2 : d.kwd = []) : ∃ fd, FunD K d.name d.qual d.params d.body d.scope [] [] (He.fAd K d.at_) fd := by
  obtain ⟨fd, F⟩ := T.t.d.def_ i h
  unfold He.DefD.dvs He.DefD.kws at F
  rw [e1, e2] at F
  exact ⟨fd, F⟩
theorem Txt.g_is_whole (T : Txt w K mg) : mg "is_whole" = some (.ref (He.ga K "is_whole")) := T.gl 0 rfl
theorem Txt.g_is_rule (T : Txt w K mg) : mg "is_rule" = some (.ref (He.ga K "is_rule")) := T.gl 1 rfl
theorem Txt.g_is_machine (T : Txt w K mg) : mg "is_machine" = some (.ref (He.ga K "is_machine")) := T.gl 2 rfl
theorem Txt.g_rule_text (T : Txt w K mg) : mg "rule_text" = some (.ref (He.ga K "rule_text")) := T.gl 3 rfl
theorem Txt.g_text (T : Txt w K mg) : mg "text" = some (.ref (He.ga K "text")) := T.gl 4 rfl
theorem Txt.g_parse_rule (T : Txt w K mg) : mg "parse_rule" = some (.ref (He.ga K "parse_rule")) := T.gl 5 rfl
theorem Txt.g_parse (T : Txt w K mg) : mg "parse" = some (.ref (He.ga K "parse")) := T.gl 6 rfl
theorem Txt.g_mirrored (T : Txt w K mg) : mg "mirrored" = some (.ref (He.ga K "mirrored")) := T.gl 7 rfl
theorem Txt.g_Runner (T : Txt w K mg) : mg "Runner" = some (.ref (He.ga K "Runner")) := T.gl 8 rfl
theorem Txt.g_tail (T : Txt w K mg) : mg "tail" = some (.ref (He.ga K "tail")) := T.gl 9 rfl
theorem Txt.g_tail_runner0 (T : Txt w K mg) : mg "tail_runner" = some (.ref (He.ga K "tail_runner")) := T.gl 10 rfl
theorem Txt.g_History (T : Txt w K mg) : mg "History" = some (.ref (He.ga K "History")) := T.gl 11 rfl
theorem Txt.g_is_loop (T : Txt w K mg) : mg "is_loop" = some (.ref (He.ga K "is_loop")) := T.gl 12 rfl
theorem Txt.g_last_repeated (T : Txt w K mg) : mg "last_repeated" = some (.ref (He.ga K "last_repeated")) := T.gl 13 rfl
theorem Txt.g_find_loop (T : Txt w K mg) : mg "find_loop" = some (.ref (He.ga K "find_loop")) := T.gl 14 rfl
theorem Txt.g_try_stop (T : Txt w K mg) : mg "try_stop" = some (.ref (He.ga K "try_stop")) := T.gl 15 rfl
theorem Txt.g_try_loop (T : Txt w K mg) : mg "try_loop" = some (.ref (He.ga K "try_loop")) := T.gl 16 rfl
theorem Txt.g_decide (T : Txt w K mg) : mg "decide" = some (.ref (He.ga K "decide")) := T.gl 17 rfl
theorem Txt.g_shows_loop (T : Txt w K mg) : mg "shows_loop" = some (.ref (He.ga K "shows_loop")) := T.gl 18 rfl
theorem Txt.g_shows_stop (T : Txt w K mg) : mg "shows_stop" = some (.ref (He.ga K "shows_stop")) := T.gl 19 rfl
theorem Txt.g_shows (T : Txt w K mg) : mg "shows" = some (.ref (He.ga K "shows")) := T.gl 20 rfl
theorem Txt.g_Tape (T : Txt w K mg) : mg "Tape" = some (.ref (He.ga K "Tape")) := T.gl 21 rfl
theorem Txt.g_walked (T : Txt w K mg) : mg "walked" = some (.ref (He.ga K "walked")) := T.gl 22 rfl
theorem Txt.g_root (T : Txt w K mg) : mg "root" = some (.ref (He.ga K "root")) := T.gl 23 rfl
theorem Txt.g_children (T : Txt w K mg) : mg "children" = some (.ref (He.ga K "children")) := T.gl 24 rfl
theorem Txt.g_replaced (T : Txt w K mg) : mg "replaced" = some (.ref (He.ga K "replaced")) := T.gl 25 rfl
theorem Txt.g_tree (T : Txt w K mg) : mg "tree" = some (.ref (He.ga K "tree")) := T.gl 26 rfl
theorem Txt.g_count_all (T : Txt w K mg) : mg "count_all" = some (.ref (He.ga K "count_all")) := T.gl 27 rfl
theorem Txt.g_tree_census (T : Txt w K mg) : mg "tree_census" = some (.ref (He.ga K "tree_census")) := T.gl 28 rfl
theorem Txt.g_law_stream (T : Txt w K mg) : mg "_law_stream" = some (.ref (He.ga K "_law_stream")) := T.gl 29 rfl
theorem Txt.g_law_draw (T : Txt w K mg) : mg "_law_draw" = some (.ref (He.ga K "_law_draw")) := T.gl 30 rfl
theorem Txt.g_law_run (T : Txt w K mg) : mg "_law_run" = some (.ref (He.ga K "_law_run")) := T.gl 31 rfl
theorem Txt.g_law_ones (T : Txt w K mg) : mg "_law_ones" = some (.ref (He.ga K "_law_ones")) := T.gl 32 rfl
theorem Txt.g_law_refused (T : Txt w K mg) : mg "_law_refused" = some (.ref (He.ga K "_law_refused")) := T.gl 33 rfl
theorem Txt.g_law (T : Txt w K mg) : mg "law" = some (.ref (He.ga K "law")) := T.gl 34 rfl
theorem Txt.g_METHODS (T : Txt w K mg) : mg "METHODS" = some (.ref (He.ga K "METHODS")) := T.gl 35 rfl
theorem Txt.g_LOOKS (T : Txt w K mg) : mg "LOOKS" = some (.ref (He.ga K "LOOKS")) := T.gl 36 rfl
theorem Txt.g_BLANK (T : Txt w K mg) : mg "BLANK" = some (.ref (He.ga K "BLANK")) := T.gl 37 rfl
theorem Txt.g_PLAIN (T : Txt w K mg) : mg "PLAIN" = some (.ref (He.ga K "PLAIN")) := T.gl 38 rfl
theorem Txt.g_TooLarge (T : Txt w K mg) : mg "TooLarge" = some (.ref (He.ga K "TooLarge")) := T.gl 39 rfl
theorem Txt.z_isinstance (T : Txt w K mg) : mg "isinstance" = none := T.fr 40 rfl
theorem Txt.z_int (T : Txt w K mg) : mg "int" = none := T.fr 41 rfl
theorem Txt.z_bool (T : Txt w K mg) : mg "bool" = none := T.fr 42 rfl
theorem Txt.z_tuple (T : Txt w K mg) : mg "tuple" = none := T.fr 43 rfl
theorem Txt.z_len (T : Txt w K mg) : mg "len" = none := T.fr 44 rfl
theorem Txt.z_all (T : Txt w K mg) : mg "all" = none := T.fr 45 rfl
theorem Txt.z_range (T : Txt w K mg) : mg "range" = none := T.fr 46 rfl
theorem Txt.z_sorted (T : Txt w K mg) : mg "sorted" = none := T.fr 47 rfl
theorem Txt.z_list (T : Txt w K mg) : mg "list" = none := T.fr 48 rfl
theorem Txt.z_min (T : Txt w K mg) : mg "min" = none := T.fr 49 rfl
theorem Txt.z_max (T : Txt w K mg) : mg "max" = none := T.fr 50 rfl
theorem Txt.z_enumerate (T : Txt w K mg) : mg "enumerate" = none := T.fr 51 rfl
theorem Txt.z_zip (T : Txt w K mg) : mg "zip" = none := T.fr 52 rfl
theorem Txt.z_abs (T : Txt w K mg) : mg "abs" = none := T.fr 53 rfl
theorem Txt.n_Runner_machine (T : Txt w K mg) : NoAttr K (He.ga K "Runner") "machine" := He.noat_ok (T.t.d.fact 54 (f := .noat "Runner" "machine") rfl)
theorem Txt.n_Runner_tape (T : Txt w K mg) : NoAttr K (He.ga K "Runner") "tape" := He.noat_ok (T.t.d.fact 55 (f := .noat "Runner" "tape") rfl)
theorem Txt.n_Runner_place (T : Txt w K mg) : NoAttr K (He.ga K "Runner") "place" := He.noat_ok (T.t.d.fact 56 (f := .noat "Runner" "place") rfl)
theorem Txt.n_Runner_state (T : Txt w K mg) : NoAttr K (He.ga K "Runner") "state" := He.noat_ok (T.t.d.fact 57 (f := .noat "Runner" "state") rfl)
theorem Txt.n_Runner_steps (T : Txt w K mg) : NoAttr K (He.ga K "Runner") "steps" := He.noat_ok (T.t.d.fact 58 (f := .noat "Runner" "steps") rfl)
theorem Txt.n_History_runner (T : Txt w K mg) : NoAttr K (He.ga K "History") "runner" := He.noat_ok (T.t.d.fact 59 (f := .noat "History" "runner") rfl)
theorem Txt.n_History_states (T : Txt w K mg) : NoAttr K (He.ga K "History") "states" := He.noat_ok (T.t.d.fact 60 (f := .noat "History" "states") rfl)
theorem Txt.n_History_places (T : Txt w K mg) : NoAttr K (He.ga K "History") "places" := He.noat_ok (T.t.d.fact 61 (f := .noat "History" "places") rfl)
theorem Txt.n_History_tapes (T : Txt w K mg) : NoAttr K (He.ga K "History") "tapes" := He.noat_ok (T.t.d.fact 62 (f := .noat "History" "tapes") rfl)
theorem Txt.n_Tape_state (T : Txt w K mg) : NoAttr K (He.ga K "Tape") "state" := He.noat_ok (T.t.d.fact 63 (f := .noat "Tape" "state") rfl)
theorem Txt.n_Tape_place (T : Txt w K mg) : NoAttr K (He.ga K "Tape") "place" := He.noat_ok (T.t.d.fact 64 (f := .noat "Tape" "place") rfl)
theorem Txt.n_Tape_cells (T : Txt w K mg) : NoAttr K (He.ga K "Tape") "cells" := He.noat_ok (T.t.d.fact 65 (f := .noat "Tape" "cells") rfl)
theorem Txt.n_Tape_least (T : Txt w K mg) : NoAttr K (He.ga K "Tape") "least" := He.noat_ok (T.t.d.fact 66 (f := .noat "Tape" "least") rfl)
theorem Txt.n_Tape_most (T : Txt w K mg) : NoAttr K (He.ga K "Tape") "most" := He.noat_ok (T.t.d.fact 67 (f := .noat "Tape" "most") rfl)
theorem Txt.m_Runner_symbol (T : Txt w K mg) : Meth K (He.ga K "Runner") "symbol" (He.fAd K ("Runner", some "symbol")) := He.meth_ok (T.t.d.fact 68 (f := .meth "Runner" "symbol") rfl)
theorem Txt.m_Runner_step (T : Txt w K mg) : Meth K (He.ga K "Runner") "step" (He.fAd K ("Runner", some "step")) := He.meth_ok (T.t.d.fact 69 (f := .meth "Runner" "step") rfl)
theorem Txt.m_Runner_run (T : Txt w K mg) : Meth K (He.ga K "Runner") "run" (He.fAd K ("Runner", some "run")) := He.meth_ok (T.t.d.fact 70 (f := .meth "Runner" "run") rfl)
theorem Txt.m_Runner_cells (T : Txt w K mg) : Meth K (He.ga K "Runner") "cells" (He.fAd K ("Runner", some "cells")) := He.meth_ok (T.t.d.fact 71 (f := .meth "Runner" "cells") rfl)
theorem Txt.m_Runner_tail (T : Txt w K mg) : Meth K (He.ga K "Runner") "tail" (He.fAd K ("Runner", some "tail")) := He.meth_ok (T.t.d.fact 72 (f := .meth "Runner" "tail") rfl)
theorem Txt.m_History_grow (T : Txt w K mg) : Meth K (He.ga K "History") "grow" (He.fAd K ("History", some "grow")) := He.meth_ok (T.t.d.fact 73 (f := .meth "History" "grow") rfl)
theorem Txt.m_History_repeats (T : Txt w K mg) : Meth K (He.ga K "History") "repeats" (He.fAd K ("History", some "repeats")) := He.meth_ok (T.t.d.fact 74 (f := .meth "History" "repeats") rfl)
theorem Txt.m_Tape_symbol (T : Txt w K mg) : Meth K (He.ga K "Tape") "symbol" (He.fAd K ("Tape", some "symbol")) := He.meth_ok (T.t.d.fact 75 (f := .meth "Tape" "symbol") rfl)
theorem Txt.m_Tape_write (T : Txt w K mg) : Meth K (He.ga K "Tape") "write" (He.fAd K ("Tape", some "write")) := He.meth_ok (T.t.d.fact 76 (f := .meth "Tape" "write") rfl)
theorem Txt.m_Tape_take (T : Txt w K mg) : Meth K (He.ga K "Tape") "take" (He.fAd K ("Tape", some "take")) := He.meth_ok (T.t.d.fact 77 (f := .meth "Tape" "take") rfl)
theorem Txt.c_Runner (T : Txt w K mg) : Cls K (He.ga K "Runner") := He.cls_ok (T.t.d.fact 78 (f := .cls "Runner") rfl)
theorem Txt.c_History (T : Txt w K mg) : Cls K (He.ga K "History") := He.cls_ok (T.t.d.fact 79 (f := .cls "History") rfl)
theorem Txt.c_Tape (T : Txt w K mg) : Cls K (He.ga K "Tape") := He.cls_ok (T.t.d.fact 80 (f := .cls "Tape") rfl)
theorem Txt.k_Runner (T : Txt w K mg) : Mk K (He.ga K "Runner") (He.fAd K ("Runner", some "__init__")) := He.mkr_ok (T.t.d.fact 81 (f := .mkr "Runner") rfl)
theorem Txt.k_History (T : Txt w K mg) : Mk K (He.ga K "History") (He.fAd K ("History", some "__init__")) := He.mkr_ok (T.t.d.fact 82 (f := .mkr "History") rfl)
theorem Txt.k_Tape (T : Txt w K mg) : Mk K (He.ga K "Tape") (He.fAd K ("Tape", some "__init__")) := He.mkr_ok (T.t.d.fact 83 (f := .mkr "Tape") rfl)
theorem Txt.i_STOP (T : Txt w K mg) : ∃ t, mg "STOP" = some (.int (-1) t) := T.it 84 rfl
theorem Txt.i_MOST_STATES (T : Txt w K mg) : ∃ t, mg "MOST_STATES" = some (.int (4) t) := T.it 85 rfl
theorem Txt.i_MOST_SYMBOLS (T : Txt w K mg) : ∃ t, mg "MOST_SYMBOLS" = some (.int (4) t) := T.it 86 rfl
theorem Txt.s_LETTERS (T : Txt w K mg) : ∃ t, mg "LETTERS" = some (.str "ABCD" t) := T.sr 87 rfl
theorem Txt.s_DIGITS (T : Txt w K mg) : ∃ t, mg "DIGITS" = some (.str "0123" t) := T.sr 88 rfl
theorem Txt.x_TooLarge (T : Txt w K mg) : PySem.W.excIn K (He.ga K "TooLarge") He.veBase "ValueError.__new__" = true ∧ PySem.W.keepIn K (.ref (He.ga K "TooLarge")) = true ∧ PySem.W.subIn K (.ref (He.ga K "TooLarge")) (.type "BaseException") = some true ∧ PySem.W.typeIn K (.ref (He.ga K "TooLarge")) = some (.type "type") := He.exc_ok (T.t.d.fact 89 (f := .exc "TooLarge") rfl)
theorem Txt.e_TooLarge (T : Txt w K mg) : PySem.W.exmOne K (.ref (He.ga K "TooLarge")) (.ref (He.ga K "TooLarge")) = some true := He.exm_ok (T.t.d.fact 90 (f := .exm "TooLarge" "TooLarge" true) rfl)
theorem mores {K : PySem.W.Frag} (h : more K = true) :
    tupAt K (aMet K) ((List.range 12).map fun i => V.ref (itemRef K (aMet K) i)) = true ∧ tupAt K (itemRef K (aMet K) 0) [.str "stop", .int 500] = true ∧ tupAt K (itemRef K (aMet K) 1) [.str "loop", .int 40] = true ∧
    tupAt K (aBlk K) [.int 0, .int 0, .int 0, .ref (itemRef K (aBlk K) 3)] = true ∧ tupAt K (itemRef K (aBlk K) 3) [] = true ∧ tupAt K (He.ga K "PLAIN") [.int 1, .int 1, .int (-1)] = true ∧
    He.valsB K (He.ga K "LOOKS") [("stop", .glo "try_stop"), ("loop", .glo "try_loop")] = true ∧ He.ga K "tail_runner" = He.ga K "tail" := by
  unfold more at h
  obtain ⟨h1, h⟩ := He.ba h
  obtain ⟨h2, h⟩ := He.ba h
  obtain ⟨h3, h⟩ := He.ba h
  obtain ⟨h4, h⟩ := He.ba h
  obtain ⟨h5, h⟩ := He.ba h
  obtain ⟨h6, h⟩ := He.ba h
  obtain ⟨h7, h8⟩ := He.ba h
  exact ⟨h1, h2, h3, h4, h5, h6, h7, of_decide_eq_true h8⟩
theorem Txt.g_tail_runner (T : Txt w K mg) : mg "tail_runner" = some (.ref (He.ga K "tail")) := by
  rw [← (mores T.more).2.2.2.2.2.2.2]
  exact T.g_tail_runner0
/-- a def of the text keeps a promise -/
structure Has (P : Program) (w : World) (K : PySem.W.Frag) (mg : Str → Option Value) (base : Heap) (CX : CXT) (k : Nat) (at_ : Str × Option Str) (ps : List Str) (sp : Sp) : Prop where
  ex : ∃ fd, FnOk P w K mg base CX k (He.fAd K at_) fd ps sp ∧ Binds K fd ps []
  kp : PySem.W.keepIn K (.ref (He.fAd K at_)) = true
end
end K79

namespace K79
open PySem PySem.Spec PyProof.Rows L2
/-! ### machines and runs, plainly -/
abbrev Rule := Int × Int × Int
abbrev Mach := List (List Rule)
abbrev Tp := List (Int × Int)
def lkO (t : Tp) (x : Int) : Option Int := (t.find? fun p => decide (p.1 = x)).map (·.2)
def lk (t : Tp) (x : Int) : Int := (lkO t x).getD 0
def pt (t : Tp) (x y : Int) : Tp := if (t.any fun p => decide (p.1 = x)) = true then t.map (fun p => if p.1 = x then (p.1, y) else p) else t ++ [(x, y)]
def kv (t : Tp) : List (Key × V) := t.map fun p => (Sum.inl p.1, V.int p.2)
theorem lkO_nil (x : Int) : lkO [] x = none := rfl
theorem lkO_pos {p : Int × Int} {r : Tp} {x : Int} (e : p.1 = x) : lkO (p :: r) x = some p.2 := by simp [lkO, List.find?_cons, e]
theorem lkO_neg {p : Int × Int} {r : Tp} {x : Int} (e : ¬ p.1 = x) : lkO (p :: r) x = lkO r x := by simp [lkO, List.find?_cons, e]
theorem valV_kv (x : Int) : ∀ t : Tp, valV (kv t) (Sum.inl x : Key) = (lkO t x).map V.int
  | [] => rfl
  | p :: r => by
    have ih := valV_kv x r
    show valV ((Sum.inl p.1, V.int p.2) :: kv r) (Sum.inl x : Key) = _
    by_cases e : p.1 = x
    · rw [valV_pos (congrArg Sum.inl e), lkO_pos e]
      rfl
    · rw [valV_neg (fun z => e (Sum.inl.inj z)), lkO_neg e, ih]
theorem getD_kv (t : Tp) (x : Int) : (valV (kv t) (Sum.inl x : Key)).getD (.int 0) = .int (lk t x) := by
  rw [valV_kv]
  unfold lk
  cases lkO t x <;> rfl
theorem any_kv (x : Int) (t : Tp) : ((kv t).any fun q => decide (q.1 = (Sum.inl x : Key))) = t.any fun p => decide (p.1 = x) := by
  unfold kv
  rw [List.any_map]
  congr 1
  funext p
  show decide ((Sum.inl p.1 : Key) = Sum.inl x) = decide (p.1 = x)
  by_cases e : p.1 = x
  · rw [decide_eq_true e, decide_eq_true (congrArg Sum.inl e)]
  · rw [decide_eq_false e, decide_eq_false (fun z => e (Sum.inl.inj z))]
theorem putK_kv (t : Tp) (x y : Int) : putK (kv t) (Sum.inl x : Key) (.int y) = kv (pt t x y) := by
  unfold putK pt
  rw [any_kv]
  by_cases h : (t.any fun p => decide (p.1 = x)) = true
  · rw [if_pos h, if_pos h]
    unfold kv
    rw [List.map_map, List.map_map]
    apply List.map_congr_left
    intro p _
    show (if (Sum.inl p.1 : Key) = Sum.inl x then ((Sum.inl p.1 : Key), V.int y) else (Sum.inl p.1, V.int p.2)) = (Sum.inl (if p.1 = x then (p.1, y) else p).1, V.int (if p.1 = x then (p.1, y) else p).2)
    by_cases e : p.1 = x
    · rw [if_pos (congrArg Sum.inl e), if_pos e]
    · rw [if_neg (fun z => e (Sum.inl.inj z)), if_neg e]
  · rw [if_neg h, if_neg h]
    unfold kv
    rw [List.map_append]
    rfl
theorem kv_len (t : Tp) : (kv t).length = t.length := List.length_map _
theorem pt_len (t : Tp) (x y : Int) : (pt t x y).length ≤ t.length + 1 := by
  unfold pt
  split
  · rw [List.length_map]
    omega
  · rw [List.length_append]
    exact Nat.le_refl _
theorem pt_mem {t : Tp} {x y : Int} {p : Int × Int} (h : p ∈ pt t x y) : p.2 = y ∨ p ∈ t := by
  unfold pt at h
  split at h
  · obtain ⟨q, hq, e⟩ := List.mem_map.mp h
    by_cases z : q.1 = x
    · rw [if_pos z] at e
      left
      rw [← e]
    · rw [if_neg z] at e
      right
      rw [← e]
      exact hq
  · rcases List.mem_append.mp h with h | h
    · exact .inr h
    · left
      rw [List.mem_singleton.mp h]
theorem lkO_mem {t : Tp} {x y : Int} (h : lkO t x = some y) : (x, y) ∈ t := by
  unfold lkO at h
  obtain ⟨p, hp, e⟩ := Option.map_eq_some_iff.mp h
  have h1 := List.mem_of_find?_eq_some hp
  have h2 := List.find?_some hp
  have h3 : p.1 = x := of_decide_eq_true h2
  obtain ⟨a, b⟩ := p
  simp only at e h3
  rw [← e, ← h3]
  exact h1
/-- the rule for a state and a symbol -/
def rul (M : Mach) (s y : Int) : Rule := (M.getD s.toNat []).getD y.toNat (0, 0, 0)
structure Wf (M : Mach) (k : Nat) : Prop where
  len : 1 ≤ M.length ∧ M.length ≤ 4
  sym : 2 ≤ k ∧ k ≤ 4
  rows : ∀ l ∈ M, l.length = k
  rule : ∀ l ∈ M, ∀ r ∈ l, 0 ≤ r.1 ∧ r.1 < k ∧ (r.2.1 = 1 ∨ r.2.1 = -1) ∧ -1 ≤ r.2.2 ∧ r.2.2 < M.length
structure Cf where
  t : Tp
  x : Int
  s : Int
  n : Int
def ini : Cf := ⟨[], 0, 0, 0⟩
def stp (M : Mach) (c : Cf) : Cf := ⟨pt c.t c.x (rul M c.s (lk c.t c.x)).1, c.x + (rul M c.s (lk c.t c.x)).2.1, (rul M c.s (lk c.t c.x)).2.2, c.n + 1⟩
/-- so many steps, fewer if it stops -/
def runc (M : Mach) : Nat → Cf → Cf
  | 0, c => c
  | n + 1, c => if c.s = -1 then c else runc M n (stp M c)
structure Ok (M : Mach) (k : Nat) (c : Cf) : Prop where
  wf : Wf M k
  st : -1 ≤ c.s ∧ c.s < M.length
  sy : ∀ p ∈ c.t, 0 ≤ p.2 ∧ p.2 < k
theorem Ok.sym {M : Mach} {k : Nat} {c : Cf} (o : Ok M k c) (x : Int) : 0 ≤ lk c.t x ∧ lk c.t x < k := by
  unfold lk
  cases e : lkO c.t x with
  | none =>
    have := o.wf.sym
    show (0 : Int) ≤ 0 ∧ (0 : Int) < k
    omega
  | some y => exact o.sy _ (lkO_mem e)
theorem rul_at {M : Mach} {k : Nat} (wf : Wf M k) {s y : Int} (h0 : 0 ≤ s) (h1 : s < M.length) (g0 : 0 ≤ y) (g1 : y < k) :
    ∃ l, M[s.toNat]? = some l ∧ l ∈ M ∧ l.length = k ∧ l[y.toNat]? = some (rul M s y) ∧ rul M s y ∈ l := by
  have hs : s.toNat < M.length := by omega
  have e1 : M[s.toNat]? = some M[s.toNat] := List.getElem?_eq_getElem hs
  have m1 : M[s.toNat] ∈ M := List.getElem_mem hs
  have l1 := wf.rows _ m1
  have hy : y.toNat < (M[s.toNat]).length := by omega
  have e2 : (M[s.toNat])[y.toNat]? = some (M[s.toNat])[y.toNat] := List.getElem?_eq_getElem hy
  have er : rul M s y = (M[s.toNat])[y.toNat] := by
    unfold rul
    rw [List.getD_eq_getElem?_getD, List.getD_eq_getElem?_getD, e1]
    show ((M[s.toNat])[y.toNat]?).getD (0, 0, 0) = _
    rw [e2]
    rfl
  refine ⟨_, e1, m1, l1, ?_, ?_⟩
  · rw [er]
    exact e2
  · rw [er]
    exact List.getElem_mem hy
theorem rul_ok {M : Mach} {k : Nat} (wf : Wf M k) {s y : Int} (h0 : 0 ≤ s) (h1 : s < M.length) (g0 : 0 ≤ y) (g1 : y < k) :
    0 ≤ (rul M s y).1 ∧ (rul M s y).1 < k ∧ ((rul M s y).2.1 = 1 ∨ (rul M s y).2.1 = -1) ∧ -1 ≤ (rul M s y).2.2 ∧ (rul M s y).2.2 < M.length := by
  obtain ⟨l, _, hl, _, _, hr⟩ := rul_at wf h0 h1 g0 g1
  exact wf.rule l hl _ hr
theorem Ok.stp {M : Mach} {k : Nat} {c : Cf} (o : Ok M k c) (h : 0 ≤ c.s) : Ok M k (stp M c) := by
  have hy := o.sym c.x
  have hr := rul_ok o.wf h o.st.2 hy.1 hy.2
  refine ⟨o.wf, ⟨hr.2.2.2.1, hr.2.2.2.2⟩, fun p hp => ?_⟩
  rcases pt_mem hp with e | e
  · rw [e]
    exact ⟨hr.1, hr.2.1⟩
  · exact o.sy p e
theorem Ok.ini {M : Mach} {k : Nat} (wf : Wf M k) : Ok M k ini := ⟨wf, ⟨by decide, by have := wf.len; show (0 : Int) < _; omega⟩, fun p hp => by cases hp⟩
theorem Ok.go {M : Mach} {k : Nat} {c : Cf} (o : Ok M k c) (h : ¬ c.s = -1) : 0 ≤ c.s := by
  have := o.st.1
  omega
theorem Ok.run {M : Mach} {k : Nat} : ∀ (n : Nat) {c : Cf}, Ok M k c → Ok M k (runc M n c)
  | 0, _, o => o
  | n + 1, c, o => by
    unfold runc
    by_cases h : c.s = -1
    · rw [if_pos h]
      exact o
    · rw [if_neg h]
      exact Ok.run n (o.stp (o.go h))
theorem stp_len (M : Mach) (c : Cf) : (stp M c).t.length ≤ c.t.length + 1 := pt_len _ _ _
theorem run_len (M : Mach) : ∀ (n : Nat) (c : Cf), (runc M n c).t.length ≤ c.t.length + n
  | 0, _ => Nat.le_refl _
  | n + 1, c => by
    unfold runc
    by_cases h : c.s = -1
    · rw [if_pos h]
      omega
    · rw [if_neg h]
      have h1 := run_len M n (stp M c)
      have h2 := stp_len M c
      omega
theorem runc_stop {M : Mach} {c : Cf} (h : c.s = -1) : ∀ n, runc M n c = c
  | 0 => rfl
  | n + 1 => by
    unfold runc
    rw [if_pos h]
/-- from the back -/
theorem runc_succ (M : Mach) : ∀ (n : Nat) (c : Cf), runc M (n + 1) c = if (runc M n c).s = -1 then runc M n c else stp M (runc M n c)
  | 0, c => by
    show (if c.s = -1 then c else stp M c) = _
    rfl
  | n + 1, c => by
    have e : runc M (n + 1 + 1) c = if c.s = -1 then c else runc M (n + 1) (stp M c) := rfl
    rw [e]
    by_cases h : c.s = -1
    · rw [if_pos h, runc_stop h, if_pos h]
    · rw [if_neg h, runc_succ M n (stp M c)]
      have e2 : runc M (n + 1) c = runc M n (stp M c) := by
        show (if c.s = -1 then c else runc M n (stp M c)) = _
        rw [if_neg h]
      rw [e2]
/-! ### what stands in the heap -/
section
variable {K : PySem.W.Frag} {H H' : Hp}
theorem prd_at {α β : Type} {R : α → β → Prop} : ∀ {l : List α} {m : List β} {i : Nat} {y : β}, Paired R l m → m[i]? = some y → ∃ x, l[i]? = some x ∧ R x y
  | _, _, _, _, .nil, e => by simp at e
  | _, _, 0, _, .cons r _, e => by
    have e := Option.some.inj e
    subst e
    exact ⟨_, rfl, r⟩
  | _, _, i + 1, y, .cons _ t, e => prd_at (i := i) t e
theorem prd_at' {α β : Type} {R : α → β → Prop} : ∀ {l : List α} {m : List β} {i : Nat} {x : α}, Paired R l m → l[i]? = some x → ∃ y, m[i]? = some y ∧ R x y
  | _, _, _, _, .nil, e => by simp at e
  | _, _, 0, _, .cons r _, e => by
    have e := Option.some.inj e
    subst e
    exact ⟨_, rfl, r⟩
  | _, _, i + 1, y, .cons _ t, e => prd_at' (i := i) t e
/-- what was stays, but for S -/
def Fr (S : List Addr) (H H' : Hp) : Prop := ∀ b o, H b = some o → b ∉ S → H' b = some o
theorem Fr.refl {S : List Addr} (H : Hp) : Fr S H H := fun _ _ h _ => h
theorem Fr.trans {S : List Addr} {H H1 H2 : Hp} (a : Fr S H H1) (b : Fr S H1 H2) : Fr S H H2 := fun c o h n => b c o (a c o h n) n
theorem Fr.mono {S S' : List Addr} {H H1 : Hp} (a : Fr S H H1) (h : ∀ x ∈ S, x ∈ S') : Fr S' H H1 := fun c o e n => a c o e fun z => n (h c z)
theorem Fr.same {H H' : Hp} (a : Fr [] H H') : Same H H' := fun c o h => a c o h (by simp)
theorem sm_fr {S : List Addr} {H H' : Hp} (a : Same H H') : Fr S H H' := fun c o h _ => a c o h
theorem Fr.new {S : List Addr} {H : Hp} {p : Addr} {o : HO} (h : H p = none) : Fr S H (upd H p o) := fun b u e _ => by
  rw [upd_ne (ne_of_none e h)]
  exact e
theorem Fr.set {S : List Addr} {H : Hp} {p : Addr} {o : HO} (h : p ∈ S) : Fr S H (upd H p o) := fun b u e n => by
  rw [upd_ne (fun z => n (by rw [z]; exact h))]
  exact e
/-- a fresh object may have changed -/
theorem Fr.drop {S : List Addr} {H H1 H2 : Hp} {p : Addr} (a : Fr S H H1) (b : Fr (p :: S) H1 H2) (h : H p = none) : Fr S H H2 := fun c o e n =>
  b c o (a c o e n) fun z => by
    rcases List.mem_cons.mp z with z | z
    · rw [z, h] at e
      cases e
    · exact n z
theorem sm_new {H : Hp} {p : Addr} {o : HO} (h : H p = none) : Same H (upd H p o) := (Fr.new (S := []) h).same
/-- nothing that is read for good -/
def Soft : Option HO → Prop
  | some (.tup _) => False
  | some (.frz _ _) => False
  | _ => True
/-- tuples and frozen things stay -/
structure Imm (H H' : Hp) : Prop where
  t : ∀ b xs, H b = some (.tup xs) → H' b = some (.tup xs)
  f : ∀ b o u, H b = some (.frz o u) → H' b = some (.frz o u)
theorem Imm.refl (H : Hp) : Imm H H := ⟨fun _ _ h => h, fun _ _ _ h => h⟩
theorem Imm.trans {H H1 H2 : Hp} (a : Imm H H1) (b : Imm H1 H2) : Imm H H2 := ⟨fun c x h => b.t c x (a.t c x h), fun c o u h => b.f c o u (a.f c o u h)⟩
theorem sm_imm {H H' : Hp} (a : Same H H') : Imm H H' := ⟨fun b xs h => a b _ h, fun b o u h => a b _ h⟩
theorem Fr.imm {S : List Addr} {H H' : Hp} (a : Fr S H H') (h : ∀ p ∈ S, Soft (H p)) : Imm H H' := ⟨fun b xs e => a b _ e fun z => by
  have := h b z
  rw [e] at this
  exact this, fun b o u e => a b _ e fun z => by
  have := h b z
  rw [e] at this
  exact this⟩
theorem Imm.sqt {a : Addr} {xs : List V} (i : Imm H H') (h : SqT K H a xs) : SqT K H' a xs := by
  rcases h with (h | ⟨o, h⟩) | h
  · exact .inl (.inl (i.t _ _ h))
  · exact .inl (.inr ⟨o, i.f _ _ _ h⟩)
  · exact .inr h
def RuleAt (K : PySem.W.Frag) (H : Hp) (v : V) (r : Rule) : Prop := ∃ a, v = .ref a ∧ SqT K H a [.int r.1, .int r.2.1, .int r.2.2]
def RowAt (K : PySem.W.Frag) (H : Hp) (v : V) (l : List Rule) : Prop := ∃ a vs, v = .ref a ∧ SqT K H a vs ∧ Paired (RuleAt K H) vs l
def MachAt (K : PySem.W.Frag) (H : Hp) (v : V) (M : Mach) : Prop := ∃ a vs, v = .ref a ∧ SqT K H a vs ∧ Paired (RowAt K H) vs M
theorem RuleAt.imm {v : V} {r : Rule} (i : Imm H H') (h : RuleAt K H v r) : RuleAt K H' v r := by
  obtain ⟨a, e, h⟩ := h
  exact ⟨a, e, i.sqt h⟩
theorem RowAt.imm {v : V} {l : List Rule} (i : Imm H H') (h : RowAt K H v l) : RowAt K H' v l := by
  obtain ⟨a, vs, e, h, p⟩ := h
  exact ⟨a, vs, e, i.sqt h, p.mono fun _ _ => RuleAt.imm i⟩
theorem MachAt.imm {v : V} {M : Mach} (i : Imm H H') (h : MachAt K H v M) : MachAt K H' v M := by
  obtain ⟨a, vs, e, h, p⟩ := h
  exact ⟨a, vs, e, i.sqt h, p.mono fun _ _ => RowAt.imm i⟩
theorem atI_int {xs : List V} {i : Int} {v : V} (h : 0 ≤ i) (e : xs[i.toNat]? = some v) : atI xs i = some v := at_of (Int.toNat_of_nonneg h).symm e
/-- machine[s][y]: the row, the rule -/
theorem MachAt.rule {v : V} {M : Mach} {k : Nat} (h : MachAt K H v M) (wf : Wf M k) {s y : Int} (h0 : 0 ≤ s) (h1 : s < M.length) (g0 : 0 ≤ y) (g1 : y < k) :
    ∃ a vs b us c, v = .ref a ∧ SqT K H a vs ∧ atI vs s = some (.ref b) ∧ SqT K H b us ∧ atI us y = some (.ref c) ∧ SqT K H c [.int (rul M s y).1, .int (rul M s y).2.1, .int (rul M s y).2.2] := by
  obtain ⟨a, vs, e, h, p⟩ := h
  obtain ⟨l, e1, _, _, e2, _⟩ := rul_at wf h0 h1 g0 g1
  obtain ⟨z, ez, b, us, eb, hb, q⟩ := prd_at p e1
  obtain ⟨z2, ez2, c, ec, hc⟩ := prd_at q e2
  subst eb ec
  exact ⟨a, vs, b, us, c, e, h, atI_int h0 ez, hb, atI_int g0 ez2, hc⟩
end
end K79

namespace K79
open PySem PySem.Spec PyProof.Rows L2
/-! ### the attributes of the three classes -/
theorem lku_hd {f : Str} {v : V} {r : List (Str × V)} : ((f, v) :: r).lookup f = some v := by
  show (match f == f with | true => some v | false => r.lookup f) = some v
  rw [beq_self_eq_true]
theorem lku_tl {f g : Str} {v : V} {r : List (Str × V)} (h : (f == g) = false) : ((g, v) :: r).lookup f = r.lookup f := by
  show (match f == g with | true => some v | false => r.lookup f) = r.lookup f
  rw [h]
theorem ptf_hd {f : Str} {v y : V} {r : List (Str × V)} : putF f y ((f, v) :: r) = (f, y) :: r := by
  show (if f = f then (f, y) :: r else (f, v) :: putF f y r) = _
  rw [if_pos rfl]
theorem ptf_tl {f g : Str} {v y : V} {r s : List (Str × V)} (h : (f == g) = false) (e : putF f y r = s) : putF f y ((g, v) :: r) = (g, v) :: s := by
  show (if g = f then (g, y) :: r else (g, v) :: putF f y r) = _
  have n : ¬ g = f := fun z => by
    rw [z, beq_self_eq_true] at h
    cases h
  rw [if_neg n, e]
theorem ne_cells_machine : (("cells" : Str) == "machine") = false := by decide +kernel
theorem ne_cells_place : (("cells" : Str) == "place") = false := by decide +kernel
theorem ne_cells_state : (("cells" : Str) == "state") = false := by decide +kernel
theorem ne_cells_steps : (("cells" : Str) == "steps") = false := by decide +kernel
theorem ne_cells_tape : (("cells" : Str) == "tape") = false := by decide +kernel
theorem ne_grow_places : (("grow" : Str) == "places") = false := by decide +kernel
theorem ne_grow_runner : (("grow" : Str) == "runner") = false := by decide +kernel
theorem ne_grow_states : (("grow" : Str) == "states") = false := by decide +kernel
theorem ne_grow_tapes : (("grow" : Str) == "tapes") = false := by decide +kernel
theorem ne_least_cells : (("least" : Str) == "cells") = false := by decide +kernel
theorem ne_least_place : (("least" : Str) == "place") = false := by decide +kernel
theorem ne_least_state : (("least" : Str) == "state") = false := by decide +kernel
theorem ne_most_cells : (("most" : Str) == "cells") = false := by decide +kernel
theorem ne_most_least : (("most" : Str) == "least") = false := by decide +kernel
theorem ne_most_place : (("most" : Str) == "place") = false := by decide +kernel
theorem ne_most_state : (("most" : Str) == "state") = false := by decide +kernel
theorem ne_place_machine : (("place" : Str) == "machine") = false := by decide +kernel
theorem ne_place_state : (("place" : Str) == "state") = false := by decide +kernel
theorem ne_place_tape : (("place" : Str) == "tape") = false := by decide +kernel
theorem ne_places_runner : (("places" : Str) == "runner") = false := by decide +kernel
theorem ne_places_states : (("places" : Str) == "states") = false := by decide +kernel
theorem ne_repeats_places : (("repeats" : Str) == "places") = false := by decide +kernel
theorem ne_repeats_runner : (("repeats" : Str) == "runner") = false := by decide +kernel
theorem ne_repeats_states : (("repeats" : Str) == "states") = false := by decide +kernel
theorem ne_repeats_tapes : (("repeats" : Str) == "tapes") = false := by decide +kernel
theorem ne_run_machine : (("run" : Str) == "machine") = false := by decide +kernel
theorem ne_run_place : (("run" : Str) == "place") = false := by decide +kernel
theorem ne_run_state : (("run" : Str) == "state") = false := by decide +kernel
theorem ne_run_steps : (("run" : Str) == "steps") = false := by decide +kernel
theorem ne_run_tape : (("run" : Str) == "tape") = false := by decide +kernel
theorem ne_state_machine : (("state" : Str) == "machine") = false := by decide +kernel
theorem ne_state_place : (("state" : Str) == "place") = false := by decide +kernel
theorem ne_state_tape : (("state" : Str) == "tape") = false := by decide +kernel
theorem ne_states_runner : (("states" : Str) == "runner") = false := by decide +kernel
theorem ne_step_machine : (("step" : Str) == "machine") = false := by decide +kernel
theorem ne_step_place : (("step" : Str) == "place") = false := by decide +kernel
theorem ne_step_state : (("step" : Str) == "state") = false := by decide +kernel
theorem ne_step_steps : (("step" : Str) == "steps") = false := by decide +kernel
theorem ne_step_tape : (("step" : Str) == "tape") = false := by decide +kernel
theorem ne_steps_machine : (("steps" : Str) == "machine") = false := by decide +kernel
theorem ne_steps_place : (("steps" : Str) == "place") = false := by decide +kernel
theorem ne_steps_state : (("steps" : Str) == "state") = false := by decide +kernel
theorem ne_steps_tape : (("steps" : Str) == "tape") = false := by decide +kernel
theorem ne_symbol_cells : (("symbol" : Str) == "cells") = false := by decide +kernel
theorem ne_symbol_least : (("symbol" : Str) == "least") = false := by decide +kernel
theorem ne_symbol_machine : (("symbol" : Str) == "machine") = false := by decide +kernel
theorem ne_symbol_most : (("symbol" : Str) == "most") = false := by decide +kernel
theorem ne_symbol_place : (("symbol" : Str) == "place") = false := by decide +kernel
theorem ne_symbol_state : (("symbol" : Str) == "state") = false := by decide +kernel
theorem ne_symbol_steps : (("symbol" : Str) == "steps") = false := by decide +kernel
theorem ne_symbol_tape : (("symbol" : Str) == "tape") = false := by decide +kernel
theorem ne_tail_machine : (("tail" : Str) == "machine") = false := by decide +kernel
theorem ne_tail_place : (("tail" : Str) == "place") = false := by decide +kernel
theorem ne_tail_state : (("tail" : Str) == "state") = false := by decide +kernel
theorem ne_tail_steps : (("tail" : Str) == "steps") = false := by decide +kernel
theorem ne_tail_tape : (("tail" : Str) == "tape") = false := by decide +kernel
theorem ne_take_cells : (("take" : Str) == "cells") = false := by decide +kernel
theorem ne_take_least : (("take" : Str) == "least") = false := by decide +kernel
theorem ne_take_most : (("take" : Str) == "most") = false := by decide +kernel
theorem ne_take_place : (("take" : Str) == "place") = false := by decide +kernel
theorem ne_take_state : (("take" : Str) == "state") = false := by decide +kernel
theorem ne_tape_machine : (("tape" : Str) == "machine") = false := by decide +kernel
theorem ne_tapes_places : (("tapes" : Str) == "places") = false := by decide +kernel
theorem ne_tapes_runner : (("tapes" : Str) == "runner") = false := by decide +kernel
theorem ne_tapes_states : (("tapes" : Str) == "states") = false := by decide +kernel
theorem ne_write_cells : (("write" : Str) == "cells") = false := by decide +kernel
theorem ne_write_least : (("write" : Str) == "least") = false := by decide +kernel
theorem ne_write_most : (("write" : Str) == "most") = false := by decide +kernel
theorem ne_write_place : (("write" : Str) == "place") = false := by decide +kernel
theorem ne_write_state : (("write" : Str) == "state") = false := by decide +kernel
def rfs (v0 v1 v2 v3 v4 : V) : List (Str × V) := [("machine", v0), ("tape", v1), ("place", v2), ("state", v3), ("steps", v4)]
theorem l_r_machine {v0 v1 v2 v3 v4 : V} : (rfs v0 v1 v2 v3 v4).lookup ("machine" : Str) = some v0 := lku_hd
theorem l_r_tape {v0 v1 v2 v3 v4 : V} : (rfs v0 v1 v2 v3 v4).lookup ("tape" : Str) = some v1 := (lku_tl ne_tape_machine).trans (lku_hd)
theorem l_r_place {v0 v1 v2 v3 v4 : V} : (rfs v0 v1 v2 v3 v4).lookup ("place" : Str) = some v2 := (lku_tl ne_place_machine).trans ((lku_tl ne_place_tape).trans (lku_hd))
theorem l_r_state {v0 v1 v2 v3 v4 : V} : (rfs v0 v1 v2 v3 v4).lookup ("state" : Str) = some v3 := (lku_tl ne_state_machine).trans ((lku_tl ne_state_tape).trans ((lku_tl ne_state_place).trans (lku_hd)))
theorem l_r_steps {v0 v1 v2 v3 v4 : V} : (rfs v0 v1 v2 v3 v4).lookup ("steps" : Str) = some v4 := (lku_tl ne_steps_machine).trans ((lku_tl ne_steps_tape).trans ((lku_tl ne_steps_place).trans ((lku_tl ne_steps_state).trans (lku_hd))))
theorem p_r_machine {y : V} {v0 v1 v2 v3 v4 : V} : putF "machine" y (rfs v0 v1 v2 v3 v4) = rfs y v1 v2 v3 v4 := ptf_hd
theorem p_r_tape {y : V} {v0 v1 v2 v3 v4 : V} : putF "tape" y (rfs v0 v1 v2 v3 v4) = rfs v0 y v2 v3 v4 := ptf_tl ne_tape_machine (ptf_hd)
theorem p_r_place {y : V} {v0 v1 v2 v3 v4 : V} : putF "place" y (rfs v0 v1 v2 v3 v4) = rfs v0 v1 y v3 v4 := ptf_tl ne_place_machine (ptf_tl ne_place_tape (ptf_hd))
theorem p_r_state {y : V} {v0 v1 v2 v3 v4 : V} : putF "state" y (rfs v0 v1 v2 v3 v4) = rfs v0 v1 v2 y v4 := ptf_tl ne_state_machine (ptf_tl ne_state_tape (ptf_tl ne_state_place (ptf_hd)))
theorem p_r_steps {y : V} {v0 v1 v2 v3 v4 : V} : putF "steps" y (rfs v0 v1 v2 v3 v4) = rfs v0 v1 v2 v3 y := ptf_tl ne_steps_machine (ptf_tl ne_steps_tape (ptf_tl ne_steps_place (ptf_tl ne_steps_state (ptf_hd))))
theorem m_r_symbol {v0 v1 v2 v3 v4 : V} : (rfs v0 v1 v2 v3 v4).lookup ("symbol" : Str) = none := (lku_tl ne_symbol_machine).trans ((lku_tl ne_symbol_tape).trans ((lku_tl ne_symbol_place).trans ((lku_tl ne_symbol_state).trans ((lku_tl ne_symbol_steps).trans (rfl)))))
theorem m_r_step {v0 v1 v2 v3 v4 : V} : (rfs v0 v1 v2 v3 v4).lookup ("step" : Str) = none := (lku_tl ne_step_machine).trans ((lku_tl ne_step_tape).trans ((lku_tl ne_step_place).trans ((lku_tl ne_step_state).trans ((lku_tl ne_step_steps).trans (rfl)))))
theorem m_r_run {v0 v1 v2 v3 v4 : V} : (rfs v0 v1 v2 v3 v4).lookup ("run" : Str) = none := (lku_tl ne_run_machine).trans ((lku_tl ne_run_tape).trans ((lku_tl ne_run_place).trans ((lku_tl ne_run_state).trans ((lku_tl ne_run_steps).trans (rfl)))))
theorem m_r_cells {v0 v1 v2 v3 v4 : V} : (rfs v0 v1 v2 v3 v4).lookup ("cells" : Str) = none := (lku_tl ne_cells_machine).trans ((lku_tl ne_cells_tape).trans ((lku_tl ne_cells_place).trans ((lku_tl ne_cells_state).trans ((lku_tl ne_cells_steps).trans (rfl)))))
theorem m_r_tail {v0 v1 v2 v3 v4 : V} : (rfs v0 v1 v2 v3 v4).lookup ("tail" : Str) = none := (lku_tl ne_tail_machine).trans ((lku_tl ne_tail_tape).trans ((lku_tl ne_tail_place).trans ((lku_tl ne_tail_state).trans ((lku_tl ne_tail_steps).trans (rfl)))))
theorem i_r_machine {v0 : V} : putF "machine" v0 ([] : List (Str × V)) = ([("machine", v0)] : List (Str × V)) := rfl
theorem i_r_tape {v0 v1 : V} : putF "tape" v1 ([("machine", v0)] : List (Str × V)) = ([("machine", v0), ("tape", v1)] : List (Str × V)) := ptf_tl ne_tape_machine (rfl)
theorem i_r_place {v0 v1 v2 : V} : putF "place" v2 ([("machine", v0), ("tape", v1)] : List (Str × V)) = ([("machine", v0), ("tape", v1), ("place", v2)] : List (Str × V)) := ptf_tl ne_place_machine (ptf_tl ne_place_tape (rfl))
theorem i_r_state {v0 v1 v2 v3 : V} : putF "state" v3 ([("machine", v0), ("tape", v1), ("place", v2)] : List (Str × V)) = ([("machine", v0), ("tape", v1), ("place", v2), ("state", v3)] : List (Str × V)) := ptf_tl ne_state_machine (ptf_tl ne_state_tape (ptf_tl ne_state_place (rfl)))
theorem i_r_steps {v0 v1 v2 v3 v4 : V} : putF "steps" v4 ([("machine", v0), ("tape", v1), ("place", v2), ("state", v3)] : List (Str × V)) = ([("machine", v0), ("tape", v1), ("place", v2), ("state", v3), ("steps", v4)] : List (Str × V)) := ptf_tl ne_steps_machine (ptf_tl ne_steps_tape (ptf_tl ne_steps_place (ptf_tl ne_steps_state (rfl))))
def hfs (v0 v1 v2 v3 : V) : List (Str × V) := [("runner", v0), ("states", v1), ("places", v2), ("tapes", v3)]
theorem l_h_runner {v0 v1 v2 v3 : V} : (hfs v0 v1 v2 v3).lookup ("runner" : Str) = some v0 := lku_hd
theorem l_h_states {v0 v1 v2 v3 : V} : (hfs v0 v1 v2 v3).lookup ("states" : Str) = some v1 := (lku_tl ne_states_runner).trans (lku_hd)
theorem l_h_places {v0 v1 v2 v3 : V} : (hfs v0 v1 v2 v3).lookup ("places" : Str) = some v2 := (lku_tl ne_places_runner).trans ((lku_tl ne_places_states).trans (lku_hd))
theorem l_h_tapes {v0 v1 v2 v3 : V} : (hfs v0 v1 v2 v3).lookup ("tapes" : Str) = some v3 := (lku_tl ne_tapes_runner).trans ((lku_tl ne_tapes_states).trans ((lku_tl ne_tapes_places).trans (lku_hd)))
theorem p_h_runner {y : V} {v0 v1 v2 v3 : V} : putF "runner" y (hfs v0 v1 v2 v3) = hfs y v1 v2 v3 := ptf_hd
theorem p_h_states {y : V} {v0 v1 v2 v3 : V} : putF "states" y (hfs v0 v1 v2 v3) = hfs v0 y v2 v3 := ptf_tl ne_states_runner (ptf_hd)
theorem p_h_places {y : V} {v0 v1 v2 v3 : V} : putF "places" y (hfs v0 v1 v2 v3) = hfs v0 v1 y v3 := ptf_tl ne_places_runner (ptf_tl ne_places_states (ptf_hd))
theorem p_h_tapes {y : V} {v0 v1 v2 v3 : V} : putF "tapes" y (hfs v0 v1 v2 v3) = hfs v0 v1 v2 y := ptf_tl ne_tapes_runner (ptf_tl ne_tapes_states (ptf_tl ne_tapes_places (ptf_hd)))
theorem m_h_grow {v0 v1 v2 v3 : V} : (hfs v0 v1 v2 v3).lookup ("grow" : Str) = none := (lku_tl ne_grow_runner).trans ((lku_tl ne_grow_states).trans ((lku_tl ne_grow_places).trans ((lku_tl ne_grow_tapes).trans (rfl))))
theorem m_h_repeats {v0 v1 v2 v3 : V} : (hfs v0 v1 v2 v3).lookup ("repeats" : Str) = none := (lku_tl ne_repeats_runner).trans ((lku_tl ne_repeats_states).trans ((lku_tl ne_repeats_places).trans ((lku_tl ne_repeats_tapes).trans (rfl))))
theorem i_h_runner {v0 : V} : putF "runner" v0 ([] : List (Str × V)) = ([("runner", v0)] : List (Str × V)) := rfl
theorem i_h_states {v0 v1 : V} : putF "states" v1 ([("runner", v0)] : List (Str × V)) = ([("runner", v0), ("states", v1)] : List (Str × V)) := ptf_tl ne_states_runner (rfl)
theorem i_h_places {v0 v1 v2 : V} : putF "places" v2 ([("runner", v0), ("states", v1)] : List (Str × V)) = ([("runner", v0), ("states", v1), ("places", v2)] : List (Str × V)) := ptf_tl ne_places_runner (ptf_tl ne_places_states (rfl))
theorem i_h_tapes {v0 v1 v2 v3 : V} : putF "tapes" v3 ([("runner", v0), ("states", v1), ("places", v2)] : List (Str × V)) = ([("runner", v0), ("states", v1), ("places", v2), ("tapes", v3)] : List (Str × V)) := ptf_tl ne_tapes_runner (ptf_tl ne_tapes_states (ptf_tl ne_tapes_places (rfl)))
def tfs (v0 v1 v2 v3 v4 : V) : List (Str × V) := [("state", v0), ("place", v1), ("cells", v2), ("least", v3), ("most", v4)]
theorem l_t_state {v0 v1 v2 v3 v4 : V} : (tfs v0 v1 v2 v3 v4).lookup ("state" : Str) = some v0 := lku_hd
theorem l_t_place {v0 v1 v2 v3 v4 : V} : (tfs v0 v1 v2 v3 v4).lookup ("place" : Str) = some v1 := (lku_tl ne_place_state).trans (lku_hd)
theorem l_t_cells {v0 v1 v2 v3 v4 : V} : (tfs v0 v1 v2 v3 v4).lookup ("cells" : Str) = some v2 := (lku_tl ne_cells_state).trans ((lku_tl ne_cells_place).trans (lku_hd))
theorem l_t_least {v0 v1 v2 v3 v4 : V} : (tfs v0 v1 v2 v3 v4).lookup ("least" : Str) = some v3 := (lku_tl ne_least_state).trans ((lku_tl ne_least_place).trans ((lku_tl ne_least_cells).trans (lku_hd)))
theorem l_t_most {v0 v1 v2 v3 v4 : V} : (tfs v0 v1 v2 v3 v4).lookup ("most" : Str) = some v4 := (lku_tl ne_most_state).trans ((lku_tl ne_most_place).trans ((lku_tl ne_most_cells).trans ((lku_tl ne_most_least).trans (lku_hd))))
theorem p_t_state {y : V} {v0 v1 v2 v3 v4 : V} : putF "state" y (tfs v0 v1 v2 v3 v4) = tfs y v1 v2 v3 v4 := ptf_hd
theorem p_t_place {y : V} {v0 v1 v2 v3 v4 : V} : putF "place" y (tfs v0 v1 v2 v3 v4) = tfs v0 y v2 v3 v4 := ptf_tl ne_place_state (ptf_hd)
theorem p_t_cells {y : V} {v0 v1 v2 v3 v4 : V} : putF "cells" y (tfs v0 v1 v2 v3 v4) = tfs v0 v1 y v3 v4 := ptf_tl ne_cells_state (ptf_tl ne_cells_place (ptf_hd))
theorem p_t_least {y : V} {v0 v1 v2 v3 v4 : V} : putF "least" y (tfs v0 v1 v2 v3 v4) = tfs v0 v1 v2 y v4 := ptf_tl ne_least_state (ptf_tl ne_least_place (ptf_tl ne_least_cells (ptf_hd)))
theorem p_t_most {y : V} {v0 v1 v2 v3 v4 : V} : putF "most" y (tfs v0 v1 v2 v3 v4) = tfs v0 v1 v2 v3 y := ptf_tl ne_most_state (ptf_tl ne_most_place (ptf_tl ne_most_cells (ptf_tl ne_most_least (ptf_hd))))
theorem m_t_symbol {v0 v1 v2 v3 v4 : V} : (tfs v0 v1 v2 v3 v4).lookup ("symbol" : Str) = none := (lku_tl ne_symbol_state).trans ((lku_tl ne_symbol_place).trans ((lku_tl ne_symbol_cells).trans ((lku_tl ne_symbol_least).trans ((lku_tl ne_symbol_most).trans (rfl)))))
theorem m_t_write {v0 v1 v2 v3 v4 : V} : (tfs v0 v1 v2 v3 v4).lookup ("write" : Str) = none := (lku_tl ne_write_state).trans ((lku_tl ne_write_place).trans ((lku_tl ne_write_cells).trans ((lku_tl ne_write_least).trans ((lku_tl ne_write_most).trans (rfl)))))
theorem m_t_take {v0 v1 v2 v3 v4 : V} : (tfs v0 v1 v2 v3 v4).lookup ("take" : Str) = none := (lku_tl ne_take_state).trans ((lku_tl ne_take_place).trans ((lku_tl ne_take_cells).trans ((lku_tl ne_take_least).trans ((lku_tl ne_take_most).trans (rfl)))))
theorem i_t_state {v0 : V} : putF "state" v0 ([] : List (Str × V)) = ([("state", v0)] : List (Str × V)) := rfl
theorem i_t_place {v0 v1 : V} : putF "place" v1 ([("state", v0)] : List (Str × V)) = ([("state", v0), ("place", v1)] : List (Str × V)) := ptf_tl ne_place_state (rfl)
theorem i_t_cells {v0 v1 v2 : V} : putF "cells" v2 ([("state", v0), ("place", v1)] : List (Str × V)) = ([("state", v0), ("place", v1), ("cells", v2)] : List (Str × V)) := ptf_tl ne_cells_state (ptf_tl ne_cells_place (rfl))
theorem i_t_least {v0 v1 v2 v3 : V} : putF "least" v3 ([("state", v0), ("place", v1), ("cells", v2)] : List (Str × V)) = ([("state", v0), ("place", v1), ("cells", v2), ("least", v3)] : List (Str × V)) := ptf_tl ne_least_state (ptf_tl ne_least_place (ptf_tl ne_least_cells (rfl)))
theorem i_t_most {v0 v1 v2 v3 v4 : V} : putF "most" v4 ([("state", v0), ("place", v1), ("cells", v2), ("least", v3)] : List (Str × V)) = ([("state", v0), ("place", v1), ("cells", v2), ("least", v3), ("most", v4)] : List (Str × V)) := ptf_tl ne_most_state (ptf_tl ne_most_place (ptf_tl ne_most_cells (ptf_tl ne_most_least (rfl))))
end K79

namespace K79
open PySem PySem.Spec PyProof.Rows L2
/-! ### the runner -/
/-- a Runner of the machine M (the value m) at p, its tape's dict at d, in the configuration c -/
structure RnAt (K : PySem.W.Frag) (H : Hp) (p dx d : Addr) (m : V) (M : Mach) (c : Cf) : Prop where
  o : H p = some (.ins (He.ga K "Runner") dx (rfs m (.ref d) (.int c.x) (.int c.s) (.int c.n)))
  d : H d = some (.dK (kv c.t))
  m : MachAt K H m M
section
variable {K : PySem.W.Frag} {H H' : Hp} {p dx d : Addr} {m : V} {M : Mach} {c : Cf}
theorem RnAt.ne (r : RnAt K H p dx d m M c) : p ≠ d := ne_of r.o r.d (fun z => by cases z)
theorem RnAt.soft (r : RnAt K H p dx d m M c) : ∀ q ∈ [p, d], Soft (H q) := fun q h => by
  rcases List.mem_cons.mp h with h | h
  · rw [h, r.o]
    trivial
  · rw [List.mem_singleton.mp h, r.d]
    trivial
theorem RnAt.fr {S : List Addr} (r : RnAt K H p dx d m M c) (f : Fr S H H') (hs : ∀ q ∈ S, Soft (H q)) (hp : p ∉ S) (hd : d ∉ S) : RnAt K H' p dx d m M c := ⟨f _ _ r.o hp, f _ _ r.d hd, r.m.imm (f.imm hs)⟩
theorem RnAt.same (r : RnAt K H p dx d m M c) (f : Same H H') : RnAt K H' p dx d m M c := ⟨f _ _ r.o, f _ _ r.d, r.m.imm (sm_imm f)⟩
end
def spSym (K : PySem.W.Frag) : Sp := fun vs H Q _ => ∃ p dx d m M c, vs = [.ref p] ∧ RnAt K H p dx d m M c ∧ Q (.int (lk c.t c.x)) H
def spStep (K : PySem.W.Frag) : Sp := fun vs H Q _ => ∃ p dx d m M k c, vs = [.ref p] ∧ RnAt K H p dx d m M c ∧ Ok M k c ∧ 0 ≤ c.s ∧ c.t.length ≤ 100000 ∧ ∀ H', RnAt K H' p dx d m M (stp M c) → Fr [p, d] H H' → Q .non H'
def spRun (K : PySem.W.Frag) : Sp := fun vs H Q _ => ∃ p dx d m M k c n, vs = [.ref p, .int n] ∧ RnAt K H p dx d m M c ∧ Ok M k c ∧ 0 ≤ n ∧ n ≤ 10000 ∧ c.t.length ≤ 10000 ∧
  ∀ H', RnAt K H' p dx d m M (runc M n.toNat c) → Fr [p, d] H H' → Q (.bl (decide ((runc M n.toNat c).s = -1))) H'
def spRInit (K : PySem.W.Frag) : Sp := fun vs H Q _ => ∃ p dx m M, vs = [.ref p, m] ∧ H p = some (.ins (He.ga K "Runner") dx []) ∧ MachAt K H m M ∧ ∀ d H', H d = none → RnAt K H' p dx d m M ini → Fr [p] H H' → Q .non H'
section
variable {P : Program} {w : World} {K : PySem.W.Frag} {mg : Str → Option Value} {base : Heap}
theorem sc_r_symbol : FnScope ["self"] ["self"] (defScope s_Runner_symbol) := ⟨rfl, rfl, rfl, by decide +kernel, rfl, by decide +kernel, by decide +kernel⟩
theorem ok_r_symbol (T : Txt w K mg) : Has P w K mg base CX0 1 ("Runner", some "symbol") ["self"] (spSym K) := by
  obtain ⟨fd, F⟩ := T.fd 9 (d := d_Runner_symbol) rfl rfl rfl
  refine ⟨⟨fd, F.ok sc_r_symbol (fun vs H Q E h => ?_) (fun cdv A outer s H vs Q E hr h => ?_), F.bindsN fun _ _ _ _ _ _ us hl => match us, hl with | [_], _ => rfl⟩, F.kp⟩
  · obtain ⟨p, dx, d, m, M, c, rfl, _⟩ := h
    rfl
  · obtain ⟨p, dx, d, m, M, c, rfl, r, q⟩ := h
    have hu := hu_of hr
    refine ⟨_, PSs.nox (pss_one (ps_ret (pe_dget2 hu (pe_fld (pv 0) rfl) (pe_fld (pv 0) rfl) pe_int ⟨rfl, rfl, rfl, rfl⟩))), ?_⟩
    refine ⟨_, rfl, p, _, dx, _, _, rfl, r.o, T.c_Runner, T.n_Runner_tape, l_r_tape, d, rfl, .inl ⟨_, .inl r.d⟩, _, rfl, p, _, dx, _, _, rfl, r.o, T.c_Runner, T.n_Runner_place, l_r_place, _, DGet.k (k := Sum.inl c.x) r.d, ?_⟩
    rw [getD_kv]
    exact q
theorem sc_r_step : FnScope ["self", "write", "move", "state"] ["self"] (defScope s_Runner_step) := ⟨rfl, rfl, rfl, by decide +kernel, rfl, by decide +kernel, by decide +kernel⟩
theorem ok_r_step (T : Txt w K mg) : Has P w K mg base CX0 2 ("Runner", some "step") ["self"] (spStep K) := by
  obtain ⟨fd, F⟩ := T.fd 10 (d := d_Runner_step) rfl rfl rfl
  obtain ⟨⟨fd1, G1, b1⟩, kp1⟩ := ok_r_symbol (P := P) (base := base) T
  refine ⟨⟨fd, F.ok sc_r_step (fun vs H Q E h => ?_) (fun cdv A outer s H vs Q E hr h => ?_), F.bindsN fun _ _ _ _ _ _ us hl => match us, hl with | [_], _ => rfl⟩, F.kp⟩
  · obtain ⟨p, dx, d, m, M, k, c, rfl, _⟩ := h
    rfl
  · obtain ⟨p, dx, d, m, M, k, c, rfl, r, o, h0, hl, q⟩ := h
    have hu := hu_of hr
    refine ⟨_, PSs.nox (pss_cons (ps_asg (pe_ix ix_tup (pe_ix ix_tup (pe_fld (pv 0) rfl) (pe_fld (pv 0) rfl) (fun _ _ => rfl)) (pe_meth0 (pv 0) T.c_Runner T.m_Runner_symbol G1 hr b1 .nil pass0) (fun _ _ => rfl))
        (pg_tup rfl (pgs_cons (pg_name (i := 1) sc_r_step.nd rfl (.inl rfl)) (pgs_cons (pg_name (i := 2) sc_r_step.nd rfl (.inl rfl)) (pgs_cons (pg_name (i := 3) sc_r_step.nd rfl (.inl rfl)) pgs_nil)))))
      (pss_cons (ps_dput hu (pe_fld (pv 0) rfl) (pe_fld (pv 0) rfl) (pv 1) rfl)
      (pss_cons (ps_fldaug (pv 0) (pv 2) in_add)
      (pss_cons (ps_fld (pv 0) (pv 3) rfl)
      (pss_one (ps_fldaug (pv 0) pe_int in_add)))))), ?_⟩
    have hy := o.sym c.x
    obtain ⟨a, ws, b, us, cc, em, ha, e1, hb, e2, hc⟩ := r.m.rule o.wf h0 o.st.2 hy.1 hy.2
    subst em
    have npd := r.ne
    -- write, move, state = self.machine[self.state][self.symbol()]
    refine ⟨_, rfl, p, _, dx, _, _, rfl, r.o, T.c_Runner, T.n_Runner_machine, l_r_machine, _, rfl, p, _, dx, _, _, rfl, r.o, T.c_Runner, T.n_Runner_state, l_r_state, a, ws, c.s, _, rfl, rfl, ha, e1, ?_⟩
    refine ⟨_, rfl, p, dx, _, rfl, r.o, m_r_symbol, p, dx, d, _, M, c, rfl, r, b, us, _, _, rfl, rfl, hb, e2, ?_⟩
    refine ⟨cc, _, rfl, hc, rfl, _, _, rfl, _, _, rfl, _, _, rfl, rfl, ?_⟩
    -- self.tape[self.place] = write
    refine ⟨_, rfl, _, rfl, p, _, dx, _, _, rfl, r.o, T.c_Runner, T.n_Runner_tape, l_r_tape, _, rfl, p, _, dx, _, _, rfl, r.o, T.c_Runner, T.n_Runner_place, l_r_place, d, _, rfl, DPut.k (k := Sum.inl c.x) r.d (by rw [kv_len]; exact Nat.lt_of_le_of_lt hl (by decide)), ?_⟩
    rw [putK_kv]
    have o1 : (upd H d (.dK (kv (pt c.t c.x (rul M c.s (lk c.t c.x)).1)))) p = _ := (upd_ne npd).trans r.o
    -- self.place += move; self.state = state; self.steps += 1
    refine ⟨_, rfl, p, _, dx, _, _, rfl, o1, T.c_Runner, T.n_Runner_place, l_r_place, _, rfl, _, _, rfl, rfl, dx, _, o1, by show 5 < 1000; decide, ?_⟩
    rw [p_r_place]
    refine ⟨_, rfl, _, rfl, p, _, dx, _, rfl, upd_same, T.c_Runner, T.n_Runner_state, by show 5 < 1000; decide, ?_⟩
    rw [p_r_state, upd_upd]
    refine ⟨_, rfl, p, _, dx, _, _, rfl, upd_same, T.c_Runner, T.n_Runner_steps, l_r_steps, _, _, rfl, rfl, dx, _, upd_same, by show 5 < 1000; decide, ?_⟩
    rw [p_r_steps, upd_upd]
    have f : Fr [p, d] H (upd (upd H d (.dK (kv (pt c.t c.x (rul M c.s (lk c.t c.x)).1)))) p (.ins (He.ga K "Runner") dx (rfs (.ref a) (.ref d) (.int (c.x + (rul M c.s (lk c.t c.x)).2.1)) (.int (rul M c.s (lk c.t c.x)).2.2) (.int (c.n + 1))))) :=
      (Fr.set (by simp)).trans (Fr.set (by simp))
    exact q _ ⟨upd_same, (upd_ne npd.symm).trans upd_same, r.m.imm (f.imm r.soft)⟩ f
end
end K79

namespace K79
open PySem PySem.Spec PyProof.Rows L2
/-! ### rules of my own: tuple * 1 -/
theorem tuple_mul1 (l : Addr) (items : Array Value) (n : Nat) (dd : Option Addr) (sl : Array (Option Value)) (u : Tok) :
    Meets (Builtin.«tuple.__mul__» ⟨[.ref l, .int 1 u], []⟩) (fun _ R s => s.heap.get? l = some { cls := .type "tuple", dict := dd, data := .seq items n, slots := sl } ∧ R (.ok (.ret (Value.ref l))) s) :=
  .of_wp fun prog w A R s h => by
    obtain ⟨hp, g, d, tk, os⟩ := s
    obtain ⟨hl, h⟩ := h
    have f1 := AutoSeq1.idx_int
    wp_walk using wpAny_loadPart' hl
    exact ⟨_, rfl, h⟩
/-- t * k, k from 1 on -/
def rRepA (K : PySem.W.Frag) : R2 := fun x y H Q => ∃ l k xs, x = .ref l ∧ y = .int k ∧ SqT K H l xs ∧ xs ≠ [] ∧ 1 ≤ k ∧ k ≤ 1000 ∧ xs.length ≤ 1000 ∧ (k = 1 → Q (.ref l) H) ∧ (2 ≤ k → ∀ p, H p = none → Q (.ref p) (upd H p (.tup (List.replicate k.toNat xs).flatten)))
section
variable {X : Cx}
theorem op_repA : OpR X (binaryOp .Mult) (rRepA X.K) := by
  intro pins s σ H x y v u Q I rx ry h
  obtain ⟨l, k, xs, rfl, rfl, hT, hne, h1, h2, hz, q1, q2⟩ := h
  by_cases hk : k = 1
  · subst hk
    cases rx
    obtain ⟨t, rfl⟩ := ry
    obtain ⟨its, r, ⟨⟨cls, dd, data, sl⟩, ho, hc, n, hd⟩, hs⟩ := I.tuple hT
    simp only at hc hd
    subst hc hd
    exact wpAny_binaryOp_repeat_ref (T := "tuple") (U := "int") (by decide) ⟨_, ho, rfl⟩ (fun s' => typeIs_int s' 1 t) noFill_tuple_mul F.fills_int_mul F.slot_int_rmul repeat_tuple F.slot_int_index.lookup
      (call_meets F.slot_int_rmul (typeIs_int s 1 t) F.entry_int_rmul (F.args_int_rmul_2 _ _) (int_rmul_tuple 1 t l its.toArray n dd sl)
        ⟨ho, rfl, ⟨_, ho, rfl⟩, call_meets F.slot_tuple_mul ⟨_, ho, rfl⟩ F.entry_tuple_mul (F.args_tuple_mul_2 _ _) (tuple_mul1 l its.toArray n dd sl t) ⟨ho, ⟨.ref l, H, I, rfl, q1 rfl⟩⟩⟩)
  · exact op_repT pins s σ H _ _ v u Q I rx ry ⟨l, k, xs, rfl, rfl, hT, hne, by omega, h2, hz, q2 (by omega)⟩
end
theorem dec_int {a b : Int} : decide (V.int a = V.int b) = decide (a = b) := by
  by_cases h : a = b
  · subst h
    rw [decide_eq_true rfl, decide_eq_true rfl]
  · rw [decide_eq_false h, decide_eq_false (fun z => h (V.int.inj z))]
theorem dec_str {a b : Str} : decide (V.str a = V.str b) = decide (a = b) := by
  by_cases h : a = b
  · subst h
    rw [decide_eq_true rfl, decide_eq_true rfl]
  · rw [decide_eq_false h, decide_eq_false (fun z => h (V.str.inj z))]
theorem yes_ {te : TE} {σ : L2.St} {H : Hp} {C : V → Hp → Prop} {N : Hp → Prop} (h : te σ H C) : tYes σ H (fun b H3 => if b = true then te σ H3 C else N H3) := h
/-- a comprehension whose element and test leave the heap's objects: A tells the new list -/
theorem lc_pure {J : It} {n : Nat} {G : Hp → Prop} {Y : Nat → Hp → V → Hp → Prop} (w : Walk J n G Y) {g : TG} {tt : TT} {te : TE} {vs : List Nat} {σ : L2.St} {H1 : Hp} {D : Addr} {Qd : Hp → Prop} (A : Nat → List V → Hp → Prop)
    (hD : H1 D = none) (hG : ∀ H', Same H1 H' → G H') (hm : ∀ i acc H4 H5 l, H4 D = some (.lst l) → Fr [D] H4 H5 → A i acc H4 → A i acc H5) (h0 : A 0 [] (upd H1 D (.lst []))) (hn : n ≤ 100000) (hl : ∀ i acc H', A i acc H' → acc.length ≤ i)
    (hs : ∀ i x H' H'' acc, i < n → Same H1 H' → H' D = some (.lst acc) → A i acc H' → Y i H' x H'' → ∀ (C : V → Hp → Prop) (N : Hp → Prop), (∀ y H4, Same H' H4 → A (i + 1) (acc ++ [y]) H4 → C y H4) → (∀ H3, Same H' H3 → A (i + 1) acc H3 → N H3) →
      g x (wipe σ vs) H'' fun σ2 H2 => wipe σ2 vs = wipe σ vs ∧ tt σ2 H2 fun b H3 => if b = true then te σ2 H3 C else N H3)
    (hd : ∀ H' acc, Same H1 H' → H' D = some (.lst acc) → A n acc H' → Qd H') :
    ∃ W : Nat → Nat → Hp → Prop, (∃ m, W 0 m (upd H1 D (.lst []))) ∧ ∀ i m H, W i m H →
      (J.stop i H ∧ Qd H) ∨ (J.go i H ∧ ∃ Nx : Hp → Prop, (∀ H', Nx H' → ∃ m', m' < m ∧ W (i + 1) m' H') ∧ ∀ x H', J.yld i H x H' → g x (wipe σ vs) H' fun σ2 H2 => wipe σ2 vs = wipe σ vs ∧ tt σ2 H2 fun b H3 =>
        if b = true then te σ2 H3 fun y H4 => ∃ acc, H4 D = some (.lst acc) ∧ acc.length < sizeLine ∧ Nx (upd H4 D (.lst (acc ++ [y]))) else Nx H3) := by
  refine lc_it w (fun i H' => ∃ acc, H' D = some (.lst acc) ∧ Same H1 H' ∧ A i acc H') ⟨[], upd_same, sm_new hD, h0⟩ (fun i H _ ⟨_, _, s, _⟩ => hG H s) (fun i x H H' hi ⟨acc, e, s, a⟩ y => ?_) (fun H ⟨acc, e, s, a⟩ => hd H acc s e a)
  refine hs i x H H' acc hi s e a y _ _ (fun v H4 s4 a4 => ?_) (fun H3 s3 a3 => ⟨acc, s3 _ _ e, s.trans s3, a3⟩)
  refine ⟨acc, s4 _ _ e, Nat.lt_of_le_of_lt (Nat.le_trans (hl i acc H a) (Nat.le_trans (Nat.le_of_lt hi) hn)) (by decide), acc ++ [v], upd_same, fun b o z => ?_, hm _ _ _ _ _ (s4 _ _ e) (Fr.set (List.mem_singleton.mpr rfl)) a4⟩
  rw [upd_ne (ne_of_none z hD)]
  exact s4 _ _ (s _ _ z)
end K79

namespace K79
open PySem PySem.Spec PyProof.Rows L2
theorem runc_done {M : Mach} {c : Cf} : ∀ {i n : Nat}, i ≤ n → (runc M i c).s = -1 → runc M n c = runc M i c
  | i, 0, hi, h => by
    have : i = 0 := by omega
    rw [this]
  | i, n + 1, hi, h => by
    by_cases e : i = n + 1
    · rw [e]
    · have ih := runc_done (n := n) (by omega) h
      rw [runc_succ, ih, if_pos h]
/-- what tail gives -/
def tailM (f : Int) (cs : List Int) (s : Int) : List Int := if f ≤ s then cs.drop (s - f).toNat else if cs = [] then [] else List.replicate (f - s).toNat 0 ++ cs
theorem tailM_len {f s : Int} {cs : List Int} {n : Nat} (h1 : cs.length ≤ n) (h2 : f - s ≤ n) : (tailM f cs s).length ≤ n + n := by
  unfold tailM
  split
  · rw [List.length_drop]
    omega
  · split
    · exact Nat.zero_le _
    · rw [List.length_append, List.length_replicate]
      omega
/-- a tuple of a place and of symbols -/
def CellsAt (K : PySem.W.Frag) (H : Hp) (v : V) (f : Int) (cs : List Int) : Prop := ∃ a b, v = .ref a ∧ SqT K H a [.int f, .ref b] ∧ SqT K H b (cs.map V.int)
def IntsAt (K : PySem.W.Frag) (H : Hp) (v : V) (cs : List Int) : Prop := ∃ b, v = .ref b ∧ SqT K H b (cs.map V.int)
theorem CellsAt.imm {K : PySem.W.Frag} {H H' : Hp} {v : V} {f : Int} {cs : List Int} (i : Imm H H') (h : CellsAt K H v f cs) : CellsAt K H' v f cs := by
  obtain ⟨a, b, e, h1, h2⟩ := h
  exact ⟨a, b, e, i.sqt h1, i.sqt h2⟩
theorem IntsAt.imm {K : PySem.W.Frag} {H H' : Hp} {v : V} {cs : List Int} (i : Imm H H') (h : IntsAt K H v cs) : IntsAt K H' v cs := by
  obtain ⟨b, e, h2⟩ := h
  exact ⟨b, e, i.sqt h2⟩
theorem cut_drop (xs : List V) {i : Int} (h : 0 ≤ i) : cutV xs (some i) none = xs.drop i.toNat := by
  unfold cutV
  have e : HT.sIx xs.length 0 (some i) = min i.toNat xs.length := by
    have := HT.sIx_nat xs.length 0 i.toNat
    rw [Int.toNat_of_nonneg h] at this
    exact this
  rw [e, HT.sIx_none]
  by_cases z : i.toNat ≤ xs.length
  · rw [Nat.min_eq_left z]
    exact List.take_of_length_le (by rw [List.length_drop]; exact Nat.le_refl _)
  · rw [Nat.min_eq_right (by omega), List.drop_eq_nil_of_le (Nat.le_refl _), List.drop_eq_nil_of_le (by omega)]
    exact List.take_nil
theorem rep_flat (n : Nat) (x : V) : (List.replicate n [x]).flatten = List.replicate n x := by
  induction n with
  | zero => rfl
  | succ n ih =>
    rw [List.replicate_succ, List.flatten_cons, ih]
    rfl
def spTail (K : PySem.W.Frag) : Sp := fun vs H Q _ => ∃ v f cs s, vs = [v, .int s] ∧ CellsAt K H v f cs ∧ cs.length ≤ 10000 ∧ f - s ≤ 1000 ∧ ∀ r H', Same H H' → IntsAt K H' r (tailM f cs s) → Q r H'
section
variable {P : Program} {w : World} {K : PySem.W.Frag} {mg : Str → Option Value} {base : Heap}
theorem sc_r_run : FnScope ["self", "count", "_"] ["self", "count"] (defScope s_Runner_run) := ⟨rfl, rfl, rfl, by decide +kernel, rfl, by decide +kernel, by decide +kernel⟩
theorem ok_r_run (T : Txt w K mg) : Has P w K mg base CX0 3 ("Runner", some "run") ["self", "count"] (spRun K) := by
  obtain ⟨fd, F⟩ := T.fd 11 (d := d_Runner_run) rfl rfl rfl
  obtain ⟨⟨fd1, G1, b1⟩, kp1⟩ := ok_r_step (P := P) (base := base) T
  obtain ⟨tS, gS⟩ := T.i_STOP
  refine ⟨⟨fd, F.ok sc_r_run (fun vs H Q E h => ?_) (fun cdv A outer s H vs Q E hr h => ?_), F.bindsN fun _ _ _ _ _ _ us hl => match us, hl with | [_, _], _ => rfl⟩, F.kp⟩
  · obtain ⟨p, dx, d, m, M, k, c, n, rfl, _⟩ := h
    rfl
  · obtain ⟨p, dx, d, m, M, k, c, n, rfl, r, o, n0, n1, hl, q⟩ := h
    refine ⟨_, PSs.nox (pss_cons (ps_for PassesOwn.never rfl (pi_range1 rfl T.z_range (pa_cons (pv 1) pa_nil)) (pg_name (i := 2) sc_r_run.nd rfl (.inl rfl))
        (pss_cons (ps_if (pt_cmpR op_eq (pe_fld (pv 0) rfl) (pe_glob (v := .int (-1)) rfl gS ⟨_, rfl⟩) (nomark _)) (pss_one ps_break) pss_nil)
          (pss_one (ps_expr (pe_meth0 (pv 0) T.c_Runner T.m_Runner_step G1 hr b1 .nil pass0)))))
      (pss_one (ps_ret (pe_cmpR op_eq (pe_fld (pv 0) rfl) (pe_glob (v := .int (-1)) rfl gS ⟨_, rfl⟩) (nomark _))))), ?_⟩
    -- behind the loop
    have fin : ∀ (y : Option V) (H' : Hp), RnAt K H' p dx d m M (runc M n.toNat c) → Fr [p, d] H H' →
        tRet (tOp rEq (tFld K (tVar 0) "state") (tC (.int (-1)))) { nx := fun _ H' => Q .non H', rt := Q } [some (.ref p), some (.int n), y] H' := fun y H' r' f => by
      refine ⟨_, rfl, p, _, dx, _, _, rfl, r'.o, T.c_Runner, T.n_Runner_state, l_r_state, rfl, ?_⟩
      rw [dec_int]
      exact q H' r' f
    refine ⟨_, rfl, n, rfl, by omega, by omega, for_range (lo := 0) (n := n.toNat) (fun i σ H' => ∃ y, σ = [some (.ref p), some (.int n), y] ∧ RnAt K H' p dx d m M (runc M i c) ∧ Fr [p, d] H H') ⟨none, rfl, r, Fr.refl H⟩ ?_ ?_⟩
    · rintro i σ H' hi ⟨y, rfl, r', f⟩
      refine ⟨_, rfl, p, _, dx, _, _, rfl, r'.o, T.c_Runner, T.n_Runner_state, l_r_state, rfl, _, rfl, ?_⟩
      rw [dec_int]
      refine ite2 (fun e => ?_) (fun e => ?_)
      · have e := of_decide_eq_true e
        refine fin _ H' ?_ f
        rw [runc_done (Nat.le_of_lt hi) e]
        exact r'
      · have e : ¬ (runc M i c).s = -1 := fun z => e (decide_eq_true z)
        have o' := Ok.run i o
        refine ⟨_, rfl, p, dx, _, rfl, r'.o, m_r_step, p, dx, d, m, M, k, _, rfl, r', o', o'.go e, ?_, fun H2 r2 f2 => ⟨_, rfl, ?_, f.trans f2⟩⟩
        · have := run_len M i c
          omega
        · rw [runc_succ, if_neg e]
          exact r2
    · rintro σ H' ⟨y, rfl, r', f⟩
      exact fin y H' r' f
theorem sc_r_init : FnScope ["self", "machine"] ["self", "machine"] (defScope s_Runner_init) := ⟨rfl, rfl, rfl, by decide +kernel, rfl, by decide +kernel, by decide +kernel⟩
theorem ok_r_init (T : Txt w K mg) : Has P w K mg base CX0 1 ("Runner", some "__init__") ["self", "machine"] (spRInit K) := by
  obtain ⟨fd, F⟩ := T.fd 8 (d := d_Runner_init) rfl rfl rfl
  refine ⟨⟨fd, F.ok sc_r_init (fun vs H Q E h => ?_) (fun cdv A outer s H vs Q E hr h => ?_), F.bindsN fun _ _ _ _ _ _ us hl => match us, hl with | [_, _], _ => rfl⟩, F.kp⟩
  · obtain ⟨p, dx, m, M, rfl, _⟩ := h
    rfl
  · obtain ⟨p, dx, m, M, rfl, hp, hm, q⟩ := h
    refine ⟨_, PSs.nox (pss_cons (ps_fld (pv 0) (pv 1) rfl) (pss_cons (ps_fld (pv 0) pe_dnewK rfl) (pss_cons (ps_fld (pv 0) pe_int rfl) (pss_cons (ps_fld (pv 0) pe_int rfl) (pss_one (ps_fld (pv 0) pe_int rfl)))))), ?_⟩
    refine ⟨_, rfl, _, rfl, p, _, dx, _, rfl, hp, T.c_Runner, T.n_Runner_machine, by show 0 < 1000; decide, ?_⟩
    rw [i_r_machine]
    intro d hd
    have npd : p ≠ d := fun z => by
      rw [← z, upd_same] at hd
      cases hd
    have hd0 : H d = none := by
      rw [upd_ne npd.symm] at hd
      exact hd
    refine ⟨_, rfl, p, _, dx, _, rfl, (upd_ne npd).trans upd_same, T.c_Runner, T.n_Runner_tape, by show 1 < 1000; decide, ?_⟩
    rw [i_r_tape]
    refine ⟨_, rfl, p, _, dx, _, rfl, upd_same, T.c_Runner, T.n_Runner_place, by show 2 < 1000; decide, ?_⟩
    rw [i_r_place, upd_upd]
    refine ⟨_, rfl, p, _, dx, _, rfl, upd_same, T.c_Runner, T.n_Runner_state, by show 3 < 1000; decide, ?_⟩
    rw [i_r_state, upd_upd]
    refine ⟨_, rfl, p, _, dx, _, rfl, upd_same, T.c_Runner, T.n_Runner_steps, by show 4 < 1000; decide, ?_⟩
    rw [i_r_steps, upd_upd]
    have f : Fr [p] H (upd (upd (upd H p (.ins (He.ga K "Runner") dx [("machine", m)])) d (.dK [])) p (.ins (He.ga K "Runner") dx [("machine", m), ("tape", .ref d), ("place", .int 0), ("state", .int 0), ("steps", .int 0)])) :=
      ((Fr.set (by simp)).trans (Fr.new hd)).trans (Fr.set (by simp))
    refine q d _ hd0 ⟨upd_same, (upd_ne npd.symm).trans upd_same, hm.imm (f.imm fun z hz => ?_)⟩ f
    rw [List.mem_singleton.mp hz, hp]
    trivial
theorem sc_tail : FnScope ["row", "start", "first", "cells"] ["row", "start"] (defScope s_tail) := ⟨rfl, rfl, rfl, by decide +kernel, rfl, by decide +kernel, by decide +kernel⟩
theorem ok_tail (T : Txt w K mg) : Has P w K mg base CX0 1 ("tail", none) ["row", "start"] (spTail K) := by
  obtain ⟨fd, F⟩ := T.fd 14 (d := d_tail) rfl rfl rfl
  refine ⟨⟨fd, F.ok sc_tail (fun vs H Q E h => ?_) (fun cdv A outer s H vs Q E hr h => ?_), F.bindsN fun _ _ _ _ _ _ us hl => match us, hl with | [_, _], _ => rfl⟩, F.kp⟩
  · obtain ⟨v, f, cs, s, rfl, _⟩ := h
    rfl
  · obtain ⟨v, f, cs, s, rfl, ⟨a, b, rfl, ha, hb⟩, hl, hs, q⟩ := h
    refine ⟨_, PSs.nox (pss_cons (ps_asg (pv 0) (pg_tup rfl (pgs_cons (pg_name (i := 2) sc_tail.nd rfl (.inl rfl)) (pgs_cons (pg_name (i := 3) sc_tail.nd rfl (.inl rfl)) pgs_nil))))
      (pss_cons (ps_if (pt_cmpR op_ge (pv 1) (pv 2) (nomark _)) (pss_one (ps_ret (pe_slice sl_tupA (pv 3) (po_some (pe_op op_sub (pv 1) (pv 2))) po_none))) pss_nil)
      (pss_cons (ps_if (pt_not (pt_truth (pv 3) (by intro _; rfl))) (pss_one (ps_ret (pe_tup pa_nil))) pss_nil)
      (pss_one (ps_ret (pe_op op_catA (pe_op op_repA (pe_tup (pa_cons pe_int pa_nil)) (pe_op op_sub (pv 2) (pv 1))) (pv 3))))))), ?_⟩
    refine ⟨_, rfl, a, _, rfl, ha, rfl, _, _, rfl, _, _, rfl, rfl, ?_⟩
    refine ⟨_, rfl, _, rfl, s, f, rfl, rfl, _, rfl, ?_⟩
    refine ite2 (fun e => ?_) (fun e => ?_)
    · have e := of_decide_eq_true e
      have et : tailM f cs s = cs.drop (s - f).toNat := by
        unfold tailM
        rw [if_pos e]
      have e0 : 0 ≤ s - f := by omega
      have ec := cut_drop (cs.map V.int) e0
      refine ⟨_, rfl, _, rfl, _, rfl, s, f, rfl, rfl, s - f, rfl, b, _, rfl, hb, fun hw => ?_, fun _ p np => ?_⟩
      · refine q _ H (Same.refl H) ⟨b, rfl, ?_⟩
        have z : cutV (cs.map V.int) (some (s - f)) none = cs.map V.int := by
          unfold cutV
          rw [hw.1, hw.2]
          exact List.take_of_length_le (Nat.le_refl _)
        rw [et, List.map_drop, ← ec, z]
        exact hb
      · refine q _ _ (sm_new np) ⟨p, rfl, ?_⟩
        rw [ec, ← List.map_drop, ← et]
        exact .of upd_same
    · have e : ¬ f ≤ s := fun z => e (decide_eq_true z)
      refine ⟨_, rfl, _, .inr (.inl ⟨_, hb, rfl⟩), ?_⟩
      by_cases z : cs = []
      · subst z
        refine iteT ⟨Nat.zero_le _, fun p np => ?_⟩
        refine q _ _ (sm_new np) ⟨p, rfl, ?_⟩
        have et : tailM f [] s = [] := by
          unfold tailM
          rw [if_neg e, if_pos rfl]
        rw [et]
        exact .of upd_same
      · have zi : ((cs.map V.int).isEmpty) = false := by
          cases cs with
          | nil => exact absurd rfl z
          | cons x r => rfl
        rw [zi]
        refine iteF ?_
        have zn : cs.map V.int ≠ [] := fun y => by
          rw [y] at zi
          cases zi
        have et : tailM f cs s = List.replicate (f - s).toNat 0 ++ cs := by
          unfold tailM
          rw [if_neg e, if_neg z]
        have em : (tailM f cs s).map V.int = List.replicate (f - s).toNat (V.int 0) ++ cs.map V.int := by
          rw [et, List.map_append, List.map_replicate]
        have fin : ∀ (g : Addr) (Hg : Hp), Same H Hg → SqT K Hg g (List.replicate (f - s).toNat (V.int 0)) → tOp (rCatA K) (fun _ H' Q' => Q' (.ref g) H') (tVar 3) [some (.ref a), some (.int s), some (.int f), some (.ref b)] Hg Q := fun g Hg sg hg => by
          refine ⟨_, rfl, g, b, _, _, rfl, rfl, hg, (sm_imm sg).sqt hb, ?_, fun y => ?_, fun _ y => absurd y zn, fun _ _ p np => ?_⟩
          · rw [List.length_replicate, List.length_map, sizeLine_eq]
            omega
          · have := congrArg List.length y
            rw [List.length_replicate] at this
            have : (f - s).toNat = 0 := this
            omega
          · refine q _ _ (sg.trans (sm_new np)) ⟨p, rfl, ?_⟩
            rw [em]
            exact .of upd_same
        refine ⟨by show 1 ≤ sizeLine; decide, fun t nt => ⟨_, rfl, _, rfl, f, s, rfl, rfl, ?_⟩⟩
        refine ⟨t, f - s, [.int 0], rfl, rfl, .of upd_same, List.cons_ne_nil _ _, by omega, hs, by show 1 ≤ 1000; decide, fun h1 => ?_, fun h2 p np => ?_⟩
        · refine fin t _ (sm_new nt) ?_
          have h1 : (f - s).toNat = 1 := by omega
          rw [h1]
          exact .of upd_same
        · refine fin p _ ((sm_new nt).trans (sm_new np)) ?_
          rw [rep_flat]
          exact .of upd_same
end
end K79

namespace K79
open PySem PySem.Spec PyProof.Rows L2
/-! ### the cells of a tape -/
def insI (x : Int) : List Int → List Int
  | [] => [x]
  | y :: r => if x ≤ y then x :: y :: r else y :: insI x r
def isort : List Int → List Int
  | [] => []
  | x :: r => insI x (isort r)
theorem insI_perm (x : Int) : ∀ l : List Int, (insI x l).Perm (x :: l)
  | [] => .refl _
  | y :: r => by
    unfold insI
    split
    · exact .refl _
    · exact (List.Perm.cons y (insI_perm x r)).trans (.swap x y r)
theorem isort_perm : ∀ l : List Int, (isort l).Perm l
  | [] => .refl _
  | x :: r => (insI_perm x (isort r)).trans ((isort_perm r).cons x)
theorem insI_sorted (x : Int) : ∀ l : List Int, l.Pairwise (· ≤ ·) → (insI x l).Pairwise (· ≤ ·)
  | [], _ => List.pairwise_singleton _ _
  | y :: r, h => by
    unfold insI
    obtain ⟨h1, h2⟩ := List.pairwise_cons.mp h
    split
    · rename_i e
      refine List.pairwise_cons.mpr ⟨fun z hz => ?_, h⟩
      rcases List.mem_cons.mp hz with q | q
      · rw [q]
        exact e
      · exact Int.le_trans e (h1 z q)
    · rename_i e
      refine List.pairwise_cons.mpr ⟨fun z hz => ?_, insI_sorted x r h2⟩
      rcases List.mem_cons.mp ((insI_perm x r).mem_iff.mp hz) with q | q
      · rw [q]
        omega
      · exact h1 z q
theorem isort_sorted : ∀ l : List Int, (isort l).Pairwise (· ≤ ·)
  | [] => .nil
  | x :: r => insI_sorted x _ (isort_sorted r)
/-- the places that are not blank -/
def nzk (t : Tp) : List Int := (t.filter fun p => !decide (lk t p.1 = 0)).map (·.1)
def spanM (t : Tp) (a n : Int) : List Int := (List.range n.toNat).map fun i : Nat => lk t (a + (i : Int))
def cellsM (t : Tp) : Int × List Int := match isort (nzk t) with
  | [] => (0, [])
  | a :: r => (a, spanM t a ((a :: r).getLast (List.cons_ne_nil a r) + 1 - a))
/-- all places of a tape, and the head's, at most so far off -/
def Bd (B : Int) (c : Cf) : Prop := (∀ p ∈ c.t, -B ≤ p.1 ∧ p.1 ≤ B) ∧ -B ≤ c.x ∧ c.x ≤ B
theorem pt_key {t : Tp} {x y : Int} {p : Int × Int} (h : p ∈ pt t x y) : p.1 = x ∨ ∃ q ∈ t, q.1 = p.1 := by
  unfold pt at h
  split at h
  · obtain ⟨q, hq, e⟩ := List.mem_map.mp h
    refine .inr ⟨q, hq, ?_⟩
    rw [← e]
    by_cases z : q.1 = x
    · rw [if_pos z]
    · rw [if_neg z]
  · rcases List.mem_append.mp h with h | h
    · exact .inr ⟨p, h, rfl⟩
    · left
      rw [List.mem_singleton.mp h]
theorem Bd.ini : Bd 0 ini := ⟨fun p hp => (by cases hp), by decide, by decide⟩
theorem Bd.mono {B B' : Int} {c : Cf} (b : Bd B c) (h : B ≤ B') : Bd B' c := ⟨fun p hp => by have := b.1 p hp; omega, by have := b.2; omega, by have := b.2; omega⟩
theorem Bd.stp {B : Int} {M : Mach} {k : Nat} {c : Cf} (o : Ok M k c) (h : 0 ≤ c.s) (b : Bd B c) : Bd (B + 1) (stp M c) := by
  have hy := o.sym c.x
  have hr := rul_ok o.wf h o.st.2 hy.1 hy.2
  have hb := b.2
  refine ⟨fun p hp => ?_, ?_, ?_⟩
  · rcases pt_key hp with e | ⟨q, hq, e⟩
    · rw [e]
      omega
    · have := b.1 q hq
      omega
  · show -(B + 1) ≤ c.x + (rul M c.s (lk c.t c.x)).2.1
    omega
  · show c.x + (rul M c.s (lk c.t c.x)).2.1 ≤ B + 1
    omega
theorem Bd.run {M : Mach} {k : Nat} : ∀ (n : Nat) {B : Int} {c : Cf}, Ok M k c → Bd B c → Bd (B + n) (runc M n c)
  | 0, B, c, _, b => b.mono (by omega)
  | n + 1, B, c, o, b => by
    unfold runc
    by_cases h : c.s = -1
    · rw [if_pos h]
      exact b.mono (by omega)
    · rw [if_neg h]
      exact (Bd.run n (o.stp (o.go h)) (b.stp o (o.go h))).mono (by omega)
theorem nzk_len (t : Tp) : (nzk t).length ≤ t.length := by
  unfold nzk
  rw [List.length_map]
  exact List.length_filter_le _ _
theorem nzk_mem {B : Int} {t : Tp} (h : ∀ p ∈ t, -B ≤ p.1 ∧ p.1 ≤ B) {z : Int} (hz : z ∈ isort (nzk t)) : -B ≤ z ∧ z ≤ B := by
  have hz := (isort_perm _).mem_iff.mp hz
  unfold nzk at hz
  obtain ⟨p, hp, e⟩ := List.mem_map.mp hz
  rw [← e]
  exact h p (List.mem_filter.mp hp).1
theorem spanM_len (t : Tp) (a n : Int) : (spanM t a n).length = n.toNat := by
  unfold spanM
  rw [List.length_map, List.length_range]
theorem cellsM_bd {B : Int} {t : Tp} (hB : 0 ≤ B) (h : ∀ p ∈ t, -B ≤ p.1 ∧ p.1 ≤ B) : -B ≤ (cellsM t).1 ∧ (cellsM t).1 ≤ B ∧ ((cellsM t).2.length : Int) ≤ 2 * B + 1 := by
  unfold cellsM
  cases e : isort (nzk t) with
  | nil =>
    show -B ≤ (0 : Int) ∧ (0 : Int) ≤ B ∧ ((0 : Nat) : Int) ≤ 2 * B + 1
    omega
  | cons a r =>
    have ha := nzk_mem h (z := a) (by rw [e]; exact List.mem_cons_self)
    have hl := nzk_mem h (z := (a :: r).getLast (List.cons_ne_nil a r)) (by rw [e]; exact List.getLast_mem _)
    refine ⟨ha.1, ha.2, ?_⟩
    show ((spanM t a ((a :: r).getLast (List.cons_ne_nil a r) + 1 - a)).length : Int) ≤ 2 * B + 1
    rw [spanM_len]
    omega
def spCells (K : PySem.W.Frag) : Sp := fun vs H Q _ => ∃ p dx d m M c, vs = [.ref p] ∧ RnAt K H p dx d m M c ∧ c.t.length ≤ 10000 ∧ (∀ p ∈ c.t, -3000 ≤ p.1 ∧ p.1 ≤ 3000) ∧ ∀ v H', Same H H' → CellsAt K H' v (cellsM c.t).1 (cellsM c.t).2 → Q v H'
def spRTail (K : PySem.W.Frag) : Sp := fun vs H Q _ => ∃ p dx d m M c s, vs = [.ref p, .int s] ∧ RnAt K H p dx d m M c ∧ c.t.length ≤ 10000 ∧ (∀ p ∈ c.t, -500 ≤ p.1 ∧ p.1 ≤ 500) ∧ -500 ≤ s ∧ ∀ v H', Same H H' → IntsAt K H' v (tailM (cellsM c.t).1 (cellsM c.t).2 s) → Q v H'
section
variable {P : Program} {w : World} {K : PySem.W.Frag} {mg : Str → Option Value} {base : Heap}
theorem take_snoc {α : Type} {l : List α} {i : Nat} {x : α} (h : l[i]? = some x) : l.take (i + 1) = l.take i ++ [x] := by
  rw [List.take_add_one, h]
  rfl
theorem kv_at {t : Tp} {i : Nat} {k : Key} {v : V} (h : (kv t)[i]? = some (k, v)) : ∃ p, t[i]? = some p ∧ k = Sum.inl p.1 ∧ v = .int p.2 := by
  unfold kv at h
  rw [List.getElem?_map] at h
  cases e : t[i]? with
  | none =>
    rw [e] at h
    cases h
  | some p =>
    rw [e] at h
    have h := Option.some.inj h
    injection h with h1 h2
    exact ⟨p, rfl, h1.symm, h2.symm⟩
theorem lkO_some {t : Tp} {p : Int × Int} (h : p ∈ t) : lkO t p.1 = some (lk t p.1) := by
  unfold lk
  cases e : lkO t p.1 with
  | some y => rfl
  | none =>
    unfold lkO at e
    have e := Option.map_eq_none_iff.mp e
    have := List.find?_eq_none.mp e p h
    exact absurd (decide_eq_true rfl) this
theorem sc_r_cells : FnScope ["self", "places", "place"] ["self"] (defScope s_Runner_cells) := ⟨rfl, rfl, rfl, by decide +kernel, rfl, by decide +kernel, by decide +kernel⟩
theorem ok_r_cells (T : Txt w K mg) : Has P w K mg base CX0 1 ("Runner", some "cells") ["self"] (spCells K) := by
  obtain ⟨fd, F⟩ := T.fd 12 (d := d_Runner_cells) rfl rfl rfl
  refine ⟨⟨fd, F.ok sc_r_cells (fun vs H Q E h => ?_) (fun cdv A outer s H vs Q E hr h => ?_), F.bindsN fun _ _ _ _ _ _ us hl => match us, hl with | [_], _ => rfl⟩, F.kp⟩
  · obtain ⟨p, dx, d, m, M, c, rfl, _⟩ := h
    rfl
  · obtain ⟨p, dx, d, m, M, c, rfl, r, hl, hB, q⟩ := h
    have hu := hu_of hr
    have npd := r.ne
    refine ⟨_, PSs.nox (pss_cons (ps_set (i := 1) sc_r_cells.nd rfl (.inl rfl) (pe_callB cr_sortedI (by rfl) T.z_sorted (by decide +kernel) (pa_cons (pe_lock (pe_lc (own := [("place", 2)]) (g := gName 2) (tt := tTest (tOp rNe (tDGet (tFld K (tVar 0) "tape") (tVar 2)) (tC (.int 0)))) (by rfl) sc_r_cells.nd (pi_keys (pe_fld (pv 0) rfl)) (blkOk_by (own := [("place", 2)]) (N := ["self", "places", "place"]) (sc := defScope s_Runner_cells) (by decide +kernel))
        (fun _ _ _ _ _ => pg_name (i := 2) sc_r_cells.nd rfl (Or.inl rfl)) (fun _ _ _ _ _ => by exact pts_one (pt_cmpR op_ne (pe_dget hu (pe_fld (pv 0) rfl) (pv 2) (fun _ _ => rfl)) pe_int (nomark _))) (fun _ _ _ _ _ => pv 2))) pa_nil)))
      (pss_cons (ps_if (pt_not (pt_truth (pv 1) (by intro _; rfl))) (pss_one (ps_ret (pe_tup (pa_cons pe_int (pa_cons (pe_tup pa_nil) pa_nil))))) pss_nil)
      (pss_one (ps_ret (pe_tup (pa_cons (pe_ix ix_list (pv 1) pe_int (fun _ _ => rfl)) (pa_cons (pe_callTy call_tuple_of (by rfl) T.z_tuple (by decide +kernel)
        (pa_cons (pe_lc (own := [("place", 2)]) (g := gName 2) (te := tDGet2 (tFld K (tVar 0) "tape") (tVar 2) (tC (.int 0))) (by rfl) sc_r_cells.nd (pi_range2 rfl T.z_range (pa_cons (pe_ix ix_list (pv 1) pe_int (fun _ _ => rfl)) (pa_cons (pe_op op_add (pe_ix ix_list (pv 1) (pe_un un_neg pe_int) (fun _ _ => rfl)) pe_int) pa_nil))) (blkOk_by (own := [("place", 2)]) (N := ["self", "places", "place"]) (sc := defScope s_Runner_cells) (by decide +kernel))
          (fun _ _ _ _ _ => pg_name (i := 2) sc_r_cells.nd rfl (Or.inl rfl)) (fun _ _ _ _ _ => pts_nil) (fun _ _ _ _ _ => by exact pe_dget2 hu (pe_fld (pv 0) rfl) (pv 2) pe_int ⟨rfl, rfl, rfl, rfl⟩)) pa_nil)) pa_nil))))))), ?_⟩
    -- the places that are not blank
    refine ⟨d, _, r.d, trivial, fun od => ⟨_, rfl, p, _, dx, _, _, rfl, (upd_ne npd).trans r.o, T.c_Runner, T.n_Runner_tape, l_r_tape, d, od, rfl, .inl ⟨_, upd_same, fun D nD => ?_⟩⟩⟩
    have nDd : D ≠ d := fun z => by
      rw [z, upd_same] at nD
      cases nD
    have nD0 : H D = none := by
      rw [upd_ne nDd] at nD
      exact nD
    refine lc_pure walk_keys (fun i acc _ => acc = ((c.t.take i).filter fun p => !decide (lk c.t p.1 = 0)).map fun p => V.int p.1) nD (fun H' s => s _ _ upd_same) (fun _ _ _ _ _ _ _ h => h) rfl (by rw [kv_len]; omega) (fun i acc H' e => ?_) ?_ ?_
    · rw [e, List.length_map]
      exact Nat.le_trans (List.length_filter_le _ _) (by rw [List.length_take]; exact Nat.min_le_left _ _)
    · rintro i x H' H'' acc hi s1 _ ea ⟨rfl, k, v, ek, rfl⟩ C N hC hN
      obtain ⟨pp, ep, rfl, rfl⟩ := kv_at ek
      have em := List.mem_of_getElem? ep
      refine ⟨rfl, _, rfl, p, _, dx, _, _, rfl, s1 _ _ ((upd_ne npd).trans r.o), T.c_Runner, T.n_Runner_tape, l_r_tape, _, rfl, d, .int (lk c.t pp.1), rfl, ?_, rfl, _, rfl, ?_⟩
      · refine .inl ⟨_, Sum.inl pp.1, .inr ⟨od, s1 _ _ upd_same⟩, rfl, ?_⟩
        rw [valV_kv, lkO_some em]
        rfl
      · rw [dec_int]
        cases hz : !decide (lk c.t pp.1 = 0) with
        | true =>
          refine iteT ⟨_, rfl, hC _ _ (Same.refl _) ?_⟩
          rw [ea, take_snoc ep, List.filter_append, List.map_append, List.filter_cons_of_pos (by exact hz)]
          rfl
        | false =>
          refine iteF (hN _ (Same.refl _) ?_)
          rw [ea, take_snoc ep, List.filter_append, List.map_append, List.filter_cons_of_neg (by rw [hz]; exact Bool.false_ne_true)]
          exact (List.append_nil _).symm
    · intro H' acc s1 eD ea
      rw [kv_len, List.take_length] at ea
      have ea : acc = (nzk c.t).map V.int := by
        rw [ea]
        unfold nzk
        rw [List.map_map]
        rfl
      subst ea
      have s2 : Same H (upd H' d (.dK (kv c.t))) := fun b o e => by
        by_cases z : b = d
        · rw [z, r.d] at e
          rw [z, upd_same]
          exact e
        · rw [upd_ne z]
          exact s1 _ _ ((upd_ne z).trans e)
      refine ⟨s1 _ _ upd_same, D, nzk c.t, rfl, .of ((upd_ne nDd).trans eD), fun ns' pl hp hs np => ?_⟩
      have e1 : ns' = isort (nzk c.t) := PySem.W.ksm_same (hp.trans (isort_perm _).symm) hs (isort_sorted _)
      subst e1
      have s3 := s2.trans (sm_new (o := .lst ((isort (nzk c.t)).map V.int)) np)
      refine ⟨_, rfl, _, .inl ⟨_, .of upd_same, rfl⟩, ?_⟩
      cases ec : isort (nzk c.t) with
      | nil =>
        rw [ec] at s3
        have em : cellsM c.t = (0, []) := by
          unfold cellsM
          rw [ec]
        rw [em] at q
        refine iteT ⟨Nat.zero_le _, fun b nb => ⟨by show 2 ≤ sizeLine; decide, fun a na => ?_⟩⟩
        refine q _ _ ((s3.trans (sm_new nb)).trans (sm_new na)) ⟨a, b, rfl, .of upd_same, .of ?_⟩
        rw [upd_ne (ne_of_none upd_same na)]
        exact upd_same
      | cons a l =>
        rw [ec] at s3
        have em : cellsM c.t = (a, spanM c.t a ((a :: l).getLast (List.cons_ne_nil a l) + 1 - a)) := by
          unfold cellsM
          rw [ec]
        rw [em] at q
        have hB1 := nzk_mem hB (z := a) (by rw [ec]; exact List.mem_cons_self)
        have hB2 := nzk_mem hB (z := (a :: l).getLast (List.cons_ne_nil a l)) (by rw [ec]; exact List.getLast_mem _)
        generalize hz : (a :: l).getLast (List.cons_ne_nil a l) = z at q hB2
        have eL : (upd (upd H' d (.dK (kv c.t))) pl (.lst ((a :: l).map V.int))) pl = some (.lst ((a :: l).map V.int)) := upd_same
        have g1 : atI ((a :: l).map V.int) 0 = some (.int a) := atI_nat (j := 0) rfl
        have g2 : atI ((a :: l).map V.int) (-1) = some (.int z) := by
          have hx : (a :: l).map V.int = ((a :: l).dropLast.map V.int) ++ [.int z] := by
            rw [← hz, ← List.map_singleton, ← List.map_append, List.dropLast_concat_getLast]
          rw [hx]
          exact atI_last _ _
        refine iteF ⟨_, rfl, pl, _, 0, _, rfl, rfl, .of eL, g1, ?_⟩
        refine ⟨_, rfl, pl, _, 0, _, rfl, rfl, .of eL, g1, _, rfl, 1, rfl, pl, _, -1, _, rfl, rfl, .of eL, g2, z, 1, rfl, rfl, a, z + 1, rfl, ⟨by omega, by omega, by omega, by omega⟩, fun D2 nD2 => ?_⟩
        refine lc_pure walk_range (fun i acc _ => acc = (List.range i).map fun j : Nat => V.int (lk c.t (a + (j : Int)))) nD2 (fun _ _ => trivial) (fun _ _ _ _ _ _ _ h => h) rfl (by omega) (fun i acc H' e => by rw [e, List.length_map, List.length_range]; exact Nat.le_refl _) ?_ ?_
        · rintro i x H2 H3 acc hi s4 _ ea ⟨rfl, rfl⟩ C N hC hN
          have r2 := r.same (s3.trans s4)
          refine ⟨rfl, yes_ ?_⟩
          refine ⟨_, rfl, p, _, dx, _, _, rfl, r2.o, T.c_Runner, T.n_Runner_tape, l_r_tape, d, rfl, .inl ⟨_, .inl r2.d⟩, _, rfl, _, DGet.k (k := Sum.inl (a + (i : Int))) r2.d, hC _ _ (Same.refl _) ?_⟩
          rw [getD_kv, ea, List.range_succ, List.map_append]
          rfl
        · intro H2 acc s4 eD2 ea
          have ea : acc = (spanM c.t a (z + 1 - a)).map V.int := by
            rw [ea]
            unfold spanM
            rw [List.map_map]
            rfl
          subst ea
          refine ⟨D2, _, rfl, .inl ⟨.of eD2, fun b nb => ⟨by show 2 ≤ sizeLine; decide, fun t nt => ?_⟩⟩⟩
          refine q _ _ (((s3.trans s4).trans (sm_new nb)).trans (sm_new nt)) ⟨t, b, rfl, .of upd_same, .of ?_⟩
          rw [upd_ne (ne_of_none upd_same nt)]
          exact upd_same
theorem sc_r_tail : FnScope ["self", "start"] ["self", "start"] (defScope s_Runner_tail) := ⟨rfl, rfl, rfl, by decide +kernel, rfl, by decide +kernel, by decide +kernel⟩
theorem ok_r_tail (T : Txt w K mg) : Has P w K mg base CX0 2 ("Runner", some "tail") ["self", "start"] (spRTail K) := by
  obtain ⟨fd, F⟩ := T.fd 13 (d := d_Runner_tail) rfl rfl rfl
  obtain ⟨⟨fd1, G1, b1⟩, kp1⟩ := ok_r_cells (P := P) (base := base) T
  obtain ⟨⟨fd2, G2, b2⟩, kp2⟩ := ok_tail (P := P) (base := base) T
  refine ⟨⟨fd, F.ok sc_r_tail (fun vs H Q E h => ?_) (fun cdv A outer s H vs Q E hr h => ?_), F.bindsN fun _ _ _ _ _ _ us hl => match us, hl with | [_, _], _ => rfl⟩, F.kp⟩
  · obtain ⟨p, dx, d, m, M, c, s, rfl, _⟩ := h
    rfl
  · obtain ⟨p, dx, d, m, M, c, s0, rfl, r, hl, hB, hs, q⟩ := h
    refine ⟨_, PSs.nox (pss_one (ps_ret (pe_call G2 hr (by rfl) T.g_tail_runner kp2 b2 .nil pass0 (pa_cons (pe_meth0 (pv 0) T.c_Runner T.m_Runner_cells G1 hr b1 .nil pass0) (pa_cons (pv 1) pa_nil))))), ?_⟩
    have hb := cellsM_bd (B := 500) (by decide) hB
    refine ⟨_, rfl, p, dx, _, rfl, r.o, m_r_cells, p, dx, d, m, M, c, rfl, r, hl, fun p hp => by have := hB p hp; omega, fun v H' s1 hv => ?_⟩
    exact ⟨_, rfl, v, _, _, s0, rfl, hv, by omega, by omega, fun r2 H2 s2 h2 => q r2 H2 (s1.trans s2) h2⟩
end
end K79

namespace K79
open PySem PySem.Spec PyProof.Rows L2
/-! ### the mirrored machine -/
def mirR (r : Rule) : Rule := (r.1, -r.2.1, r.2.2)
def mirM (M : Mach) : Mach := M.map fun row => row.map mirR
theorem mirM_wf {M : Mach} {k : Nat} (wf : Wf M k) : Wf (mirM M) k := by
  have hl : (mirM M).length = M.length := List.length_map _
  refine ⟨by rw [hl]; exact wf.len, wf.sym, fun l hl => ?_, fun l hl r hr => ?_⟩
  · obtain ⟨l0, h0, e⟩ := List.mem_map.mp hl
    rw [← e, List.length_map]
    exact wf.rows l0 h0
  · obtain ⟨l0, h0, e⟩ := List.mem_map.mp hl
    rw [← e] at hr
    obtain ⟨r0, g0, e2⟩ := List.mem_map.mp hr
    have := wf.rule l0 h0 r0 g0
    rw [← e2]
    show 0 ≤ r0.1 ∧ r0.1 < k ∧ (-r0.2.1 = 1 ∨ -r0.2.1 = -1) ∧ -1 ≤ r0.2.2 ∧ r0.2.2 < (mirM M).length
    have hl' : (mirM M).length = M.length := List.length_map _
    rw [hl']
    omega
/-! ### tuples of ints are equal -/
theorem eqv_ints : ∀ xs ys : List Int, PyData.eqvAll (xs.map .int) (ys.map .int) = decide (xs = ys)
  | [], [] => rfl
  | [], y :: r => rfl
  | x :: r, [] => rfl
  | x :: r, y :: s => by
    show (x == y && PyData.eqvAll (r.map .int) (s.map .int)) = _
    rw [eqv_ints r s]
    by_cases h : x = y
    · subst h
      rw [beq_self_eq_true, Bool.true_and]
      by_cases g : r = s
      · rw [decide_eq_true g, g, decide_eq_true rfl]
      · rw [decide_eq_false g, decide_eq_false fun z => g (List.cons.inj z).2]
    · rw [beq_eq_false_iff_ne.mpr h, Bool.false_and, decide_eq_false fun z => h (List.cons.inj z).1]
theorem lay_ints : ∀ xs : List Int, PyData.canLayAll0 (xs.map .int) = true
  | [] => rfl
  | x :: r => by
    show (PyData.canLay0 (.int x) && PyData.canLayAll0 (r.map .int)) = true
    rw [lay_ints r]
    rfl
theorem dep_ints : ∀ xs : List Int, PyData.depthAll (xs.map .int) = 0
  | [] => rfl
  | x :: r => by
    show max (PyData.depth (.int x)) (PyData.depthAll (r.map .int)) = 0
    rw [dep_ints r]
    rfl
theorem shaped_ints (xs : List Int) : SeqAt.shaped (.tuple (xs.map .int)) = true := by
  show (PyData.canLayAll0 (xs.map .int) && decide (PyData.depthAll (xs.map .int) + 1 ≤ 64)) = true
  rw [lay_ints, dep_ints]
  rfl
theorem dp_ints {K : PySem.W.Frag} {H : Hp} : ∀ xs : List Int, DpAll K H (xs.map V.int) (xs.map .int)
  | [] => .nil
  | x :: r => .cons (.int x) (dp_ints r)
theorem eq_ints {K : PySem.W.Frag} {H : Hp} {x y : V} {xs ys : List Int} {Q : VK} (hx : IntsAt K H x xs) (hy : IntsAt K H y ys) (q : Q (.bl (decide (xs = ys))) H) : rEqD K x y H Q := by
  obtain ⟨a, rfl, ha⟩ := hx
  obtain ⟨b, rfl, hb⟩ := hy
  refine ⟨_, _, .tup ha (dp_ints xs), .tup hb (dp_ints ys), shaped_ints _, shaped_ints _, ?_⟩
  show Q (.bl (PyData.eqvAll (xs.map .int) (ys.map .int))) H
  rw [eqv_ints]
  exact q
/-! ### the history of a run -/
abbrev cf (M : Mach) (i : Nat) : Cf := runc M i ini
abbrev cel (M : Mach) (i : Nat) : Int × List Int := cellsM (cf M i).t
structure Fp where
  h : Addr
  dx : Addr
  p : Addr
  dxr : Addr
  d : Addr
  ls : Addr
  lp : Addr
  lt : Addr
def Fp.mu (S : Fp) : List Addr := [S.p, S.d, S.ls, S.lp, S.lt]
structure HiAt (K : PySem.W.Frag) (H : Hp) (S : Fp) (m : V) (M : Mach) (n : Nat) : Prop where
  o : H S.h = some (.ins (He.ga K "History") S.dx (hfs (.ref S.p) (.ref S.ls) (.ref S.lp) (.ref S.lt)))
  r : RnAt K H S.p S.dxr S.d m M (cf M n)
  s : H S.ls = some (.lst ((List.range (n + 1)).map fun i => V.int (cf M i).s))
  x : H S.lp = some (.lst ((List.range (n + 1)).map fun i => V.int (cf M i).x))
  t : ∃ vs, H S.lt = some (.lst vs) ∧ vs.length = n + 1 ∧ ∀ (i : Nat) (v : V), vs[i]? = some v → CellsAt K H v (cel M i).1 (cel M i).2
  ne : S.h ≠ S.p ∧ S.ls ≠ S.lp ∧ S.ls ≠ S.lt ∧ S.lp ≠ S.lt
section
variable {K : PySem.W.Frag} {H H' : Hp} {S : Fp} {m : V} {M : Mach} {n : Nat}
theorem HiAt.soft (h : HiAt K H S m M n) : ∀ q ∈ S.mu, Soft (H q) := fun q hq => by
  obtain ⟨vs, ht, _⟩ := h.t
  unfold Fp.mu at hq
  simp only [List.mem_cons, List.not_mem_nil, or_false] at hq
  rcases hq with e | e | e | e | e <;> rw [e]
  · rw [h.r.o]
    trivial
  · rw [h.r.d]
    trivial
  · rw [h.s]
    trivial
  · rw [h.x]
    trivial
  · rw [ht]
    trivial
theorem HiAt.fr {T : List Addr} (h : HiAt K H S m M n) (f : Fr T H H') (hs : ∀ q ∈ T, Soft (H q)) (hn : ∀ q ∈ S.h :: S.mu, q ∉ T) : HiAt K H' S m M n := by
  have i := f.imm hs
  obtain ⟨vs, ht, hl, hc⟩ := h.t
  have n1 := hn S.h (by simp)
  have n2 := hn S.p (by simp [Fp.mu])
  have n3 := hn S.d (by simp [Fp.mu])
  have n4 := hn S.ls (by simp [Fp.mu])
  have n5 := hn S.lp (by simp [Fp.mu])
  have n6 := hn S.lt (by simp [Fp.mu])
  exact ⟨f _ _ h.o n1, h.r.fr f hs n2 n3, f _ _ h.s n4, f _ _ h.x n5, ⟨vs, f _ _ ht n6, hl, fun j v e => (hc j v e).imm i⟩, h.ne⟩
theorem HiAt.same (h : HiAt K H S m M n) (f : Same H H') : HiAt K H' S m M n := h.fr (T := []) (sm_fr f) (fun q hq => by cases hq) fun q _ z => by cases z
theorem rng_at {f : Nat → V} {n a : Nat} (h : a ≤ n) : ((List.range (n + 1)).map f)[a]? = some (f a) := by
  rw [List.getElem?_map, List.getElem?_range (by omega)]
  rfl
theorem rng_snoc {f : Nat → V} {n : Nat} : (List.range (n + 1 + 1)).map f = (List.range (n + 1)).map f ++ [f (n + 1)] := by
  rw [List.range_succ, List.map_append]
  rfl
theorem cf_ok {k : Nat} (wf : Wf M k) (n : Nat) : Ok M k (cf M n) := Ok.run n (Ok.ini wf)
theorem cf_len (M : Mach) (n : Nat) : (cf M n).t.length ≤ n := by
  have := run_len M n ini
  exact Nat.le_trans this (by show 0 + n ≤ n; omega)
theorem cf_bd {k : Nat} (wf : Wf M k) (n : Nat) : Bd n (cf M n) := (Bd.run n (Ok.ini wf) Bd.ini).mono (by omega)
end
def repM (M : Mach) (a b : Nat) (l : Int) : Bool := if (cf M a).s = (cf M b).s then (if (cf M b).x - (cf M a).x < 0 then false else decide (tailM (cel M a).1 (cel M a).2 l = tailM (cel M b).1 (cel M b).2 (l + ((cf M b).x - (cf M a).x)))) else false
def lastGo (M : Mach) (b : Nat) : Nat → Int → Option Nat
  | 0, _ => none
  | j + 1, l => if repM M j b (if (cf M j).x < l then (cf M j).x else l) = true then some j else lastGo M b j (if (cf M j).x < l then (cf M j).x else l)
def lastM (M : Mach) (b : Nat) : Option Nat := lastGo M b b (cf M b).x
def oInt : Option Nat → V
  | some a => .int (a : Int)
  | none => .non
def rTupOf (K : PySem.W.Frag) : List V → Hp → VK → Prop := fun xs H Q => ∃ p ys, xs = [.ref p] ∧ ((SqL K H p ys ∧ ∀ l, H l = none → Q (.ref l) (upd H l (.tup ys))) ∨ (SqT K H p ys ∧ Q (.ref p) H))
theorem call_tup {X : Cx} : CallR X (.type "tuple") (rTupOf X.K) := call_tuple_of
def spMir (K : PySem.W.Frag) : Sp := fun vs H Q _ => ∃ m M k, vs = [m] ∧ MachAt K H m M ∧ Wf M k ∧ ∀ v H', Same H H' → MachAt K H' v (mirM M) → Q v H'
def spHInit (K : PySem.W.Frag) : Sp := fun vs H Q _ => ∃ h dx m M k, vs = [.ref h, m] ∧ H h = some (.ins (He.ga K "History") dx []) ∧ MachAt K H m M ∧ Wf M k ∧ ∀ S H', S.h = h → (∀ q ∈ S.mu, H q = none) → HiAt K H' S m M 0 → Fr [h] H H' → Q .non H'
def spGrow (K : PySem.W.Frag) : Sp := fun vs H Q _ => ∃ S m M k n, vs = [.ref S.h] ∧ HiAt K H S m M n ∧ Wf M k ∧ 0 ≤ (cf M n).s ∧ n ≤ 100 ∧ ∀ H', HiAt K H' S m M (n + 1) → Fr S.mu H H' → Q (.bl (!decide ((cf M (n + 1)).s = -1))) H'
def spRep (K : PySem.W.Frag) : Sp := fun vs H Q _ => ∃ (S : Fp) (m : V) (M : Mach) (k n a b : Nat) (l : Int), vs = [.ref S.h, .int (a : Int), .int (b : Int), .int l] ∧ HiAt K H S m M n ∧ Wf M k ∧ n ≤ 100 ∧ a ≤ n ∧ b ≤ n ∧ -300 ≤ l ∧ l ≤ 300 ∧ ∀ H', Same H H' → Q (.bl (repM M a b l)) H'
def spLast (K : PySem.W.Frag) : Sp := fun vs H Q _ => ∃ (S : Fp) (m : V) (M : Mach) (k n b : Nat), vs = [.ref S.h, .int (b : Int)] ∧ HiAt K H S m M n ∧ Wf M k ∧ n ≤ 100 ∧ b ≤ n ∧ ∀ H', Same H H' → Q (oInt (lastM M b)) H'
section
variable {P : Program} {w : World} {K : PySem.W.Frag} {mg : Str → Option Value} {base : Heap}
theorem sc_mirrored : FnScope ["machine", "row", "write", "move", "state"] ["machine"] (defScope s_mirrored) := ⟨rfl, rfl, rfl, by decide +kernel, rfl, by decide +kernel, by decide +kernel⟩
theorem prd_take {α β : Type} {R : α → β → Prop} : ∀ {l : List α} {m : List β} (i : Nat), Paired R l m → Paired R (l.take i) (m.take i)
  | _, _, 0, _ => .nil
  | _, _, _ + 1, .nil => .nil
  | _, _, i + 1, .cons r t => .cons r (prd_take i t)
theorem ok_mirrored (T : Txt w K mg) : Has P w K mg base CX0 1 ("mirrored", none) ["machine"] (spMir K) := by
  obtain ⟨fd, F⟩ := T.fd 7 (d := d_mirrored) rfl rfl rfl
  refine ⟨⟨fd, F.ok sc_mirrored (fun vs H Q E h => ?_) (fun cdv A outer s H vs Q E hr h => ?_), F.bindsN fun _ _ _ _ _ _ us hl => match us, hl with | [_], _ => rfl⟩, F.kp⟩
  · obtain ⟨m, M, k, rfl, _⟩ := h
    rfl
  · obtain ⟨m, M, k, rfl, ⟨a, vs, rfl, ha, hp⟩, wf, q⟩ := h
    refine ⟨_, PSs.nox (pss_one (ps_ret (pe_callTy call_tup (by rfl) T.z_tuple (by decide +kernel) (pa_cons (pe_lc (own := [("row", 1)]) (g := gName 1)
      (te := tCB (rTupOf K) (tCons (tLc (iTup K (tVar 1)) (gTup K 3 (gCons (gName 2) (gCons (gName 3) (gCons (gName 4) gNil)))) tYes (tTup (tCons (tVar 2) (tCons (tUn (rU fun i => .int (-i)) (tVar 3)) (tCons (tVar 4) tNil)))) [2, 3, 4]) tNil))
      (by rfl) sc_mirrored.nd (pi_tup (pv 0)) (blkOk_by (by kernel_rfl)) (fun _ _ _ _ _ => pg_name (i := 1) sc_mirrored.nd rfl (Or.inl rfl)) (fun _ _ _ _ _ => pts_nil)
      (fun _ _ _ _ _ => by exact pe_callTy call_tup (by rfl) T.z_tuple (by decide +kernel) (pa_cons (pe_lc (own := [("write", 2), ("move", 3), ("state", 4)]) (by rfl) sc_mirrored.nd (pi_tup (pv 1)) (blkOk_by (by kernel_rfl))
        (fun _ _ _ _ _ => by exact pg_tup rfl (pgs_cons (pg_name (i := 2) sc_mirrored.nd rfl (Or.inl rfl)) (pgs_cons (pg_name (i := 3) sc_mirrored.nd rfl (Or.inl rfl)) (pgs_cons (pg_name (i := 4) sc_mirrored.nd rfl (Or.inl rfl)) pgs_nil))))
        (fun _ _ _ _ _ => pts_nil) (fun _ _ _ _ _ => by exact pe_tup (pa_cons (pv 2) (pa_cons (pe_un un_neg (pv 3)) (pa_cons (pv 4) pa_nil))))) pa_nil))) pa_nil)))), ?_⟩
    refine ⟨_, rfl, a, rfl, ⟨_, ha⟩, fun D nD => ?_⟩
    refine lc_pure (walk_tup (xs := vs)) (fun i acc H' => Paired (RowAt K H') acc ((M.take i).map fun row => row.map mirR)) nD (fun H' s => (sm_imm s).sqt ha) (fun i acc H4 H5 l e f z => ?_) .nil ?_ (fun i acc H' z => ?_) ?_ ?_
    · have i : Imm H4 H5 := f.imm fun p hp => by
        rw [List.mem_singleton.mp hp, e]
        trivial
      exact z.mono fun _ _ => RowAt.imm i
    · have := wf.len
      have := hp.length
      omega
    · have := z.length
      rw [List.length_map, List.length_take] at this
      omega
    · rintro i x H' H'' acc hi s1 eD z ⟨rfl, ex⟩ C N hC hN
      obtain ⟨row, er, b, us, rfl, hb, hq⟩ := prd_at' hp ex
      have hb' := (sm_imm s1).sqt hb
      have hrl := wf.rows row (List.mem_of_getElem? er)
      refine ⟨rfl, yes_ ?_⟩
      refine ⟨_, rfl, b, rfl, ⟨_, hb'⟩, fun D2 nD2 => ?_⟩
      refine lc_pure (walk_tup (xs := us)) (fun i acc H' => Paired (RuleAt K H') acc ((row.take i).map mirR)) nD2 (fun H' s => (sm_imm s).sqt hb') (fun i acc H4 H5 l e f z => ?_) .nil ?_ (fun i acc H' z => ?_) ?_ ?_
      · have i : Imm H4 H5 := f.imm fun p hp => by
          rw [List.mem_singleton.mp hp, e]
          trivial
        exact z.mono fun _ _ => RuleAt.imm i
      · have := hq.length
        have := wf.sym
        omega
      · have := z.length
        rw [List.length_map, List.length_take] at this
        omega
      · rintro j y H2 H3 acc2 hj s2 eD2 z2 ⟨rfl, ey⟩ C2 N2 hC2 hN2
        obtain ⟨r, er2, c, rfl, hc⟩ := prd_at' hq ey
        have hc' := (sm_imm (s1.trans s2)).sqt hc
        refine ⟨c, _, rfl, hc', rfl, _, _, rfl, _, _, rfl, _, _, rfl, rfl, rfl, yes_ ?_⟩
        refine ⟨_, rfl, _, rfl, _, rfl, _, rfl, by show 3 ≤ sizeLine; decide, fun p np => ?_⟩
        refine hC2 _ _ (sm_new np) ?_
        rw [take_snoc er2, List.map_append]
        exact (z2.mono fun _ _ => RuleAt.imm (sm_imm (sm_new np))).snoc ⟨p, rfl, .of upd_same⟩
      · intro H2 acc2 s2 eD2 z2
        have e2 : us.length = row.length := hq.length
        rw [e2, List.take_length] at z2
        refine ⟨D2, acc2, rfl, .inl ⟨.of eD2, fun l nl => ?_⟩⟩
        refine hC _ _ (s2.trans (sm_new nl)) ?_
        rw [take_snoc er, List.map_append]
        exact (z.mono fun _ _ => RowAt.imm (sm_imm (s2.trans (sm_new nl)))).snoc ⟨l, acc2, rfl, .of upd_same, z2.mono fun _ _ => RuleAt.imm (sm_imm (sm_new nl))⟩
    · intro H' acc s1 eD z
      have e2 : vs.length = M.length := hp.length
      rw [e2, List.take_length] at z
      refine ⟨D, acc, rfl, .inl ⟨.of eD, fun l nl => ?_⟩⟩
      exact q _ _ (s1.trans (sm_new nl)) ⟨l, acc, rfl, .of upd_same, z.mono fun _ _ => RowAt.imm (sm_imm (sm_new nl))⟩
end
end K79

namespace K79
open PySem PySem.Spec PyProof.Rows L2
section
variable {P : Program} {w : World} {K : PySem.W.Frag} {mg : Str → Option Value} {base : Heap}
theorem sc_h_init : FnScope ["self", "machine"] ["self", "machine"] (defScope s_History_init) := ⟨rfl, rfl, rfl, by decide +kernel, rfl, by decide +kernel, by decide +kernel⟩
theorem ok_h_init (T : Txt w K mg) : Has P w K mg base CX0 3 ("History", some "__init__") ["self", "machine"] (spHInit K) := by
  obtain ⟨fd, F⟩ := T.fd 15 (d := d_History_init) rfl rfl rfl
  obtain ⟨⟨fd1, G1, b1⟩, kp1⟩ := ok_r_init (P := P) (base := base) T
  refine ⟨⟨fd, F.ok sc_h_init (fun vs H Q E h => ?_) (fun cdv A outer s H vs Q E hr h => ?_), F.bindsN fun _ _ _ _ _ _ us hl => match us, hl with | [_, _], _ => rfl⟩, F.kp⟩
  · obtain ⟨h, dx, m, M, k, rfl, _⟩ := h
    rfl
  · obtain ⟨h, dx, m, M, k, rfl, ho, hm, wf, q⟩ := h
    refine ⟨_, PSs.nox (pss_cons (ps_fld (pv 0) (pe_make T.k_Runner G1 hr (by rfl) T.g_Runner b1 .nil pass0 (pa_cons (pv 1) pa_nil)) rfl)
      (pss_cons (ps_fld (pv 0) (pe_lst (pa_cons pe_int pa_nil)) rfl) (pss_cons (ps_fld (pv 0) (pe_lst (pa_cons pe_int pa_nil)) rfl)
      (pss_one (ps_fld (pv 0) (pe_lst (pa_cons (pe_tup (pa_cons pe_int (pa_cons (pe_tup pa_nil) pa_nil))) pa_nil)) rfl))))), ?_⟩
    -- self.runner = Runner(machine)
    refine ⟨_, rfl, fun p dxr np ndx nepd => ?_⟩
    have s0 : Same H (upd (upd H dxr (.own p)) p (.ins (He.ga K "Runner") dxr [])) := (sm_new ndx).trans (sm_new ((upd_ne nepd.symm).trans np))
    refine ⟨p, dxr, m, M, rfl, upd_same, hm.imm (sm_imm s0), fun d H1 nd r1 f1 => ⟨rfl, ?_⟩⟩
    have s1 : Same H H1 := ((Fr.drop (S := []) (sm_fr s0) f1 np)).same
    have nd0 := s0.free nd
    have hp : h ≠ p := ne_of_none ho np
    have hd : h ≠ d := ne_of_none ho nd0
    refine ⟨_, rfl, h, _, dx, _, rfl, s1 _ _ ho, T.c_History, T.n_History_runner, by show 0 < 1000; decide, ?_⟩
    rw [i_h_runner]
    generalize eA : upd H1 h (.ins (He.ga K "History") dx [("runner", .ref p)]) = HA
    have oA : HA h = some (.ins (He.ga K "History") dx [("runner", .ref p)]) := by rw [← eA]; exact upd_same
    have fA : Fr [h] H1 HA := by rw [← eA]; exact Fr.set (by simp)
    -- self.states = [0]
    refine ⟨by show 1 ≤ sizeLine; decide, fun ls nls => ⟨_, rfl, h, _, dx, _, rfl, (upd_ne (ne_of_none oA nls)).trans oA, T.c_History, T.n_History_states, by show 1 < 1000; decide, ?_⟩⟩
    have hls : h ≠ ls := ne_of_none oA nls
    rw [i_h_states]
    generalize eB : upd (upd HA ls (.lst [.int 0])) h (.ins (He.ga K "History") dx [("runner", .ref p), ("states", .ref ls)]) = HB
    have oB : HB h = some (.ins (He.ga K "History") dx [("runner", .ref p), ("states", .ref ls)]) := by rw [← eB]; exact upd_same
    have lB : HB ls = some (.lst [.int 0]) := by rw [← eB, upd_ne hls.symm]; exact upd_same
    have fB : Fr [h] HA HB := by rw [← eB]; exact (Fr.new nls).trans (Fr.set (by simp))
    -- self.places = [0]
    refine ⟨by show 1 ≤ sizeLine; decide, fun lp nlp => ⟨_, rfl, h, _, dx, _, rfl, (upd_ne (ne_of_none oB nlp)).trans oB, T.c_History, T.n_History_places, by show 2 < 1000; decide, ?_⟩⟩
    have hlp : h ≠ lp := ne_of_none oB nlp
    rw [i_h_places]
    generalize eC : upd (upd HB lp (.lst [.int 0])) h (.ins (He.ga K "History") dx [("runner", .ref p), ("states", .ref ls), ("places", .ref lp)]) = HC
    have oC : HC h = some (.ins (He.ga K "History") dx [("runner", .ref p), ("states", .ref ls), ("places", .ref lp)]) := by rw [← eC]; exact upd_same
    have lC : HC lp = some (.lst [.int 0]) := by rw [← eC, upd_ne hlp.symm]; exact upd_same
    have fC : Fr [h] HB HC := by rw [← eC]; exact (Fr.new nlp).trans (Fr.set (by simp))
    -- self.tapes = [(0, ())]
    refine ⟨by show 0 ≤ sizeLine; decide, fun e ne => ⟨by show 2 ≤ sizeLine; decide, fun t nt => ⟨by show 1 ≤ sizeLine; decide, fun lt nlt => ?_⟩⟩⟩
    generalize eD : upd (upd HC e (.tup [])) t (.tup [.int 0, .ref e]) = HD at nlt ⊢
    have tD : HD t = some (.tup [.int 0, .ref e]) := by rw [← eD]; exact upd_same
    have eDe : HD e = some (.tup []) := by rw [← eD, upd_ne (ne_of_none upd_same nt)]; exact upd_same
    have fD : Fr [h] HC HD := by rw [← eD]; exact (Fr.new ne).trans (Fr.new nt)
    have oD : HD h = some (.ins (He.ga K "History") dx [("runner", .ref p), ("states", .ref ls), ("places", .ref lp)]) := by
      rw [← eD, upd_ne (ne_of_none ((upd_ne (ne_of_none oC ne)).trans oC) nt), upd_ne (ne_of_none oC ne)]
      exact oC
    have hlt : h ≠ lt := ne_of_none oD nlt
    refine ⟨_, rfl, h, _, dx, _, rfl, (upd_ne hlt).trans oD, T.c_History, T.n_History_tapes, by show 3 < 1000; decide, ?_⟩
    rw [i_h_tapes]
    generalize eE : upd (upd HD lt (.lst [.ref t])) h (.ins (He.ga K "History") dx [("runner", .ref p), ("states", .ref ls), ("places", .ref lp), ("tapes", .ref lt)]) = HE
    have oE : HE h = some (.ins (He.ga K "History") dx [("runner", .ref p), ("states", .ref ls), ("places", .ref lp), ("tapes", .ref lt)]) := by rw [← eE]; exact upd_same
    have lE : HE lt = some (.lst [.ref t]) := by rw [← eE, upd_ne hlt.symm]; exact upd_same
    have fE : Fr [h] HD HE := by rw [← eE]; exact (Fr.new nlt).trans (Fr.set (by simp))
    have fCE : Fr [h] HC HE := fD.trans fE
    have fBE : Fr [h] HB HE := fC.trans fCE
    have f1E : Fr [h] H1 HE := fA.trans (fB.trans fBE)
    have ht : t ≠ h := fun z => by
      rw [z, oD] at tD
      cases tD
    have he : e ≠ h := fun z => by
      rw [z, oD] at eDe
      cases eDe
    have so : ∀ z ∈ [h], Soft (H1 z) := fun z hz => by
      rw [List.mem_singleton.mp hz, s1 _ _ ho]
      trivial
    have lsB : ls ≠ lp := ne_of_none lB nlp
    have lsD : HD ls = some (.lst [.int 0]) := fD _ _ (fC _ _ lB (by simp [hls.symm])) (by simp [hls.symm])
    have lpD : HD lp = some (.lst [.int 0]) := fD _ _ lC (by simp [hlp.symm])
    have n1 : H ls = none := s1.free (by
      cases z : H1 ls with
      | none => rfl
      | some u =>
        have := fA _ _ z (by simp [hls.symm])
        rw [nls] at this
        cases this)
    have back : ∀ {x : Addr} {X : Hp}, Fr [h] H1 X → x ≠ h → X x = none → H x = none := fun {x X} f nx z => s1.free (by
      cases y : H1 x with
      | none => rfl
      | some u =>
        have := f _ _ y (by simp [nx])
        rw [z] at this
        cases this)
    refine q ⟨h, dx, p, dxr, d, ls, lp, lt⟩ HE rfl (fun x hx => ?_) ⟨oE, r1.fr f1E so (by simp [hp.symm]) (by simp [hd.symm]), fBE _ _ lB (by simp [hls.symm]), fCE _ _ lC (by simp [hlp.symm]), ⟨[.ref t], lE, rfl, fun i v hv => ?_⟩, hp, lsB, ne_of_none lsD nlt, ne_of_none lpD nlt⟩ ((sm_fr s1).trans f1E)
    · have hx : x = p ∨ x = d ∨ x = ls ∨ x = lp ∨ x = lt := by
        unfold Fp.mu at hx
        simpa only [List.mem_cons, List.not_mem_nil, or_false] using hx
      rcases hx with z | z | z | z | z <;> rw [z]
      · exact np
      · exact nd0
      · exact n1
      · exact back (fA.trans fB) hlp.symm nlp
      · exact back (fA.trans (fB.trans (fC.trans fD))) hlt.symm nlt
    · cases i with
      | zero =>
        have hv := Option.some.inj hv
        subst hv
        exact ⟨t, e, rfl, .of (fE _ _ tD (by simp [ht])), .of (fE _ _ eDe (by simp [he]))⟩
      | succ i => cases hv
theorem sc_h_grow : FnScope ["self"] ["self"] (defScope s_History_grow) := ⟨rfl, rfl, rfl, by decide +kernel, rfl, by decide +kernel, by decide +kernel⟩
theorem ok_h_grow (T : Txt w K mg) : Has P w K mg base CX0 3 ("History", some "grow") ["self"] (spGrow K) := by
  obtain ⟨fd, F⟩ := T.fd 16 (d := d_History_grow) rfl rfl rfl
  obtain ⟨⟨fd1, G1, b1⟩, kp1⟩ := ok_r_step (P := P) (base := base) T
  obtain ⟨⟨fd2, G2, b2⟩, kp2⟩ := ok_r_cells (P := P) (base := base) T
  obtain ⟨tS, gS⟩ := T.i_STOP
  refine ⟨⟨fd, F.ok sc_h_grow (fun vs H Q E h => ?_) (fun cdv A outer s H vs Q E hr h => ?_), F.bindsN fun _ _ _ _ _ _ us hl => match us, hl with | [_], _ => rfl⟩, F.kp⟩
  · obtain ⟨S, m, M, k, n, rfl, _⟩ := h
    rfl
  · obtain ⟨S, m, M, k, n, rfl, hi, wf, h0, hn, q⟩ := h
    have hr1 := hr.mono (by decide : 1 ≤ 2)
    refine ⟨_, PSs.nox (pss_cons (ps_expr (pe_meth0 (pe_fld (pv 0) rfl) T.c_Runner T.m_Runner_step G1 hr b1 .nil pass0))
      (pss_cons (ps_expr (pe_bm PySem.F.plainAttrs_list PySem.F.slot_list_append PySem.F.type_list_append mt_append (pe_fld (pv 0) rfl) (pa_cons (pe_fld (pe_fld (pv 0) rfl) rfl) pa_nil)))
      (pss_cons (ps_expr (pe_bm PySem.F.plainAttrs_list PySem.F.slot_list_append PySem.F.type_list_append mt_append (pe_fld (pv 0) rfl) (pa_cons (pe_fld (pe_fld (pv 0) rfl) rfl) pa_nil)))
      (pss_cons (ps_expr (pe_bm PySem.F.plainAttrs_list PySem.F.slot_list_append PySem.F.type_list_append mt_append (pe_fld (pv 0) rfl) (pa_cons (pe_meth0 (pe_fld (pv 0) rfl) T.c_Runner T.m_Runner_cells G2 hr1 b2 .nil pass0) pa_nil)))
      (pss_one (ps_ret (pe_cmpR op_ne (pe_fld (pe_fld (pv 0) rfl) rfl) (pe_glob (v := .int (-1)) rfl gS ⟨_, rfl⟩) (nomark _)))))))), ?_⟩
    obtain ⟨vs, ht, hvl, hvc⟩ := hi.t
    obtain ⟨nhp, nsx, nst, nxt⟩ := hi.ne
    have npd := hi.r.ne
    have nps : S.p ≠ S.ls := ne_of hi.r.o hi.s (fun z => by cases z)
    have npx : S.p ≠ S.lp := ne_of hi.r.o hi.x (fun z => by cases z)
    have npt : S.p ≠ S.lt := ne_of hi.r.o ht (fun z => by cases z)
    have nds : S.d ≠ S.ls := ne_of hi.r.d hi.s (fun z => by cases z)
    have ndx : S.d ≠ S.lp := ne_of hi.r.d hi.x (fun z => by cases z)
    have ndt : S.d ≠ S.lt := ne_of hi.r.d ht (fun z => by cases z)
    have nhd : S.h ≠ S.d := ne_of hi.o hi.r.d (fun z => by cases z)
    have nhs : S.h ≠ S.ls := ne_of hi.o hi.s (fun z => by cases z)
    have nhx : S.h ≠ S.lp := ne_of hi.o hi.x (fun z => by cases z)
    have nht : S.h ≠ S.lt := ne_of hi.o ht (fun z => by cases z)
    have ok := cf_ok wf n
    have e1 : runc M (n + 1) ini = stp M (cf M n) := by
      rw [runc_succ, if_neg]
      intro z
      rw [show (cf M n).s = -1 from z] at h0
      exact absurd h0 (by decide)
    refine ⟨_, rfl, S.h, _, S.dx, _, _, rfl, hi.o, T.c_History, T.n_History_runner, l_h_runner, S.p, S.dxr, _, rfl, hi.r.o, m_r_step, S.p, S.dxr, S.d, m, M, k, _, rfl, hi.r, ok, h0, Nat.le_trans (cf_len M n) (by omega), fun H1 r1 f1 => ?_⟩
    rw [← e1] at r1
    have o1 := f1 _ _ hi.o (by simp [nhp, nhd])
    have s1 := f1 _ _ hi.s (by simp [nps.symm, nds.symm])
    have x1 := f1 _ _ hi.x (by simp [npx.symm, ndx.symm])
    have t1 := f1 _ _ ht (by simp [npt.symm, ndt.symm])
    -- self.states.append(self.runner.state)
    refine ⟨_, rfl, S.h, _, S.dx, _, _, rfl, o1, T.c_History, T.n_History_states, l_h_states, .inl ⟨rfl, _, .of s1⟩, _, rfl, S.h, _, S.dx, _, _, rfl, o1, T.c_History, T.n_History_runner, l_h_runner, S.p, _, S.dxr, _, _, rfl, r1.o, T.c_Runner, T.n_Runner_state, l_r_state,
      S.ls, _, _, rfl, rfl, s1, by rw [List.length_map, List.length_range]; exact small1000 (by omega), ?_⟩
    rw [show ((List.range (n + 1)).map fun i => V.int (cf M i).s) ++ [V.int (cf M (n + 1)).s] = (List.range (n + 1 + 1)).map fun i => V.int (cf M i).s from rng_snoc.symm]
    generalize e2 : upd H1 S.ls (.lst ((List.range (n + 1 + 1)).map fun i => V.int (cf M i).s)) = H2
    have f2 : Fr [S.ls] H1 H2 := by rw [← e2]; exact Fr.set (by simp)
    have so2 : ∀ z ∈ [S.ls], Soft (H1 z) := fun z hz => by
      rw [List.mem_singleton.mp hz, s1]
      trivial
    have r2 := r1.fr f2 so2 (by simp [nps]) (by simp [nds])
    have o2 := f2 _ _ o1 (by simp [nhs])
    have s2 : H2 S.ls = some (.lst ((List.range (n + 1 + 1)).map fun i => V.int (cf M i).s)) := by rw [← e2]; exact upd_same
    have x2 := f2 _ _ x1 (by simp [nsx.symm])
    have t2 := f2 _ _ t1 (by simp [nst.symm])
    -- self.places.append(self.runner.place)
    refine ⟨_, rfl, S.h, _, S.dx, _, _, rfl, o2, T.c_History, T.n_History_places, l_h_places, .inl ⟨rfl, _, .of x2⟩, _, rfl, S.h, _, S.dx, _, _, rfl, o2, T.c_History, T.n_History_runner, l_h_runner, S.p, _, S.dxr, _, _, rfl, r2.o, T.c_Runner, T.n_Runner_place, l_r_place,
      S.lp, _, _, rfl, rfl, x2, by rw [List.length_map, List.length_range]; exact small1000 (by omega), ?_⟩
    rw [show ((List.range (n + 1)).map fun i => V.int (cf M i).x) ++ [V.int (cf M (n + 1)).x] = (List.range (n + 1 + 1)).map fun i => V.int (cf M i).x from rng_snoc.symm]
    generalize e3 : upd H2 S.lp (.lst ((List.range (n + 1 + 1)).map fun i => V.int (cf M i).x)) = H3
    have f3 : Fr [S.lp] H2 H3 := by rw [← e3]; exact Fr.set (by simp)
    have so3 : ∀ z ∈ [S.lp], Soft (H2 z) := fun z hz => by
      rw [List.mem_singleton.mp hz, x2]
      trivial
    have r3 := r2.fr f3 so3 (by simp [npx]) (by simp [ndx])
    have o3 := f3 _ _ o2 (by simp [nhx])
    have s3 := f3 _ _ s2 (by simp [nsx])
    have x3 : H3 S.lp = some (.lst ((List.range (n + 1 + 1)).map fun i => V.int (cf M i).x)) := by rw [← e3]; exact upd_same
    have t3 := f3 _ _ t2 (by simp [nxt.symm])
    -- self.tapes.append(self.runner.cells())
    have hb := (cf_bd wf (n + 1)).1
    refine ⟨_, rfl, S.h, _, S.dx, _, _, rfl, o3, T.c_History, T.n_History_tapes, l_h_tapes, .inl ⟨rfl, _, .of t3⟩, _, rfl, S.h, _, S.dx, _, _, rfl, o3, T.c_History, T.n_History_runner, l_h_runner, S.p, S.dxr, _, rfl, r3.o, m_r_cells,
      S.p, S.dxr, S.d, m, M, _, rfl, r3, Nat.le_trans (cf_len M (n + 1)) (by omega), fun z hz => by have := hb z hz; omega, fun v H4 s4 hv => ?_⟩
    refine ⟨S.lt, vs, v, rfl, rfl, s4 _ _ t3, by rw [hvl]; exact small1000 (by omega), ?_⟩
    generalize e5 : upd H4 S.lt (.lst (vs ++ [v])) = H5
    have f5 : Fr [S.lt] H4 H5 := by rw [← e5]; exact Fr.set (by simp)
    have so5 : ∀ z ∈ [S.lt], Soft (H4 z) := fun z hz => by
      rw [List.mem_singleton.mp hz, s4 _ _ t3]
      trivial
    have r5 := (r3.same s4).fr f5 so5 (by simp [npt]) (by simp [ndt])
    have o5 := f5 _ _ (s4 _ _ o3) (by simp [nht])
    have s5 := f5 _ _ (s4 _ _ s3) (by simp [nst])
    have x5 := f5 _ _ (s4 _ _ x3) (by simp [nxt])
    have t5 : H5 S.lt = some (.lst (vs ++ [v])) := by rw [← e5]; exact upd_same
    have i5 := f5.imm so5
    have i3 : Imm H H4 := ((f1.imm hi.r.soft).trans (f2.imm so2)).trans ((f3.imm so3).trans (sm_imm s4))
    have ff : Fr S.mu H H5 := (f1.mono (by simp [Fp.mu])).trans ((f2.mono (by simp [Fp.mu])).trans ((f3.mono (by simp [Fp.mu])).trans ((sm_fr s4).trans (f5.mono (by simp [Fp.mu])))))
    refine ⟨_, rfl, S.h, _, S.dx, _, _, rfl, o5, T.c_History, T.n_History_runner, l_h_runner, S.p, _, S.dxr, _, _, rfl, r5.o, T.c_Runner, T.n_Runner_state, l_r_state, rfl, ?_⟩
    rw [dec_int]
    refine q H5 ⟨o5, r5, s5, x5, ⟨vs ++ [v], t5, by rw [List.length_append, hvl]; rfl, fun i u hu => ?_⟩, hi.ne⟩ ff
    by_cases hlt : i < n + 1
    · rw [List.getElem?_append_left (by omega)] at hu
      exact (hvc i u hu).imm (i3.trans i5)
    · have hlen := (List.getElem?_eq_some_iff.mp hu).1
      rw [List.length_append, hvl] at hlen
      have hlen : i < n + 1 + 1 := hlen
      have ei : i = n + 1 := by omega
      rw [ei, List.getElem?_append_right (by omega), hvl, Nat.sub_self] at hu
      have hu := Option.some.inj hu
      subst hu
      rw [ei]
      exact hv.imm i5
end
end K79

namespace K79
open PySem PySem.Spec PyProof.Rows L2
theorem atI_nt {xs : List V} {n : Nat} {v : V} (h : xs[n]? = some v) : atI xs (n : Int) = some v := atI_nat h
section
variable {P : Program} {w : World} {K : PySem.W.Frag} {mg : Str → Option Value} {base : Heap}
theorem cel_bd {M : Mach} {k : Nat} (wf : Wf M k) {i n : Nat} (hi : i ≤ n) (hn : n ≤ 100) : -100 ≤ (cel M i).1 ∧ (cel M i).1 ≤ 100 ∧ ((cel M i).2.length : Int) ≤ 201 := by
  have hb := ((cf_bd wf i).mono (B' := 100) (by omega)).1
  obtain ⟨h1, h2, h3⟩ := cellsM_bd (B := 100) (by decide) hb
  exact ⟨h1, h2, h3⟩
theorem HiAt.tape {H : Hp} {S : Fp} {m : V} {M : Mach} {n : Nat} (h : HiAt K H S m M n) {i : Nat} (hi : i ≤ n) : ∃ vs v, H S.lt = some (.lst vs) ∧ vs[i]? = some v ∧ CellsAt K H v (cel M i).1 (cel M i).2 := by
  obtain ⟨vs, ht, hl, hc⟩ := h.t
  have hi2 : i < vs.length := by omega
  exact ⟨vs, vs[i], ht, List.getElem?_eq_getElem hi2, hc i _ (List.getElem?_eq_getElem hi2)⟩
theorem sc_h_repeats : FnScope ["self", "first", "second", "least", "distance"] ["self", "first", "second", "least"] (defScope s_History_repeats) := ⟨rfl, rfl, rfl, by decide +kernel, rfl, by decide +kernel, by decide +kernel⟩
theorem ok_h_repeats (T : Txt w K mg) : Has P w K mg base CX0 2 ("History", some "repeats") ["self", "first", "second", "least"] (spRep K) := by
  obtain ⟨fd, F⟩ := T.fd 17 (d := d_History_repeats) rfl rfl rfl
  obtain ⟨⟨fd1, G1, b1⟩, kp1⟩ := ok_tail (P := P) (base := base) T
  refine ⟨⟨fd, F.ok sc_h_repeats (fun vs H Q E h => ?_) (fun cdv A outer s H vs Q E hr h => ?_), F.bindsN fun _ _ _ _ _ _ us hl => match us, hl with | [_, _, _, _], _ => rfl⟩, F.kp⟩
  · obtain ⟨S, m, M, k, n, a, b, l, rfl, _⟩ := h
    rfl
  · obtain ⟨S, m, M, k, n, a, b, l, rfl, hi, wf, hn, ha, hb, l0, l1, q⟩ := h
    refine ⟨_, PSs.nox (pss_cons (ps_if (pt_cmpR op_ne (pe_ix ix_list (pe_fld (pv 0) rfl) (pv 1) (fun _ _ => rfl)) (pe_ix ix_list (pe_fld (pv 0) rfl) (pv 2) (fun _ _ => rfl)) (nomark _)) (pss_one (ps_ret pe_bl)) pss_nil)
      (pss_cons (ps_set (i := 4) sc_h_repeats.nd rfl (.inl rfl) (pe_op op_sub (pe_ix ix_list (pe_fld (pv 0) rfl) (pv 2) (fun _ _ => rfl)) (pe_ix ix_list (pe_fld (pv 0) rfl) (pv 1) (fun _ _ => rfl))))
      (pss_cons (ps_if (pt_cmpR op_lt (pv 4) pe_int (nomark _)) (pss_one (ps_ret pe_bl)) pss_nil)
      (pss_one (ps_ret (pe_cmpR (op_eqD hr.units) (pe_call G1 hr (by rfl) T.g_tail_runner kp1 b1 .nil pass0 (pa_cons (pe_ix ix_list (pe_fld (pv 0) rfl) (pv 1) (fun _ _ => rfl)) (pa_cons (pv 3) pa_nil)))
        (pe_call G1 hr (by rfl) T.g_tail_runner kp1 b1 .nil pass0 (pa_cons (pe_ix ix_list (pe_fld (pv 0) rfl) (pv 2) (fun _ _ => rfl)) (pa_cons (pe_op op_add (pv 3) (pv 4)) pa_nil))) (nomark _))))))), ?_⟩
    have es : ∀ i, i ≤ n → atI ((List.range (n + 1)).map fun i => V.int (cf M i).s) (i : Int) = some (.int (cf M i).s) := fun i h => atI_nt (rng_at h)
    have ex : ∀ i, i ≤ n → atI ((List.range (n + 1)).map fun i => V.int (cf M i).x) (i : Int) = some (.int (cf M i).x) := fun i h => atI_nt (rng_at h)
    -- self.states[first] != self.states[second]
    refine ⟨_, rfl, S.h, _, S.dx, _, _, rfl, hi.o, T.c_History, T.n_History_states, l_h_states, _, rfl, S.ls, _, (a : Int), _, rfl, rfl, .of hi.s, es a ha, _, rfl, S.h, _, S.dx, _, _, rfl, hi.o, T.c_History, T.n_History_states, l_h_states, _, rfl, S.ls, _, (b : Int), _, rfl, rfl, .of hi.s, es b hb, rfl, _, rfl, ?_⟩
    rw [dec_int]
    refine ite2 (fun e => ?_) (fun e => ?_)
    · have e : ¬ (cf M a).s = (cf M b).s := fun z => by
        rw [decide_eq_true z] at e
        cases e
      have er : repM M a b l = false := by
        unfold repM
        rw [if_neg e]
      have := q H (Same.refl H)
      rw [er] at this
      exact this
    · have e : (cf M a).s = (cf M b).s := by
        by_cases z : (cf M a).s = (cf M b).s
        · exact z
        · rw [decide_eq_false z] at e
          exact absurd rfl e
      -- distance
      refine ⟨_, rfl, S.h, _, S.dx, _, _, rfl, hi.o, T.c_History, T.n_History_places, l_h_places, _, rfl, S.lp, _, (b : Int), _, rfl, rfl, .of hi.x, ex b hb, _, rfl, S.h, _, S.dx, _, _, rfl, hi.o, T.c_History, T.n_History_places, l_h_places, _, rfl, S.lp, _, (a : Int), _, rfl, rfl, .of hi.x, ex a ha, _, _, rfl, rfl, ?_⟩
      refine ⟨_, rfl, _, 0, rfl, rfl, _, rfl, ?_⟩
      refine ite2 (fun e2 => ?_) (fun e2 => ?_)
      · have e2 := of_decide_eq_true e2
        have er : repM M a b l = false := by
          unfold repM
          rw [if_pos e, if_pos e2]
        have := q H (Same.refl H)
        rw [er] at this
        exact this
      · have e2 : ¬ (cf M b).x - (cf M a).x < 0 := fun z => e2 (decide_eq_true z)
        have er : repM M a b l = decide (tailM (cel M a).1 (cel M a).2 l = tailM (cel M b).1 (cel M b).2 (l + ((cf M b).x - (cf M a).x))) := by
          unfold repM
          rw [if_pos e, if_neg e2]
        obtain ⟨vs1, v1, ht1, hv1, hc1⟩ := hi.tape ha
        have c1 := cel_bd wf ha hn
        have c2 := cel_bd wf hb hn
        refine ⟨_, rfl, S.h, _, S.dx, _, _, rfl, hi.o, T.c_History, T.n_History_tapes, l_h_tapes, _, rfl, S.lt, _, (a : Int), _, rfl, rfl, .of ht1, atI_nt hv1, _, rfl, v1, _, _, l, rfl, hc1, by omega, by omega, fun x1 H1 s1 h1 => ?_⟩
        have hi1 := hi.same s1
        obtain ⟨vs2, v2, ht2, hv2, hc2⟩ := hi1.tape hb
        refine ⟨_, rfl, S.h, _, S.dx, _, _, rfl, hi1.o, T.c_History, T.n_History_tapes, l_h_tapes, _, rfl, S.lt, _, (b : Int), _, rfl, rfl, .of ht2, atI_nt hv2, _, rfl, _, rfl, _, _, rfl, rfl, v2, _, _, _, rfl, hc2, by omega, by omega, fun x2 H2 s2 h2 => ?_⟩
        refine eq_ints (h1.imm (sm_imm s2)) h2 ?_
        have := q H2 (s1.trans s2)
        rw [er] at this
        exact this
theorem sc_last : FnScope ["history", "second", "least", "first"] ["history", "second"] (defScope s_last_repeated) := ⟨rfl, rfl, rfl, by decide +kernel, rfl, by decide +kernel, by decide +kernel⟩
theorem ok_last (T : Txt w K mg) : Has P w K mg base CX0 3 ("last_repeated", none) ["history", "second"] (spLast K) := by
  obtain ⟨fd, F⟩ := T.fd 19 (d := d_last_repeated) rfl rfl rfl
  obtain ⟨⟨fd1, G1, b1⟩, kp1⟩ := ok_h_repeats (P := P) (base := base) T
  refine ⟨⟨fd, F.ok sc_last (fun vs H Q E h => ?_) (fun cdv A outer s H vs Q E hr h => ?_), F.bindsN fun _ _ _ _ _ _ us hl => match us, hl with | [_, _], _ => rfl⟩, F.kp⟩
  · obtain ⟨S, m, M, k, n, b, rfl, _⟩ := h
    rfl
  · obtain ⟨S, m, M, k, n, b, rfl, hi, wf, hn, hb, q⟩ := h
    refine ⟨_, PSs.nox (pss_cons (ps_set (i := 2) sc_last.nd rfl (.inl rfl) (pe_ix ix_list (pe_fld (pv 0) rfl) (pv 1) (fun _ _ => rfl)))
      (pss_cons (ps_for PassesOwn.never rfl (pi_range3 (by rfl) T.z_range (pa_cons (pe_op op_sub (pv 1) pe_int) (pa_cons (pe_un un_neg pe_int) (pa_cons (pe_un un_neg pe_int) pa_nil)))) (pg_name (i := 3) sc_last.nd rfl (.inl rfl))
        (pss_cons (ps_set (i := 2) sc_last.nd rfl (.inl rfl) (pe_callB (call_min2 rfl) (by rfl) T.z_min (by decide +kernel) (pa_cons (pv 2) (pa_cons (pe_ix ix_list (pe_fld (pv 0) rfl) (pv 3) (fun _ _ => rfl)) pa_nil))))
        (pss_one (ps_if (pt_val (pe_meth (pv 0) T.c_History T.m_History_repeats G1 hr b1 .nil pass0 (pa_cons (pv 3) (pa_cons (pv 1) (pa_cons (pv 2) pa_nil))))) (pss_one (ps_ret (pv 3))) pss_nil))))
      (pss_one (ps_ret pe_non)))), ?_⟩
    have ex : ∀ i, i ≤ n → atI ((List.range (n + 1)).map fun i => V.int (cf M i).x) (i : Int) = some (.int (cf M i).x) := fun i h => atI_nt (rng_at h)
    have xb : ∀ i, i ≤ n → -100 ≤ (cf M i).x ∧ (cf M i).x ≤ 100 := fun i h => ((cf_bd wf i).mono (B' := 100) (by omega)).2
    refine ⟨_, rfl, S.h, _, S.dx, _, _, rfl, hi.o, T.c_History, T.n_History_places, l_h_places, _, rfl, S.lp, _, (b : Int), _, rfl, rfl, .of hi.x, ex b hb, ?_⟩
    have hrg : RgC ((b : Int) - 1) (-1) (-1) b := by
      have h := RgC.neg (i := (b : Int) - 1) (j := -1) (by omega) (by omega) (by decide) (by decide)
      rw [show ((b : Int) - 1 - -1).toNat = b by omega] at h
      exact h
    refine ⟨_, rfl, _, _, rfl, rfl, 1, rfl, 1, rfl, _, _, _, b, rfl, hrg, ?_⟩
    refine for_rangeC (lo := (b : Int) - 1) (c := -1) (n := b) (fun i σ H' => ∃ l y, σ = [some (.ref S.h), some (.int (b : Int)), some (.int l), y] ∧ Same H H' ∧ lastGo M b (b - i) l = lastM M b ∧ -100 ≤ l ∧ l ≤ 100) ⟨_, none, rfl, Same.refl H, rfl, xb b hb⟩ ?_ ?_
    · rintro i σ H' hib ⟨l, y, rfl, s1, el, l0, l1⟩
      have hi1 := hi.same s1
      obtain ⟨j, ej⟩ : ∃ j, b - i = j + 1 := ⟨b - i - 1, by omega⟩
      have hjn : j ≤ n := by omega
      have ez : (b : Int) - 1 + (i : Int) * -1 = (j : Int) := by omega
      have hx := xb j hjn
      rw [ej] at el
      rw [ez]
      have ego : lastGo M b (j + 1) l = if repM M j b (if (cf M j).x < l then (cf M j).x else l) = true then some j else lastGo M b j (if (cf M j).x < l then (cf M j).x else l) := rfl
      rw [ego] at el
      refine ⟨_, rfl, _, rfl, S.h, _, S.dx, _, _, rfl, hi1.o, T.c_History, T.n_History_places, l_h_places, _, rfl, S.lp, _, (j : Int), _, rfl, rfl, .of hi1.x, ex j hjn, l, _, rfl, ?_⟩
      generalize hl' : (if (cf M j).x < l then (cf M j).x else l) = l' at el ⊢
      have hl'b : -100 ≤ l' ∧ l' ≤ 100 := by
        rw [← hl']
        split <;> omega
      refine ⟨_, rfl, S.h, S.dx, _, rfl, hi1.o, m_h_repeats, _, rfl, _, rfl, _, rfl, S, m, M, k, n, j, b, l', rfl, hi1, wf, hn, hjn, hb, by omega, by omega, fun H2 s2 => ⟨_, rfl, ?_⟩⟩
      cases er : repM M j b l' with
      | true =>
        refine iteT ⟨_, rfl, ?_⟩
        rw [er, if_pos rfl] at el
        have := q H2 (s1.trans s2)
        rw [← el] at this
        exact this
      | false =>
        refine iteF ⟨l', _, rfl, s1.trans s2, ?_, hl'b⟩
        rw [er, if_neg Bool.false_ne_true] at el
        rw [show b - (i + 1) = j by omega]
        exact el
    · rintro σ H' ⟨l, y, rfl, s1, el, _⟩
      rw [Nat.sub_self] at el
      have := q H' s1
      rw [← el] at this
      exact this
end
end K79

namespace K79
open PySem PySem.Spec PyProof.Rows L2
def upd1 (o : Option (Nat × Bool)) (l : Option Nat) (r : Bool) : Option (Nat × Bool) := match l with
  | none => o
  | some a => match o with
    | none => some (a, r)
    | some (a0, r0) => if a0 < a then some (a, r) else some (a0, r0)
def findGo (M : Mach) : Nat → Nat → Option (Nat × Nat × Bool)
  | 0, _ => none
  | f + 1, b => if (cf M b).s = -1 then none else if (cf (mirM M) b).s = -1 then none else match upd1 (upd1 none (lastM M b) true) (lastM (mirM M) b) false with
    | some (a, r) => some (a, b, r)
    | none => findGo M f (b + 1)
def findM (M : Mach) (n : Nat) : Option (Nat × Nat × Bool) := findGo M n 1
def FoundAt (K : PySem.W.Frag) (H : Hp) (v : V) (o : Option (Nat × Bool)) (b : Nat) : Prop := match o with
  | none => v = .non
  | some (a, r) => ∃ t, v = .ref t ∧ SqT K H t [.int (a : Int), .int (b : Int), .bl r]
def LoopAt (K : PySem.W.Frag) (H : Hp) (v : V) (o : Option (Nat × Nat × Bool)) : Prop := match o with
  | none => v = .non
  | some (a, b, r) => ∃ t, v = .ref t ∧ SqT K H t [.int (a : Int), .int (b : Int), .bl r]
theorem FoundAt.imm {K : PySem.W.Frag} {H H' : Hp} {v : V} {o : Option (Nat × Bool)} {b : Nat} (i : Imm H H') (h : FoundAt K H v o b) : FoundAt K H' v o b := by
  cases o with
  | none => exact h
  | some q =>
    obtain ⟨a, r⟩ := q
    obtain ⟨t, e, h⟩ := h
    exact ⟨t, e, i.sqt h⟩
def spFind (K : PySem.W.Frag) : Sp := fun vs H Q _ => ∃ (m : V) (M : Mach) (k n : Nat), vs = [m, .int (n : Int)] ∧ MachAt K H m M ∧ Wf M k ∧ n ≤ 100 ∧ ∀ v H', Same H H' → LoopAt K H' v (findM M n) → Q v H'
/-- one side's turn -/
def tSide (K : PySem.W.Frag) : TS :=
  tSeq (tIfS (tNot (tB (tMeth (He.ga K "History") "grow" (spGrow K) [] E0 (tVar 5) tNil))) (tRet (tC .non)) tNext)
  (tSeq (tAsg (tCall (spLast K) [] E0 (tCons (tVar 5) (tCons (tVar 3) tNil))) (gName 7))
  (tIfS (tAnd (tTest (tOp rNotN (tVar 7) (tC .non))) (tOr (tTest (tOp rIsN (tVar 4) (tC .non))) (tTest (tOp (rI0 fun i j => .bl (decide (j < i))) (tVar 7) (tOp (rIxT K) (tVar 4) (tC (.int 0)))))))
    (tAsg (tTup (tCons (tVar 7) (tCons (tVar 3) (tCons (tVar 6) tNil)))) (gName 4)) tNext))
theorem side_turn {K : PySem.W.Frag} {nx : L2.St → Hp → Prop} {rt : VK} {bk ct : L2.St → Hp → Prop} {H : Hp} {S : Fp} {m' : V} {M' : Mach} {k i : Nat} {vm vc vl vf : V} {r : Bool} {y7 : Option V} {o : Option (Nat × Bool)} (hi : HiAt K H S m' M' i) (wf : Wf M' k) (h0 : 0 ≤ (cf M' i).s) (hn : i < 100)
    (hf : FoundAt K H vf o (i + 1)) (stop : ∀ H2, Fr S.mu H H2 → (cf M' (i + 1)).s = -1 → rt .non H2)
    (go : ∀ vf' y7' H2, Fr S.mu H H2 → HiAt K H2 S m' M' (i + 1) → ¬ (cf M' (i + 1)).s = -1 → FoundAt K H2 vf' (upd1 o (lastM M' (i + 1)) r) (i + 1) → nx [some vm, some vc, some vl, some (.int ((i + 1 : Nat) : Int)), some vf', some (.ref S.h), some (.bl r), y7'] H2) :
    tSide K ⟨nx, rt, bk, ct⟩ [some vm, some vc, some vl, some (.int ((i + 1 : Nat) : Int)), some vf, some (.ref S.h), some (.bl r), y7] H := by
  refine ⟨_, rfl, S.h, S.dx, _, rfl, hi.o, m_h_grow, S, m', M', k, i, rfl, hi, wf, h0, by omega, fun H1 hi1 f1 => ⟨_, rfl, ?_⟩⟩
  by_cases e : (cf M' (i + 1)).s = -1
  · rw [decide_eq_true e]
    exact iteT (stop H1 f1 e)
  · rw [decide_eq_false e]
    refine iteF ?_
    have fo1 := hf.imm (f1.imm hi.soft)
    refine ⟨_, rfl, _, rfl, S, m', M', k, i + 1, i + 1, rfl, hi1, wf, by omega, Nat.le_refl _, fun H2 s2 => ?_⟩
    have hi2 := hi1.same s2
    have fo2 := fo1.imm (sm_imm s2)
    have f2 : Fr S.mu H H2 := f1.trans (sm_fr s2)
    cases el : lastM M' (i + 1) with
    | none =>
      rw [el] at go
      refine ⟨_, rfl, rfl, _, rfl, ?_⟩
      refine iteF (iteF ?_)
      exact go vf (some .non) H2 f2 hi2 e fo2
    | some a =>
      rw [el] at go
      refine ⟨_, rfl, rfl, _, rfl, ?_⟩
      refine iteT ?_
      have fin : ∀ (H3 : Hp), Same H2 H3 → upd1 o (some a) r = some (a, r) →
          tAsg (tTup (tCons (tVar 7) (tCons (tVar 3) (tCons (tVar 6) tNil)))) (gName 4) ⟨nx, rt, bk, ct⟩ [some vm, some vc, some vl, some (.int ((i + 1 : Nat) : Int)), some vf, some (.ref S.h), some (.bl r), some (.int (a : Int))] H3 := fun H3 s3 eu => by
        refine ⟨_, rfl, _, rfl, _, rfl, by show 3 ≤ sizeLine; decide, fun p np => ?_⟩
        refine go (.ref p) _ _ (f2.trans ((sm_fr s3).trans (Fr.new np))) (hi2.same (s3.trans (sm_new np))) e ?_
        rw [eu]
        exact ⟨p, rfl, .of upd_same⟩
      cases o with
      | none =>
        have ev : vf = .non := fo2
        subst ev
        exact ⟨_, rfl, rfl, _, rfl, iteT (iteT (fin H2 (Same.refl H2) rfl))⟩
      | some q =>
        obtain ⟨a0, r0⟩ := q
        obtain ⟨t, rfl, ht⟩ := fo2
        refine ⟨_, rfl, rfl, _, rfl, iteF ?_⟩
        refine ⟨_, rfl, _, rfl, t, _, 0, _, rfl, rfl, ht, rfl, (a : Int), (a0 : Int), rfl, rfl, _, rfl, ?_⟩
        by_cases hlt : a0 < a
        · rw [decide_eq_true (show (a0 : Int) < (a : Int) by omega)]
          refine iteT (fin H2 (Same.refl H2) ?_)
          show (if a0 < a then some (a, r) else some (a0, r0)) = some (a, r)
          rw [if_pos hlt]
        · rw [decide_eq_false (show ¬ (a0 : Int) < (a : Int) by omega)]
          refine iteF ?_
          refine go (.ref t) _ H2 f2 hi2 e ?_
          rw [show upd1 (some (a0, r0)) (some a) r = some (a0, r0) by
            show (if a0 < a then some (a, r) else some (a0, r0)) = some (a0, r0)
            rw [if_neg hlt]]
          exact ⟨t, rfl, ht⟩
section
variable {P : Program} {w : World} {K : PySem.W.Frag} {mg : Str → Option Value} {base : Heap}
theorem sc_find : FnScope ["machine", "count", "sides", "second", "found", "history", "right", "first"] ["machine", "count"] (defScope s_find_loop) := ⟨rfl, rfl, rfl, by decide +kernel, rfl, by decide +kernel, by decide +kernel⟩
theorem ok_find (T : Txt w K mg) : Has P w K mg base CX0 5 ("find_loop", none) ["machine", "count"] (spFind K) := by
  obtain ⟨fd, F⟩ := T.fd 20 (d := d_find_loop) rfl rfl rfl
  obtain ⟨⟨fd1, G1, b1⟩, kp1⟩ := ok_h_init (P := P) (base := base) T
  obtain ⟨⟨fd2, G2, b2⟩, kp2⟩ := ok_mirrored (P := P) (base := base) T
  obtain ⟨⟨fd3, G3, b3⟩, kp3⟩ := ok_h_grow (P := P) (base := base) T
  obtain ⟨⟨fd4, G4, b4⟩, kp4⟩ := ok_last (P := P) (base := base) T
  refine ⟨⟨fd, F.ok sc_find (fun vs H Q E h => ?_) (fun cdv A outer s H vs Q E hr h => ?_), F.bindsN fun _ _ _ _ _ _ us hl => match us, hl with | [_, _], _ => rfl⟩, F.kp⟩
  · obtain ⟨m, M, k, n, rfl, _⟩ := h
    rfl
  · obtain ⟨m, M, k, n, rfl, hm, wf, hn, q⟩ := h
    have hr3 := hr.mono (by decide : 3 ≤ 4)
    have hr1 := hr.mono (by decide : 1 ≤ 4)
    refine ⟨_, PSs.nox (pss_cons (ps_set (i := 2) sc_find.nd rfl (.inl rfl) (pe_lst (pa_cons (pe_tup (pa_cons (pe_make T.k_History G1 hr (by rfl) T.g_History b1 .nil pass0 (pa_cons (pv 0) pa_nil)) (pa_cons pe_bl pa_nil)))
        (pa_cons (pe_tup (pa_cons (pe_make T.k_History G1 hr (by rfl) T.g_History b1 .nil pass0 (pa_cons (pe_call G2 hr1 (by rfl) T.g_mirrored kp2 b2 .nil pass0 (pa_cons (pv 0) pa_nil)) pa_nil)) (pa_cons pe_bl pa_nil))) pa_nil))))
      (pss_cons (ps_for PassesOwn.never rfl (pi_range2 rfl T.z_range (pa_cons pe_int (pa_cons (pe_op op_add (pv 1) pe_int) pa_nil))) (pg_name (i := 3) sc_find.nd rfl (.inl rfl))
        (pss_cons (ps_set (i := 4) sc_find.nd rfl (.inl rfl) pe_non)
        (pss_cons (ps_for PassesOwn.never rfl (pi_list (pv 2)) (pg_tup rfl (pgs_cons (pg_name (i := 5) sc_find.nd rfl (.inl rfl)) (pgs_cons (pg_name (i := 6) sc_find.nd rfl (.inl rfl)) pgs_nil)))
          (pss_cons (ps_if (pt_not (pt_val (pe_meth0 (pv 5) T.c_History T.m_History_grow G3 hr3 b3 .nil pass0))) (pss_one (ps_ret pe_non)) pss_nil)
          (pss_cons (ps_set (i := 7) sc_find.nd rfl (.inl rfl) (pe_call G4 hr3 (by rfl) T.g_last_repeated kp4 b4 .nil pass0 (pa_cons (pv 5) (pa_cons (pv 3) pa_nil))))
          (pss_one (ps_if (PW.pt (pw_and (pt_cmpR op_notN1 (pv 7) pe_non (nomark _)) (pw_and1 (PW.pt (pw_or (pt_cmpR op_isN1 (pv 4) pe_non (nomark _)) (pw_or1 (pt_cmpR op_gt (pv 7) (pe_ix ix_tup (pv 4) pe_int (fun _ _ => rfl)) (nomark _))))))))
            (pss_one (ps_set (i := 4) sc_find.nd rfl (.inl rfl) (pe_tup (pa_cons (pv 7) (pa_cons (pv 3) (pa_cons (pv 6) pa_nil)))))) pss_nil)))))
        (pss_one (ps_if (pt_cmpR op_notN1 (pv 4) pe_non (nomark _)) (pss_one (ps_ret (pv 4))) pss_nil)))))
      (pss_one (ps_ret pe_non)))), ?_⟩
    -- sides = [(History(machine), True), (History(mirrored(machine)), False)]
    refine ⟨_, rfl, fun h1 dx1 nh1 ndx1 ne1 => ?_⟩
    have sA : Same H (upd (upd H dx1 (.own h1)) h1 (.ins (He.ga K "History") dx1 [])) := (sm_new ndx1).trans (sm_new ((upd_ne ne1.symm).trans nh1))
    refine ⟨h1, dx1, m, M, k, rfl, upd_same, hm.imm (sm_imm sA), wf, fun S1 H1 e1 fr1 hi1 f1 => ⟨rfl, ?_⟩⟩
    subst e1
    have s1 : Same H H1 := (Fr.drop (S := []) (sm_fr sA) f1 nh1).same
    have fresh1 : ∀ z ∈ S1.mu, H z = none := fun z hz => sA.free (fr1 z hz)
    refine ⟨by show 2 ≤ sizeLine; decide, fun t1 nt1 => ?_⟩
    have hi1b := hi1.same (sm_new (o := .tup [.ref S1.h, .bl true]) nt1)
    have s1b := s1.trans (sm_new (o := .tup [.ref S1.h, .bl true]) nt1)
    generalize eB : upd H1 t1 (.tup [.ref S1.h, .bl true]) = HB at hi1b s1b ⊢
    have hT1 : HB t1 = some (.tup [.ref S1.h, .bl true]) := by rw [← eB]; exact upd_same
    refine ⟨_, rfl, m, M, k, rfl, hm.imm (sm_imm s1b), wf, fun m2 HC sC hm2 => fun h2 dx2 nh2 ndx2 ne2 => ?_⟩
    have sD : Same HC (upd (upd HC dx2 (.own h2)) h2 (.ins (He.ga K "History") dx2 [])) := (sm_new ndx2).trans (sm_new ((upd_ne ne2.symm).trans nh2))
    refine ⟨h2, dx2, m2, mirM M, k, rfl, upd_same, hm2.imm (sm_imm sD), mirM_wf wf, fun S2 H2 e2 fr2 hi2 f2 => ⟨rfl, ?_⟩⟩
    subst e2
    have s2 : Same HC H2 := (Fr.drop (S := []) (sm_fr sD) f2 nh2).same
    have fresh2 : ∀ z ∈ S2.mu, HC z = none := fun z hz => sD.free (fr2 z hz)
    have sBC := sC
    have hi1c := (hi1b.same sC)
    have fresh2' : ∀ z ∈ S2.mu, H z = none := fun z hz => (s1b.trans sC).free (fresh2 z hz)
    -- the two are apart
    have some1 : ∀ z ∈ S1.h :: S1.mu, ∃ u, HC z = some u := fun z hz => by
      obtain ⟨vs, ht, _⟩ := hi1c.t
      have hz : z = S1.h ∨ z = S1.p ∨ z = S1.d ∨ z = S1.ls ∨ z = S1.lp ∨ z = S1.lt := by
        unfold Fp.mu at hz
        simpa only [List.mem_cons, List.not_mem_nil, or_false] using hz
      rcases hz with e | e | e | e | e | e <;> rw [e]
      · exact ⟨_, hi1c.o⟩
      · exact ⟨_, hi1c.r.o⟩
      · exact ⟨_, hi1c.r.d⟩
      · exact ⟨_, hi1c.s⟩
      · exact ⟨_, hi1c.x⟩
      · exact ⟨_, ht⟩
    have apart : ∀ z ∈ S1.h :: S1.mu, z ∉ S2.h :: S2.mu := fun z hz hz2 => by
      obtain ⟨u, hu⟩ := some1 z hz
      have : HC z = none := by
        rcases List.mem_cons.mp hz2 with e | e
        · rw [e]
          exact nh2
        · exact fresh2 z e
      rw [hu] at this
      cases this
    have ap12 : ∀ z ∈ S1.h :: S1.mu, z ∉ S2.mu := fun z hz h => apart z hz (List.mem_cons_of_mem _ h)
    have ap21 : ∀ z ∈ S2.h :: S2.mu, z ∉ S1.mu := fun z hz h => apart z (List.mem_cons_of_mem _ h) hz
    refine ⟨by show 2 ≤ sizeLine; decide, fun t2 nt2 => ⟨by show 2 ≤ sizeLine; decide, fun sl nsl => ?_⟩⟩
    generalize eE : upd H2 t2 (.tup [.ref S2.h, .bl false]) = HE at nsl ⊢
    have s2E : Same H2 HE := by rw [← eE]; exact sm_new nt2
    have hT2 : HE t2 = some (.tup [.ref S2.h, .bl false]) := by rw [← eE]; exact upd_same
    have i1E := (hi1c.same s2).same s2E
    have i2E := hi2.same s2E
    have sHE : Same H HE := (s1b.trans sC).trans (s2.trans s2E)
    have hT1E : HE t1 = some (.tup [.ref S1.h, .bl true]) := s2E _ _ (s2 _ _ (sC _ _ hT1))
    generalize eF : upd HE sl (.lst [.ref t1, .ref t2]) = HF
    have sEF : Same HE HF := by rw [← eF]; exact sm_new nsl
    have hsl : HF sl = some (.lst [.ref t1, .ref t2]) := by rw [← eF]; exact upd_same
    have apS : ∀ (S : Fp) (mm : V) (MM : Mach) (nn : Nat), HiAt K HE S mm MM nn → sl ∉ S.mu := fun S mm MM nn hh hz => by
      obtain ⟨vs, ht, _⟩ := hh.t
      have hz : sl = S.p ∨ sl = S.d ∨ sl = S.ls ∨ sl = S.lp ∨ sl = S.lt := by
        unfold Fp.mu at hz
        simpa only [List.mem_cons, List.not_mem_nil, or_false] using hz
      rcases hz with e | e | e | e | e <;> rw [e] at nsl
      · rw [hh.r.o] at nsl; cases nsl
      · rw [hh.r.d] at nsl; cases nsl
      · rw [hh.s] at nsl; cases nsl
      · rw [hh.x] at nsl; cases nsl
      · rw [ht] at nsl; cases nsl
    have ns1 := apS S1 _ _ _ i1E
    have ns2 := apS S2 _ _ _ i2E
    have i1F := i1E.same sEF
    have i2F := i2E.same sEF
    have sHF := sHE.trans sEF
    have hT1F := sEF _ _ hT1E
    have hT2F := sEF _ _ hT2
    have st0 : ∀ M' : Mach, 0 ≤ (cf M' 0).s := fun M' => Int.le_refl _
    -- behind a side's turn all that was is as it was
    have keep1 : ∀ {S : Fp} {X Y : Hp}, (∀ z ∈ S.mu, H z = none) → Same H X → Fr S.mu X Y → Same H Y := fun {S X Y} fr sX f b o e => f b o (sX b o e) fun hz => by
      rw [fr b hz] at e
      cases e
    -- for second in range(1, count + 1)
    refine ⟨_, rfl, _, _, rfl, rfl, 1, (n : Int) + 1, rfl, ⟨by decide, by decide, by omega, by omega⟩, ?_⟩
    rw [show ((n : Int) + 1 - 1).toNat = n by omega]
    refine for_range (lo := 1) (n := n) (fun i σ H' => ∃ y3 y4 y5 y6 y7, σ = [some m, some (.int (n : Int)), some (.ref sl), y3, y4, y5, y6, y7] ∧ Same H H' ∧ H' sl = some (.lst [.ref t1, .ref t2]) ∧ H' t1 = some (.tup [.ref S1.h, .bl true]) ∧ H' t2 = some (.tup [.ref S2.h, .bl false]) ∧
      HiAt K H' S1 m M i ∧ HiAt K H' S2 m2 (mirM M) i ∧ 0 ≤ (cf M i).s ∧ 0 ≤ (cf (mirM M) i).s ∧ findGo M (n - i) (i + 1) = findM M n) ⟨none, none, none, none, none, rfl, sHF, hsl, hT1F, hT2F, i1F, i2F, st0 M, st0 _, rfl⟩ ?_ ?_
    · rintro i σ H' hi ⟨y3, y4, y5, y6, y7, rfl, sH, esl, et1, et2, g1, g2, p1, p2, eq⟩
      obtain ⟨j, ej⟩ : ∃ j, n - i = j + 1 := ⟨n - i - 1, by omega⟩
      rw [ej] at eq
      have ez : (1 : Int) + (i : Int) = ((i + 1 : Nat) : Int) := by omega
      rw [ez]
      have ego : findGo M (j + 1) (i + 1) = if (cf M (i + 1)).s = -1 then none else if (cf (mirM M) (i + 1)).s = -1 then none else match upd1 (upd1 none (lastM M (i + 1)) true) (lastM (mirM M) (i + 1)) false with
        | some (a, r) => some (a, i + 1, r)
        | none => findGo M j (i + 1 + 1) := rfl
      rw [ego] at eq
      refine ⟨_, rfl, sl, rfl, ⟨_, .of esl⟩, ?_⟩
      refine for_it (walk_list (K := K) (a := sl) (xs := [.ref t1, .ref t2])) (fun c σ H2 => ∃ vf y5 y6 y7 a1 a2 o, σ = [some m, some (.int (n : Int)), some (.ref sl), some (.int ((i + 1 : Nat) : Int)), some vf, y5, y6, y7] ∧ Same H H2 ∧ H2 sl = some (.lst [.ref t1, .ref t2]) ∧ H2 t1 = some (.tup [.ref S1.h, .bl true]) ∧ H2 t2 = some (.tup [.ref S2.h, .bl false]) ∧
        HiAt K H2 S1 m M a1 ∧ HiAt K H2 S2 m2 (mirM M) a2 ∧ FoundAt K H2 vf o (i + 1) ∧ ((c = 0 ∧ a1 = i ∧ a2 = i ∧ o = none) ∨ (c = 1 ∧ a1 = i + 1 ∧ a2 = i ∧ ¬ (cf M (i + 1)).s = -1 ∧ o = upd1 none (lastM M (i + 1)) true) ∨
          (c = 2 ∧ a1 = i + 1 ∧ a2 = i + 1 ∧ ¬ (cf M (i + 1)).s = -1 ∧ ¬ (cf (mirM M) (i + 1)).s = -1 ∧ o = upd1 (upd1 none (lastM M (i + 1)) true) (lastM (mirM M) (i + 1)) false)))
        ⟨.non, y5, y6, y7, i, i, none, rfl, sH, esl, et1, et2, g1, g2, rfl, .inl ⟨rfl, rfl, rfl, rfl⟩⟩ (fun c σ H2 _ ⟨_, _, _, _, _, _, _, _, _, e, _⟩ => .of e) ?_ ?_
      · rintro c x σ H2 H3 hc ⟨vf, z5, z6, z7, a1, a2, o, rfl, sH2, esl2, u1, u2, hh1, hh2, ff, hcase⟩ ⟨rfl, ex⟩
        rcases hcase with ⟨rfl, rfl, rfl, rfl⟩ | ⟨rfl, rfl, rfl, ns, rfl⟩ | ⟨rfl, _⟩
        · have ex := Option.some.inj ex
          subst ex
          refine ⟨t1, _, rfl, .of u1, rfl, _, _, rfl, _, _, rfl, rfl, ?_⟩
          refine side_turn hh1 wf p1 (by omega) ff (fun H4 f4 e4 => ?_) (fun vf' y7' H4 f4 hh4 e4 ff4 => ?_)
          · rw [if_pos e4] at eq
            have := q .non H4 (keep1 fresh1 sH2 f4)
            rw [← eq] at this
            exact this rfl
          · exact ⟨vf', _, _, _, _, _, _, rfl, keep1 fresh1 sH2 f4, f4 _ _ esl2 ns1, f4 _ _ u1 (fun z => by have := hh1.soft t1 z; rw [u1] at this; exact this), f4 _ _ u2 (fun z => by have := hh1.soft t2 z; rw [u2] at this; exact this), hh4, hh2.fr f4 hh1.soft ap21, ff4, .inr (.inl ⟨rfl, rfl, rfl, e4, rfl⟩)⟩
        · have ex := Option.some.inj ex
          subst ex
          refine ⟨t2, _, rfl, .of u2, rfl, _, _, rfl, _, _, rfl, rfl, ?_⟩
          refine side_turn hh2 (mirM_wf wf) p2 (by omega) ff (fun H4 f4 e4 => ?_) (fun vf' y7' H4 f4 hh4 e4 ff4 => ?_)
          · rw [if_neg ns, if_pos e4] at eq
            have := q .non H4 (keep1 fresh2' sH2 f4)
            rw [← eq] at this
            exact this rfl
          · exact ⟨vf', _, _, _, _, _, _, rfl, keep1 fresh2' sH2 f4, f4 _ _ esl2 ns2, f4 _ _ u1 (fun z => by have := hh2.soft t1 z; rw [u1] at this; exact this), f4 _ _ u2 (fun z => by have := hh2.soft t2 z; rw [u2] at this; exact this), hh1.fr f4 hh2.soft ap12, hh4, ff4, .inr (.inr ⟨rfl, rfl, rfl, ns, e4, rfl⟩)⟩
        · exact absurd (show 2 < 2 from hc) (by decide)
      · rintro σ H2 ⟨vf, z5, z6, z7, a1, a2, o, rfl, sH2, esl2, u1, u2, hh1, hh2, ff, hcase⟩
        rcases hcase with ⟨h, _⟩ | ⟨h, _⟩ | ⟨_, rfl, rfl, ns, ns2', rfl⟩
        · cases h
        · cases h
        rw [if_neg ns, if_neg ns2'] at eq
        generalize eo : upd1 (upd1 none (lastM M (i + 1)) true) (lastM (mirM M) (i + 1)) false = o at ff eq
        refine ⟨_, rfl, rfl, _, rfl, ?_⟩
        cases o with
        | none =>
          have ev : vf = .non := ff
          subst ev
          refine iteF ?_
          refine ⟨_, _, _, _, _, rfl, sH2, esl2, u1, u2, hh1, hh2, (cf_ok wf _).go ns, (cf_ok (mirM_wf wf) _).go ns2', ?_⟩
          rw [show n - (i + 1) = j by omega]
          exact eq
        | some r =>
          obtain ⟨a, r⟩ := r
          obtain ⟨t, rfl, ht⟩ := ff
          refine iteT ⟨_, rfl, ?_⟩
          have := q (.ref t) H2 sH2
          rw [← eq] at this
          exact this ⟨t, rfl, ht⟩
    · rintro σ H' ⟨y3, y4, y5, y6, y7, rfl, sH, _, _, _, _, _, _, _, eq⟩
      rw [Nat.sub_self] at eq
      have := q .non H' sH
      rw [← eq] at this
      exact this rfl
end
end K79

namespace K79
open PySem PySem.Spec PyProof.Rows L2
/-! ### is_loop -/
def lstM (N : Mach) (a : Nat) : Nat → Int
  | 0 => (cf N a).x
  | j + 1 => if (cf N (a + j + 1)).x < lstM N a j then (cf N (a + j + 1)).x else lstM N a j
def isLoopN (N : Mach) (a b : Nat) : Bool := if (cf N b).s = -1 then false else if (cf N b).s = (cf N a).s then (if (cf N b).x - (cf N a).x < 0 then false else
  decide (tailM (cel N a).1 (cel N a).2 (lstM N a (b - a)) = tailM (cel N b).1 (cel N b).2 (lstM N a (b - a) + ((cf N b).x - (cf N a).x)))) else false
def isLoopM (M : Mach) (a b : Nat) (r : Bool) : Bool := isLoopN (if r = true then M else mirM M) a b
def spIsLoop (K : PySem.W.Frag) : Sp := fun vs H Q _ => ∃ (m : V) (M : Mach) (k a b : Nat) (r : Bool), vs = [m, .int (a : Int), .int (b : Int), .bl r] ∧ MachAt K H m M ∧ Wf M k ∧ a ≤ b ∧ b ≤ 100 ∧ ∀ H', Same H H' → Q (.bl (isLoopM M a b r)) H'
structure HasN (P : Program) (w : World) (K : PySem.W.Frag) (mg : Str → Option Value) (base : Heap) (CX : CXT) (k : Nat) (at_ : Str × Option Str) (ps : List Str) (n : Nat) (ks : List Str) (sp : Sp) : Prop where
  ex : ∃ fd, FnOk P w K mg base CX k (He.fAd K at_) fd ps sp ∧ KBn K fd ps n ks (fun us ws => us ++ ws) (fun vs zs => vs ++ zs)
  kp : PySem.W.keepIn K (.ref (He.fAd K at_)) = true
section
variable {P : Program} {w : World} {K : PySem.W.Frag} {mg : Str → Option Value} {base : Heap}
theorem lst_bd {N : Mach} {k : Nat} (wf : Wf N k) (a : Nat) : ∀ j, a + j ≤ 100 → -100 ≤ lstM N a j ∧ lstM N a j ≤ 100
  | 0, h => ((cf_bd wf a).mono (B' := 100) (by omega)).2
  | j + 1, h => by
    have h1 := lst_bd wf a j (by omega)
    have h2 := ((cf_bd wf (a + j + 1)).mono (B' := 100) (by omega)).2
    unfold lstM
    split
    · exact h2
    · exact h1
theorem sc_is_loop : FnScope ["machine", "first", "second", "right", "runner", "state", "place", "before", "least", "_", "distance"] ["machine", "first", "second", "right"] (defScope s_is_loop) := ⟨rfl, rfl, rfl, by decide +kernel, rfl, by decide +kernel, by decide +kernel⟩
theorem stop_abs {N : Mach} {i b : Nat} (h : i ≤ b) (e : (cf N i).s = -1) : (cf N b).s = -1 := by
  rw [show cf N b = cf N i from runc_done h e]
  exact e
theorem ok_is_loop (T : Txt w K mg) : HasN P w K mg base CX0 4 ("is_loop", none) ["machine", "first", "second", "right"] 3 ["right"] (spIsLoop K) := by
  obtain ⟨fd, F⟩ := T.fd 18 (d := d_is_loop) rfl rfl rfl
  obtain ⟨⟨fd1, G1, b1⟩, kp1⟩ := ok_mirrored (P := P) (base := base) T
  obtain ⟨⟨fd2, G2, b2⟩, kp2⟩ := ok_r_init (P := P) (base := base) T
  obtain ⟨⟨fd3, G3, b3⟩, kp3⟩ := ok_r_run (P := P) (base := base) T
  obtain ⟨⟨fd4, G4, b4⟩, kp4⟩ := ok_r_cells (P := P) (base := base) T
  obtain ⟨⟨fd5, G5, b5⟩, kp5⟩ := ok_r_step (P := P) (base := base) T
  obtain ⟨⟨fd6, G6, b6⟩, kp6⟩ := ok_tail (P := P) (base := base) T
  obtain ⟨⟨fd7, G7, b7⟩, kp7⟩ := ok_r_tail (P := P) (base := base) T
  obtain ⟨tS, gS⟩ := T.i_STOP
  refine ⟨⟨fd, F.ok sc_is_loop (fun vs H Q E h => ?_) (fun cdv A outer s H vs Q E hr h => ?_), ⟨fun s us ws _ l1 l2 => ?_, fun r1 r2 => r1.append r2⟩⟩, F.kp⟩
  · obtain ⟨m, M, k, a, b, r, rfl, _⟩ := h
    rfl
  · obtain ⟨m, M, k, a, b, r, rfl, hm, wf, hab, hb, q⟩ := h
    have hr1 := hr.mono (by decide : 1 ≤ 3)
    have hr2 := hr.mono (by decide : 2 ≤ 3)
    refine ⟨_, PSs.nox (pss_cons (ps_if (pt_not (pt_val (pv 3))) (pss_one (ps_set (i := 0) sc_is_loop.nd rfl (.inl rfl) (pe_call G1 hr1 (by rfl) T.g_mirrored kp1 b1 .nil pass0 (pa_cons (pv 0) pa_nil)))) pss_nil)
      (pss_cons (ps_set (i := 4) sc_is_loop.nd rfl (.inl rfl) (pe_make T.k_Runner G2 hr2 (by rfl) T.g_Runner b2 .nil pass0 (pa_cons (pv 0) pa_nil)))
      (pss_cons (ps_if (pt_val (pe_meth (pv 4) T.c_Runner T.m_Runner_run G3 hr b3 .nil pass0 (pa_cons (pv 1) pa_nil))) (pss_one (ps_ret pe_bl)) pss_nil)
      (pss_cons (ps_set (i := 5) sc_is_loop.nd rfl (.inl rfl) (pe_fld (pv 4) rfl))
      (pss_cons (ps_set (i := 6) sc_is_loop.nd rfl (.inl rfl) (pe_fld (pv 4) rfl))
      (pss_cons (ps_set (i := 7) sc_is_loop.nd rfl (.inl rfl) (pe_meth0 (pv 4) T.c_Runner T.m_Runner_cells G4 hr1 b4 .nil pass0))
      (pss_cons (ps_set (i := 8) sc_is_loop.nd rfl (.inl rfl) (pv 6))
      (pss_cons (ps_for PassesOwn.never rfl (pi_range1 rfl T.z_range (pa_cons (pe_op op_sub (pv 2) (pv 1)) pa_nil)) (pg_name (i := 9) sc_is_loop.nd rfl (.inl rfl))
        (pss_cons (ps_expr (pe_meth0 (pv 4) T.c_Runner T.m_Runner_step G5 hr2 b5 .nil pass0))
        (pss_cons (ps_if (pt_cmpR op_eq (pe_fld (pv 4) rfl) (pe_glob (v := .int (-1)) rfl gS ⟨_, rfl⟩) (nomark _)) (pss_one (ps_ret pe_bl)) pss_nil)
        (pss_one (ps_set (i := 8) sc_is_loop.nd rfl (.inl rfl) (pe_callB (call_min2 rfl) (by rfl) T.z_min (by decide +kernel) (pa_cons (pv 8) (pa_cons (pe_fld (pv 4) rfl) pa_nil))))))))
      (pss_cons (ps_set (i := 10) sc_is_loop.nd rfl (.inl rfl) (pe_op op_sub (pe_fld (pv 4) rfl) (pv 6)))
      (pss_cons (ps_if (PW.pt (pw_or (pt_cmpR op_ne (pe_fld (pv 4) rfl) (pv 5) (nomark _)) (pw_or1 (pt_cmpR op_lt (pv 10) pe_int (nomark _))))) (pss_one (ps_ret pe_bl)) pss_nil)
      (pss_one (ps_ret (pe_cmpR (op_eqD hr.units) (pe_call G6 hr1 (by rfl) T.g_tail_runner kp6 b6 .nil pass0 (pa_cons (pv 7) (pa_cons (pv 8) pa_nil)))
        (pe_meth (pv 4) T.c_Runner T.m_Runner_tail G7 hr2 b7 .nil pass0 (pa_cons (pe_op op_add (pv 8) (pv 10)) pa_nil)) (nomark _)))))))))))))), ?_⟩
    -- behind the first if the machine is N
    obtain ⟨N, hN⟩ : ∃ N : Mach, N = if r = true then M else mirM M := ⟨_, rfl⟩
    have wN : Wf N k := by
      rw [hN]
      split
      · exact wf
      · exact mirM_wf wf
    have eq : isLoopM M a b r = isLoopN N a b := by rw [hN]; rfl
    rw [eq] at q
    suffices main : ∀ (m' : V) (H1 : Hp), Same H H1 → MachAt K H1 m' N → tSeq _ _ { nx := fun _ H' => Q .non H', rt := Q } [some m', some (.int (a : Int)), some (.int (b : Int)), some (.bl r), none, none, none, none, none, none, none] H1 by
      refine ⟨_, rfl, r, rfl, ?_⟩
      cases r with
      | true =>
        refine iteF ?_
        refine main m H (Same.refl H) ?_
        rw [hN]
        exact hm
      | false =>
        refine iteT ?_
        refine ⟨_, rfl, m, M, k, rfl, hm, wf, fun v H1 s1 hv => ?_⟩
        refine main v H1 s1 ?_
        rw [hN]
        exact hv
    intro m' H1 s1 hm1
    -- runner = Runner(machine)
    refine ⟨_, rfl, fun p dx np ndx nepd => ?_⟩
    have s0 : Same H1 (upd (upd H1 dx (.own p)) p (.ins (He.ga K "Runner") dx [])) := (sm_new ndx).trans (sm_new ((upd_ne nepd.symm).trans np))
    refine ⟨p, dx, m', N, rfl, upd_same, hm1.imm (sm_imm s0), fun d H2 nd r2 f2 => ⟨rfl, ?_⟩⟩
    have s2 : Same H1 H2 := (Fr.drop (S := []) (sm_fr s0) f2 np).same
    have nd0 := s0.free nd
    have keep : ∀ {X Y : Hp}, Same H X → Fr [p, d] X Y → Same H Y := fun {X Y} sX f c o e => f c o (sX c o e) fun hz => by
      have e1 := s1 c o e
      rcases List.mem_cons.mp hz with z | z
      · rw [z, np] at e1
        cases e1
      · rw [List.mem_singleton.mp z, nd0] at e1
        cases e1
    -- if runner.run(first): return False
    refine ⟨_, rfl, p, dx, _, rfl, r2.o, m_r_run, _, rfl, p, dx, d, m', N, k, ini, (a : Int), rfl, r2, Ok.ini wN, by omega, by omega, by show 0 ≤ 10000; decide, fun H3 r3 f3 => ⟨_, rfl, ?_⟩⟩
    rw [Int.toNat_natCast] at r3 ⊢
    have s3 : Same H H3 := keep (s1.trans s2) f3
    by_cases ea : (cf N a).s = -1
    · rw [decide_eq_true ea]
      refine iteT ?_
      have := q H3 s3
      rw [show isLoopN N a b = false by
        unfold isLoopN
        rw [if_pos (stop_abs hab ea)]] at this
      exact this
    rw [decide_eq_false ea]
    refine iteF ?_
    -- state, place, before, least
    refine ⟨_, rfl, p, _, dx, _, _, rfl, r3.o, T.c_Runner, T.n_Runner_state, l_r_state, ?_⟩
    refine ⟨_, rfl, p, _, dx, _, _, rfl, r3.o, T.c_Runner, T.n_Runner_place, l_r_place, ?_⟩
    have hbd := (cf_bd wN a).1
    refine ⟨_, rfl, p, dx, _, rfl, r3.o, m_r_cells, p, dx, d, m', N, _, rfl, r3, Nat.le_trans (cf_len N a) (by omega), fun z hz => by have := hbd z hz; omega, fun vb H4 s4 hvb => ?_⟩
    refine ⟨_, rfl, ?_⟩
    refine ⟨_, rfl, _, rfl, _, _, rfl, rfl, (b : Int) - (a : Int), rfl, by omega, by omega, ?_⟩
    rw [show ((b : Int) - (a : Int)).toNat = b - a by omega]
    refine for_range (lo := 0) (n := b - a) (fun i σ H' => ∃ y9, σ = [some m', some (.int (a : Int)), some (.int (b : Int)), some (.bl r), some (.ref p), some (.int (cf N a).s), some (.int (cf N a).x), some vb, some (.int (lstM N a i)), y9, none] ∧ Same H H' ∧ CellsAt K H' vb (cel N a).1 (cel N a).2 ∧
      RnAt K H' p dx d m' N (cf N (a + i)) ∧ ¬ (cf N (a + i)).s = -1) ⟨none, rfl, s3.trans s4, hvb, r3.same s4, ea⟩ ?_ ?_
    · rintro i σ H' hi ⟨y9, rfl, sH, hc, rr, ns⟩
      have ok := cf_ok wN (a + i)
      have e1 : runc N (a + i + 1) ini = stp N (cf N (a + i)) := by
        rw [runc_succ, if_neg ns]
      refine ⟨_, rfl, p, dx, _, rfl, rr.o, m_r_step, p, dx, d, m', N, k, _, rfl, rr, ok, ok.go ns, Nat.le_trans (cf_len N (a + i)) (by omega), fun H5 r5 f5 => ?_⟩
      rw [← e1] at r5
      have s5 := keep sH f5
      have hc5 := hc.imm (f5.imm rr.soft)
      refine ⟨_, rfl, p, _, dx, _, _, rfl, r5.o, T.c_Runner, T.n_Runner_state, l_r_state, rfl, _, rfl, ?_⟩
      rw [dec_int]
      refine ite2 (fun e => ?_) (fun e => ?_)
      · have e := of_decide_eq_true e
        have := q H5 s5
        rw [show isLoopN N a b = false by
          unfold isLoopN
          rw [if_pos (stop_abs (i := a + i + 1) (by omega) e)]] at this
        exact this
      · have e : ¬ (cf N (a + i + 1)).s = -1 := fun z => e (decide_eq_true z)
        refine ⟨_, rfl, _, rfl, p, _, dx, _, _, rfl, r5.o, T.c_Runner, T.n_Runner_place, l_r_place, _, _, rfl, ?_⟩
        exact ⟨_, rfl, s5, hc5, r5, e⟩
    · rintro σ H' ⟨y9, rfl, sH, hc, rr, ns⟩
      rw [show a + (b - a) = b by omega] at rr ns
      have hl := lst_bd wN a (b - a) (by omega)
      have c1 := cel_bd wN hab hb
      have hbb := (cf_bd wN b).1
      have xa := ((cf_bd wN a).mono (B' := 100) (by omega)).2
      have xb := ((cf_bd wN b).mono (B' := 100) (by omega)).2
      refine ⟨_, rfl, p, _, dx, _, _, rfl, rr.o, T.c_Runner, T.n_Runner_place, l_r_place, _, rfl, _, _, rfl, rfl, ?_⟩
      refine ⟨_, rfl, p, _, dx, _, _, rfl, rr.o, T.c_Runner, T.n_Runner_state, l_r_state, _, rfl, rfl, _, rfl, ?_⟩
      rw [dec_int]
      by_cases e : (cf N b).s = (cf N a).s
      · rw [decide_eq_true e]
        refine iteF ?_
        refine ⟨_, rfl, _, _, rfl, rfl, _, rfl, ?_⟩
        refine ite2 (fun e2 => ?_) (fun e2 => ?_)
        · have e2 := of_decide_eq_true e2
          have := q H' sH
          rw [show isLoopN N a b = false by
            unfold isLoopN
            rw [if_neg ns, if_pos e, if_pos e2]] at this
          exact this
        · have e2 : ¬ (cf N b).x - (cf N a).x < 0 := fun z => e2 (decide_eq_true z)
          refine ⟨_, rfl, _, rfl, vb, _, _, _, rfl, hc, by omega, by omega, fun x1 H6 s6 h1 => ?_⟩
          have r6 := rr.same s6
          refine ⟨_, rfl, p, dx, _, rfl, r6.o, m_r_tail, _, rfl, _, rfl, _, _, rfl, rfl, p, dx, d, m', N, _, _, rfl, r6, Nat.le_trans (cf_len N b) (by omega), fun z hz => by have := hbb z hz; omega, by omega, fun x2 H7 s7 h2 => ?_⟩
          refine eq_ints (h1.imm (sm_imm s7)) h2 ?_
          have := q H7 (sH.trans (s6.trans s7))
          rw [show isLoopN N a b = decide (tailM (cel N a).1 (cel N a).2 (lstM N a (b - a)) = tailM (cel N b).1 (cel N b).2 (lstM N a (b - a) + ((cf N b).x - (cf N a).x))) by
            unfold isLoopN
            rw [if_neg ns, if_pos e, if_neg e2]] at this
          exact this
      · rw [decide_eq_false e]
        refine iteT (iteT ?_)
        have := q H' sH
        rw [show isLoopN N a b = false by
          unfold isLoopN
          rw [if_neg ns, if_neg e]] at this
        exact this
  · obtain ⟨oc, od, dV, kV, doc, pm, an, cdv, ct, osl, rfl, lk, hcd, hD, hK⟩ := F.ex
    rcases hD with ⟨_, rfl⟩ | ⟨e, _⟩
    · match us, ws, l1, l2 with
      | [u1, u2, u3], [w1], _, _ => exact .of_eq rfl
    · exact absurd rfl e
end
end K79

namespace K79
open PySem PySem.Spec PyProof.Rows L2
/-! ### evidence -/
inductive Evd where
  | stop (n : Int)
  | loop (a b : Nat) (r : Bool)
def EvAt (K : PySem.W.Frag) (H : Hp) (v : V) : Option Evd → Prop
  | none => v = .non
  | some (.stop n) => ∃ t, v = .ref t ∧ SqT K H t [.str "stop", .int n]
  | some (.loop a b r) => ∃ t, v = .ref t ∧ SqT K H t [.str "loop", .int (a : Int), .int (b : Int), .bl r]
theorem EvAt.imm {K : PySem.W.Frag} {H H' : Hp} {v : V} {o : Option Evd} (i : Imm H H') (h : EvAt K H v o) : EvAt K H' v o := by
  match o, h with
  | none, h => exact h
  | some (.stop n), ⟨t, e, h⟩ => exact ⟨t, e, i.sqt h⟩
  | some (.loop a b r), ⟨t, e, h⟩ => exact ⟨t, e, i.sqt h⟩
theorem EvAt.ref {K : PySem.W.Frag} {H : Hp} {v : V} : ∀ {e : Evd}, EvAt K H v (some e) → ∃ t, v = .ref t
  | .stop _, ⟨t, e, _⟩ => ⟨t, e⟩
  | .loop _ _ _, ⟨t, e, _⟩ => ⟨t, e⟩
def stopM (M : Mach) (n : Nat) : Option Evd := if (cf M n).s = -1 then some (.stop (cf M n).n) else none
def loopM (M : Mach) (n : Nat) : Option Evd := match findM M n with
  | none => none
  | some (a, b, r) => some (.loop a b r)
def decM (M : Mach) : Option Evd := match stopM M 500 with
  | some e => some e
  | none => loopM M 40
def spTryStop (K : PySem.W.Frag) : Sp := fun vs H Q _ => ∃ (m : V) (M : Mach) (k n : Nat), vs = [m, .int (n : Int)] ∧ MachAt K H m M ∧ Wf M k ∧ n ≤ 10000 ∧ ∀ v H', Same H H' → EvAt K H' v (stopM M n) → Q v H'
def spTryLoop (K : PySem.W.Frag) : Sp := fun vs H Q _ => ∃ (m : V) (M : Mach) (k n : Nat), vs = [m, .int (n : Int)] ∧ MachAt K H m M ∧ Wf M k ∧ n ≤ 100 ∧ ∀ v H', Same H H' → EvAt K H' v (loopM M n) → Q v H'
def spDecide (K : PySem.W.Frag) : Sp := fun vs H Q _ => ∃ (m : V) (M : Mach) (k : Nat) (e : Evd), vs = [m] ∧ MachAt K H m M ∧ Wf M k ∧ decM M = some e ∧ ∀ v H', Same H H' → EvAt K H' v (some e) → Q v H'
theorem fun_ne {K : PySem.W.Frag} {x1 q1 x2 q2 : Str} {p1 p2 : Arguments} {b1 b2 : List Stmt} {s1 s2 : Scope} {d1 d2 : List V} {k1 k2 : List (Str × V)} {f1 f2 : Addr} {fd1 fd2 : FuncData} (F1 : FunD K x1 q1 p1 b1 s1 d1 k1 f1 fd1) (F2 : FunD K x2 q2 p2 b2 s2 d2 k2 f2 fd2) (h : x1 ≠ x2) : f1 ≠ f2 := by
  obtain ⟨_, _, _, _, _, _, _, _, _, _, e1, l1, _⟩ := F1.ex
  obtain ⟨_, _, _, _, _, _, _, _, _, _, e2, l2, _⟩ := F2.ex
  intro e
  rw [e, l2] at l1
  have l1 := Option.some.inj l1
  injection l1 with _ _ l1 _
  injection l1 with l1
  rw [e1, e2] at l1
  exact h (congrArg FuncData.name l1).symm
def rKd (K : PySem.W.Frag) (d : Addr) : R2 := fun x y H Q => ∃ (z : Str) (u0 : Value) (v0 : V), x = .ref d ∧ y = .str z ∧ PySem.W.nsIn K d z = some (some u0) ∧ RelV v0 u0 ∧ Q v0 H
theorem pe_kd {X : Cx} {d : Addr} {es : Array DictEntry} {n : Nat} {o i : Expr} {td ty : TE} {pos : Pos} (D : KDict X.K X.w d es n) (ho : PE X o td) (hi : PE X i ty) (hs : NoSl i) : PE X (.Subscript o i pos) (tOp (rKd X.K d) td ty) := by
  refine ⟨fun pins s σ H Q I h => ?_⟩
  refine subD_of PySem.F.slot_dict_getitem.lookup hs (thn (ho.run pins s σ H _ I h) fun u s1 ⟨x, H1, I1, rx, q1⟩ => thn (hi.run pins s1 σ H1 _ I1 q1) fun iv s2 ⟨y, H2, I2, ry, q2⟩ => ?_)
  have hx : x = .ref d := by
    obtain ⟨_, _, _, e, _⟩ := q2
    exact e
  subst hx
  obtain rfl : u = Value.ref d := rx
  exact ⟨kd_type D I2, op_item_kd D pins s2 σ H2 (.ref d) y (.ref d) iv Q I2 rfl ry q2⟩
section
variable {P : Program} {w : World} {K : PySem.W.Frag} {mg : Str → Option Value} {base : Heap}
theorem sc_try_stop : FnScope ["machine", "count", "runner"] ["machine", "count"] (defScope s_try_stop) := ⟨rfl, rfl, rfl, by decide +kernel, rfl, by decide +kernel, by decide +kernel⟩
theorem ok_try_stop (T : Txt w K mg) : Has P w K mg base CX0 4 ("try_stop", none) ["machine", "count"] (spTryStop K) := by
  obtain ⟨fd, F⟩ := T.fd 21 (d := d_try_stop) rfl rfl rfl
  obtain ⟨⟨fd2, G2, b2⟩, kp2⟩ := ok_r_init (P := P) (base := base) T
  obtain ⟨⟨fd3, G3, b3⟩, kp3⟩ := ok_r_run (P := P) (base := base) T
  refine ⟨⟨fd, F.ok sc_try_stop (fun vs H Q E h => ?_) (fun cdv A outer s H vs Q E hr h => ?_), F.bindsN fun _ _ _ _ _ _ us hl => match us, hl with | [_, _], _ => rfl⟩, F.kp⟩
  · obtain ⟨m, M, k, n, rfl, _⟩ := h
    rfl
  · obtain ⟨m, M, k, n, rfl, hm, wf, hn, q⟩ := h
    have hr2 := hr.mono (by decide : 2 ≤ 3)
    refine ⟨_, PSs.nox (pss_cons (ps_set (i := 2) sc_try_stop.nd rfl (.inl rfl) (pe_make T.k_Runner G2 hr2 (by rfl) T.g_Runner b2 .nil pass0 (pa_cons (pv 0) pa_nil)))
      (pss_cons (ps_if (pt_val (pe_meth (pv 2) T.c_Runner T.m_Runner_run G3 hr b3 .nil pass0 (pa_cons (pv 1) pa_nil))) (pss_one (ps_ret (pe_tup (pa_cons pe_str (pa_cons (pe_fld (pv 2) rfl) pa_nil))))) pss_nil)
      (pss_one (ps_ret pe_non)))), ?_⟩
    refine ⟨_, rfl, fun p dx np ndx nepd => ?_⟩
    have s0 : Same H (upd (upd H dx (.own p)) p (.ins (He.ga K "Runner") dx [])) := (sm_new ndx).trans (sm_new ((upd_ne nepd.symm).trans np))
    refine ⟨p, dx, m, M, rfl, upd_same, hm.imm (sm_imm s0), fun d H2 nd r2 f2 => ⟨rfl, ?_⟩⟩
    have s2 : Same H H2 := (Fr.drop (S := []) (sm_fr s0) f2 np).same
    have nd0 := s0.free nd
    refine ⟨_, rfl, p, dx, _, rfl, r2.o, m_r_run, _, rfl, p, dx, d, m, M, k, ini, (n : Int), rfl, r2, Ok.ini wf, by omega, by omega, by show 0 ≤ 10000; decide, fun H3 r3 f3 => ⟨_, rfl, ?_⟩⟩
    rw [Int.toNat_natCast] at r3 ⊢
    have s3 : Same H H3 := fun c o e => f3 c o (s2 c o e) fun hz => by
      rcases List.mem_cons.mp hz with z | z
      · rw [z, np] at e
        cases e
      · rw [List.mem_singleton.mp z, nd0] at e
        cases e
    by_cases e : (cf M n).s = -1
    · rw [decide_eq_true e]
      refine iteT ?_
      refine ⟨_, rfl, p, _, dx, _, _, rfl, r3.o, T.c_Runner, T.n_Runner_steps, l_r_steps, by show 2 ≤ sizeLine; decide, fun t nt => ?_⟩
      refine q _ _ (s3.trans (sm_new nt)) ?_
      unfold stopM
      rw [if_pos e]
      exact ⟨t, rfl, .of upd_same⟩
    · rw [decide_eq_false e]
      refine iteF ?_
      refine q _ _ s3 ?_
      unfold stopM
      rw [if_neg e]
      rfl
theorem sc_try_loop : FnScope ["machine", "count", "found"] ["machine", "count"] (defScope s_try_loop) := ⟨rfl, rfl, rfl, by decide +kernel, rfl, by decide +kernel, by decide +kernel⟩
theorem ok_try_loop (T : Txt w K mg) : Has P w K mg base CX0 6 ("try_loop", none) ["machine", "count"] (spTryLoop K) := by
  obtain ⟨fd, F⟩ := T.fd 22 (d := d_try_loop) rfl rfl rfl
  obtain ⟨⟨fd2, G2, b2⟩, kp2⟩ := ok_find (P := P) (base := base) T
  refine ⟨⟨fd, F.ok sc_try_loop (fun vs H Q E h => ?_) (fun cdv A outer s H vs Q E hr h => ?_), F.bindsN fun _ _ _ _ _ _ us hl => match us, hl with | [_, _], _ => rfl⟩, F.kp⟩
  · obtain ⟨m, M, k, n, rfl, _⟩ := h
    rfl
  · obtain ⟨m, M, k, n, rfl, hm, wf, hn, q⟩ := h
    refine ⟨_, PSs.nox (pss_cons (ps_set (i := 2) sc_try_loop.nd rfl (.inl rfl) (pe_call G2 hr (by rfl) T.g_find_loop kp2 b2 .nil pass0 (pa_cons (pv 0) (pa_cons (pv 1) pa_nil))))
      (pss_cons (ps_if (pt_cmpR op_isN1 (pv 2) pe_non (nomark _)) (pss_one (ps_ret pe_non)) pss_nil)
      (pss_one (ps_ret (pe_op op_catA (pe_tup (pa_cons pe_str pa_nil)) (pv 2)))))), ?_⟩
    refine ⟨_, rfl, _, rfl, m, M, k, n, rfl, hm, wf, hn, fun v H1 s1 hv => ?_⟩
    unfold loopM at q
    generalize findM M n = o at hv q
    cases o with
    | none =>
      have hv : v = .non := hv
      subst hv
      exact ⟨_, rfl, rfl, _, rfl, iteT (q _ _ s1 rfl)⟩
    | some o =>
      obtain ⟨a, b, r⟩ := o
      obtain ⟨t, rfl, ht⟩ := hv
      refine ⟨_, rfl, rfl, _, rfl, iteF ?_⟩
      refine ⟨by show 1 ≤ sizeLine; decide, fun t1 nt1 => ⟨_, rfl, t1, t, _, _, rfl, rfl, .of upd_same, (sm_imm (sm_new nt1)).sqt ht, by show 1 + 3 ≤ sizeLine; decide, fun z => absurd z (List.cons_ne_nil _ _), fun _ z => absurd z (List.cons_ne_nil _ _), fun _ _ p np => ?_⟩⟩
      exact q _ _ (s1.trans ((sm_new nt1).trans (sm_new np))) ⟨p, rfl, .of upd_same⟩
theorem sc_decide : FnScope ["machine", "word", "number", "look", "found"] ["machine"] (defScope s_decide) := ⟨rfl, rfl, rfl, by decide +kernel, rfl, by decide +kernel, by decide +kernel⟩
theorem ok_decide (T : Txt w K mg) : Has P w K mg base CX0 7 ("decide", none) ["machine"] (spDecide K) := by
  obtain ⟨fd, F⟩ := T.fd 23 (d := d_decide) rfl rfl rfl
  obtain ⟨⟨fd1, G1, b1⟩, kp1⟩ := ok_try_stop (P := P) (base := base) T
  obtain ⟨⟨fd2, G2, b2⟩, kp2⟩ := ok_try_loop (P := P) (base := base) T
  obtain ⟨fd1', F1⟩ := T.fd 21 (d := d_try_stop) rfl rfl rfl
  obtain ⟨fd2', F2⟩ := T.fd 22 (d := d_try_loop) rfl rfl rfl
  have hne : He.ga K "try_stop" ≠ He.ga K "try_loop" := fun_ne F1 F2 (by decide +kernel)
  obtain ⟨hm1, hm2, hm3, _, _, _, hlk, _⟩ := mores T.more
  obtain ⟨es, nn, hD⟩ := T.t.tab 0 (t := (fun K => He.ga K "LOOKS", ["stop", "loop", "back", "grams", "shape", "small"])) rfl
  obtain ⟨u1, hu1, ru1⟩ := He.valsB_ok hlk (q := ("stop", .glo "try_stop")) (by simp)
  obtain ⟨u2, hu2, ru2⟩ := He.valsB_ok hlk (q := ("loop", .glo "try_loop")) (by simp)
  refine ⟨⟨fd, F.ok sc_decide (fun vs H Q E h => ?_) (fun cdv A outer s H vs Q E hr h => ?_), F.bindsN fun _ _ _ _ _ _ us hl => match us, hl with | [_], _ => rfl⟩, F.kp⟩
  · obtain ⟨m, M, k, e, rfl, _⟩ := h
    rfl
  · obtain ⟨m, M, k, e, rfl, hm, wf, hdec, q⟩ := h
    refine ⟨_, PSs.nox (pss_cons (ps_for PassesOwn.never rfl (pi_tup (pe_glob (v := .ref (He.ga K "METHODS")) (by rfl) T.g_METHODS rfl)) (pg_tup rfl (pgs_cons (pg_name (i := 1) sc_decide.nd rfl (.inl rfl)) (pgs_cons (pg_name (i := 2) sc_decide.nd rfl (.inl rfl)) pgs_nil)))
        (pss_cons (ps_set (i := 3) sc_decide.nd rfl (.inl rfl) (pe_kd hD (pe_glob (v := .ref (He.ga K "LOOKS")) (by rfl) T.g_LOOKS rfl) (pv 1) (fun _ _ => rfl)))
        (pss_cons (ps_set (i := 4) sc_decide.nd rfl (.inl rfl) (pe_callA (i := 3) (S := fun f => if f = He.ga K "try_stop" then some (spTryStop K) else if f = He.ga K "try_loop" then some (spTryLoop K) else none)
          (fun f sp hf => ?_) hr rfl (.inl rfl) (pa_cons (pv 0) (pa_cons (pv 2) pa_nil))))
        (pss_one (ps_if (pt_cmpR op_notN1 (pv 4) pe_non (nomark _)) (pss_one (ps_ret (pv 4))) pss_nil)))))
      (pss_one (ps_ret pe_non))), ?_⟩
    · have hf : (if f = He.ga K "try_stop" then some (spTryStop K) else if f = He.ga K "try_loop" then some (spTryLoop K) else none) = some sp := hf
      by_cases z : f = He.ga K "try_stop"
      · rw [if_pos z] at hf
        have hf := Option.some.inj hf
        subst hf
        rw [z]
        exact ⟨fd1, _, G1.mono (by decide), kp1, b1⟩
      · rw [if_neg z] at hf
        by_cases z2 : f = He.ga K "try_loop"
        · rw [if_pos z2] at hf
          have hf := Option.some.inj hf
          subst hf
          rw [z2]
          exact ⟨fd2, _, G2, kp2, b2⟩
        · rw [if_neg z2] at hf
          cases hf
    have tM := tupAt_ok hm1 H
    have t0 := tupAt_ok hm2 H
    have t1 := tupAt_ok hm3 H
    refine ⟨aMet K, rfl, ⟨_, tM⟩, ?_⟩
    refine for_it (walk_tup (K := K) (a := aMet K) (xs := (List.range 12).map fun i => V.ref (itemRef K (aMet K) i))) (fun c σ H' => Same H H' ∧ ∃ y1 y2 y3 y4, σ = [some m, y1, y2, y3, y4] ∧ (c = 0 ∨ (c = 1 ∧ stopM M 500 = none))) ⟨Same.refl H, none, none, none, none, rfl, .inl rfl⟩ (fun c σ H' _ z => (sm_imm z.1).sqt tM) ?_ ?_
    · rintro c x σ H1 H2 hc ⟨s1, y1, y2, y3, y4, rfl, hcase⟩ ⟨rfl, ex⟩
      rcases hcase with rfl | ⟨rfl, hst⟩
      · have ex := Option.some.inj ex
        subst ex
        refine ⟨_, _, rfl, (sm_imm s1).sqt t0, rfl, _, _, rfl, _, _, rfl, rfl, ?_⟩
        refine ⟨_, rfl, "stop", u1, _, rfl, rfl, hu1, ru1, ?_⟩
        refine ⟨He.ga K "try_stop", _, rfl, if_pos rfl, _, rfl, _, rfl, m, M, k, 500, rfl, hm.imm (sm_imm s1), wf, by decide, fun v H3 s3 hv => ?_⟩
        unfold decM at hdec
        cases est : stopM M 500 with
        | none =>
          rw [est] at hv
          have hv : v = .non := hv
          subst hv
          refine ⟨_, rfl, rfl, _, rfl, iteF ⟨s1.trans s3, _, _, _, _, rfl, .inr ⟨rfl, rfl⟩⟩⟩
        | some e1 =>
          rw [est] at hv hdec
          have hdec := Option.some.inj hdec
          subst hdec
          have hv2 := q v H3 (s1.trans s3) hv
          obtain ⟨t, rfl⟩ := EvAt.ref hv
          exact ⟨_, rfl, rfl, _, rfl, iteT ⟨_, rfl, hv2⟩⟩
      · have ex := Option.some.inj ex
        subst ex
        refine ⟨_, _, rfl, (sm_imm s1).sqt t1, rfl, _, _, rfl, _, _, rfl, rfl, ?_⟩
        refine ⟨_, rfl, "loop", u2, _, rfl, rfl, hu2, ru2, ?_⟩
        refine ⟨He.ga K "try_loop", spTryLoop K, rfl, ?_, _, rfl, _, rfl, m, M, k, 40, rfl, hm.imm (sm_imm s1), wf, by decide, fun v H3 s3 hv => ?_⟩
        · show (if He.ga K "try_loop" = He.ga K "try_stop" then some (spTryStop K) else if He.ga K "try_loop" = He.ga K "try_loop" then some (spTryLoop K) else none) = some (spTryLoop K)
          rw [if_neg hne.symm, if_pos rfl]
        unfold decM at hdec
        rw [hst] at hdec
        have hdec : loopM M 40 = some e := hdec
        rw [hdec] at hv
        have hv2 := q v H3 (s1.trans s3) hv
        obtain ⟨t, rfl⟩ := EvAt.ref hv
        exact ⟨_, rfl, rfl, _, rfl, iteT ⟨_, rfl, hv2⟩⟩
    · rintro σ H' ⟨_, _, _, _, _, _, h⟩
      rcases h with h | ⟨h, _⟩
      · cases h
      · cases h
end
end K79

namespace K79
open PySem PySem.Spec PyProof.Rows L2
def shStop (M : Mach) (n : Int) : Bool := decide (0 < n) && (decide ((cf M n.toNat).s = -1) && decide ((cf M n.toNat).n = n))
def shLoop (M : Mach) (a b : Nat) (r : Bool) : Bool := decide (a < b) && isLoopM M a b r
def showsM (M : Mach) : Evd → Str
  | .stop n => if shStop M n = true then "stops" else ""
  | .loop a b r => if shLoop M a b r = true then "runs" else ""
def EvOk : Evd → Prop
  | .stop n => 0 ≤ n ∧ n ≤ 10000
  | .loop _ b _ => b ≤ 100
def spShStop (K : PySem.W.Frag) : Sp := fun vs H Q _ => ∃ (m : V) (M : Mach) (k : Nat) (v : V) (n : Int), vs = [m, v] ∧ MachAt K H m M ∧ Wf M k ∧ EvAt K H v (some (.stop n)) ∧ EvOk (.stop n) ∧ ∀ H', Same H H' → Q (.bl (shStop M n)) H'
def spShLoop (K : PySem.W.Frag) : Sp := fun vs H Q _ => ∃ (m : V) (M : Mach) (k : Nat) (v : V) (a b : Nat) (r : Bool), vs = [m, v] ∧ MachAt K H m M ∧ Wf M k ∧ EvAt K H v (some (.loop a b r)) ∧ EvOk (.loop a b r) ∧ ∀ H', Same H H' → Q (.bl (shLoop M a b r)) H'
def spShows (K : PySem.W.Frag) : Sp := fun vs H Q _ => ∃ (m : V) (M : Mach) (k : Nat) (v : V) (e : Evd), vs = [m, v] ∧ MachAt K H m M ∧ Wf M k ∧ EvAt K H v (some e) ∧ EvOk e ∧ ∀ H', Same H H' → Q (.str (showsM M e)) H'
section
variable {P : Program} {w : World} {K : PySem.W.Frag} {mg : Str → Option Value} {base : Heap}
theorem sc_shows_loop : FnScope ["machine", "evidence", "_", "first", "second", "right"] ["machine", "evidence"] (defScope s_shows_loop) := ⟨rfl, rfl, rfl, by decide +kernel, rfl, by decide +kernel, by decide +kernel⟩
theorem ok_shows_loop (T : Txt w K mg) : Has P w K mg base CX0 5 ("shows_loop", none) ["machine", "evidence"] (spShLoop K) := by
  obtain ⟨fd, F⟩ := T.fd 24 (d := d_shows_loop) rfl rfl rfl
  obtain ⟨⟨fd1, G1, b1⟩, kp1⟩ := ok_is_loop (P := P) (base := base) T
  refine ⟨⟨fd, F.ok sc_shows_loop (fun vs H Q E h => ?_) (fun cdv A outer s H vs Q E hr h => ?_), F.bindsN fun _ _ _ _ _ _ us hl => match us, hl with | [_, _], _ => rfl⟩, F.kp⟩
  · obtain ⟨m, M, k, v, a, b, r, rfl, _⟩ := h
    rfl
  · obtain ⟨m, M, k, v, a, b, r, rfl, hm, wf, ⟨t, rfl, ht⟩, he, q⟩ := h
    refine ⟨_, PSs.nox (pss_cons (ps_asg (pv 1) (pg_tup rfl (pgs_cons (pg_name (i := 2) sc_shows_loop.nd rfl (.inl rfl)) (pgs_cons (pg_name (i := 3) sc_shows_loop.nd rfl (.inl rfl)) (pgs_cons (pg_name (i := 4) sc_shows_loop.nd rfl (.inl rfl)) (pgs_cons (pg_name (i := 5) sc_shows_loop.nd rfl (.inl rfl)) pgs_nil))))))
      (pss_one (ps_ret (pe_and (pe_cmpR op_lt (pv 3) (pv 4) (nomark _)) (pe_one (pe_callN G1 hr (by rfl) T.g_is_loop kp1 b1 pass0 (pa_cons (pv 0) (pa_cons (pv 3) (pa_cons (pv 4) pa_nil))) (pk_cons (pv 5) pk_nil))))))), ?_⟩
    refine ⟨_, rfl, t, _, rfl, ht, rfl, _, _, rfl, _, _, rfl, _, _, rfl, _, _, rfl, rfl, ?_⟩
    refine ⟨_, rfl, _, rfl, _, _, rfl, rfl, _, rfl, ?_⟩
    by_cases hab : a < b
    · rw [decide_eq_true (show (a : Int) < (b : Int) by omega)]
      refine iteT ?_
      refine ⟨_, rfl, _, rfl, _, rfl, _, rfl, rfl, rfl, m, M, k, a, b, r, rfl, hm, wf, by omega, he, fun H1 s1 => ?_⟩
      have := q H1 s1
      unfold shLoop at this
      rw [decide_eq_true hab, Bool.true_and] at this
      exact this
    · rw [decide_eq_false (show ¬ (a : Int) < (b : Int) by omega)]
      refine iteF ?_
      have := q H (Same.refl H)
      unfold shLoop at this
      rw [decide_eq_false hab, Bool.false_and] at this
      exact this
theorem sc_shows_stop : FnScope ["machine", "evidence", "runner"] ["machine", "evidence"] (defScope s_shows_stop) := ⟨rfl, rfl, rfl, by decide +kernel, rfl, by decide +kernel, by decide +kernel⟩
theorem ok_shows_stop (T : Txt w K mg) : Has P w K mg base CX0 4 ("shows_stop", none) ["machine", "evidence"] (spShStop K) := by
  obtain ⟨fd, F⟩ := T.fd 25 (d := d_shows_stop) rfl rfl rfl
  obtain ⟨⟨fd2, G2, b2⟩, kp2⟩ := ok_r_init (P := P) (base := base) T
  obtain ⟨⟨fd3, G3, b3⟩, kp3⟩ := ok_r_run (P := P) (base := base) T
  refine ⟨⟨fd, F.ok sc_shows_stop (fun vs H Q E h => ?_) (fun cdv A outer s H vs Q E hr h => ?_), F.bindsN fun _ _ _ _ _ _ us hl => match us, hl with | [_, _], _ => rfl⟩, F.kp⟩
  · obtain ⟨m, M, k, v, n, rfl, _⟩ := h
    rfl
  · obtain ⟨m, M, k, v, n, rfl, hm, wf, ⟨t, rfl, ht⟩, ⟨n0, n1⟩, q⟩ := h
    have hr2 := hr.mono (by decide : 2 ≤ 3)
    refine ⟨_, PSs.nox (pss_cons (ps_set (i := 2) sc_shows_stop.nd rfl (.inl rfl) (pe_make T.k_Runner G2 hr2 (by rfl) T.g_Runner b2 .nil pass0 (pa_cons (pv 0) pa_nil)))
      (pss_one (ps_ret (pe_and (pe_cmpR op_gt (pe_ix ix_tup (pv 1) pe_int (fun _ _ => rfl)) pe_int (nomark _)) (pe_and (pe_meth (pv 2) T.c_Runner T.m_Runner_run G3 hr b3 .nil pass0 (pa_cons (pe_ix ix_tup (pv 1) pe_int (fun _ _ => rfl)) pa_nil))
        (pe_one (pe_cmpR op_eq (pe_fld (pv 2) rfl) (pe_ix ix_tup (pv 1) pe_int (fun _ _ => rfl)) (nomark _)))))))), ?_⟩
    refine ⟨_, rfl, fun p dx np ndx nepd => ?_⟩
    have s0 : Same H (upd (upd H dx (.own p)) p (.ins (He.ga K "Runner") dx [])) := (sm_new ndx).trans (sm_new ((upd_ne nepd.symm).trans np))
    refine ⟨p, dx, m, M, rfl, upd_same, hm.imm (sm_imm s0), fun d H2 nd r2 f2 => ⟨rfl, ?_⟩⟩
    have s2 : Same H H2 := (Fr.drop (S := []) (sm_fr s0) f2 np).same
    have nd0 := s0.free nd
    have ht2 := (sm_imm s2).sqt ht
    refine ⟨_, rfl, t, _, 1, .int n, rfl, rfl, ht2, rfl, n, 0, rfl, rfl, _, rfl, ?_⟩
    by_cases hp : 0 < n
    · rw [decide_eq_true hp]
      refine iteT ?_
      refine ⟨_, rfl, p, dx, _, rfl, r2.o, m_r_run, _, rfl, t, _, 1, .int n, rfl, rfl, ht2, rfl, p, dx, d, m, M, k, ini, n, rfl, r2, Ok.ini wf, n0, n1, by show 0 ≤ 10000; decide, fun H3 r3 f3 => ⟨_, rfl, ?_⟩⟩
      have s3 : Same H H3 := fun c o e => f3 c o (s2 c o e) fun hz => by
        rcases List.mem_cons.mp hz with z | z
        · rw [z, np] at e
          cases e
        · rw [List.mem_singleton.mp z, nd0] at e
          cases e
      have q3 := q H3 s3
      unfold shStop at q3
      rw [decide_eq_true hp, Bool.true_and] at q3
      by_cases e : (cf M n.toNat).s = -1
      · rw [decide_eq_true e] at q3 ⊢
        refine iteT ?_
        refine ⟨_, rfl, p, _, dx, _, _, rfl, r3.o, T.c_Runner, T.n_Runner_steps, l_r_steps, _, rfl, t, _, 1, .int n, rfl, rfl, (sm_imm s3).sqt ht, rfl, rfl, ?_⟩
        rw [dec_int]
        exact q3
      · rw [decide_eq_false e] at q3 ⊢
        exact iteF q3
    · rw [decide_eq_false hp]
      refine iteF ?_
      have := q H2 s2
      unfold shStop at this
      rw [decide_eq_false hp, Bool.false_and] at this
      exact this
theorem sc_shows : FnScope ["machine", "evidence", "kind", "found"] ["machine", "evidence"] (defScope s_shows) := ⟨rfl, rfl, rfl, by decide +kernel, rfl, by decide +kernel, by decide +kernel⟩
theorem ok_shows (T : Txt w K mg) : Has P w K mg base CX0 6 ("shows", none) ["machine", "evidence"] (spShows K) := by
  obtain ⟨fd, F⟩ := T.fd 26 (d := d_shows) rfl rfl rfl
  obtain ⟨⟨fd2, G2, b2⟩, kp2⟩ := ok_shows_stop (P := P) (base := base) T
  obtain ⟨⟨fd3, G3, b3⟩, kp3⟩ := ok_shows_loop (P := P) (base := base) T
  refine ⟨⟨fd, F.ok sc_shows (fun vs H Q E h => ?_) (fun cdv A outer s H vs Q E hr h => ?_), F.bindsN fun _ _ _ _ _ _ us hl => match us, hl with | [_, _], _ => rfl⟩, F.kp⟩
  · obtain ⟨m, M, k, v, e, rfl, _⟩ := h
    rfl
  · obtain ⟨m, M, k, v, e, rfl, hm, wf, hv, he, q⟩ := h
    have hr2 := hr.mono (by decide : 4 ≤ 5)
    refine ⟨_, PSs.nox (pss_cons (ps_set (i := 2) sc_shows.nd rfl (.inl rfl) (pe_ix ix_tup (pv 1) pe_int (fun _ _ => rfl)))
      (pss_cons (ps_if (pt_cmpR op_eq (pv 2) pe_str (nomark _)) (pss_one (ps_ret (pe_ifExp (pt_val (pe_call G2 hr2 (by rfl) T.g_shows_stop kp2 b2 .nil pass0 (pa_cons (pv 0) (pa_cons (pv 1) pa_nil)))) pe_str pe_str))) pss_nil)
      (pss_cons (ps_if (pt_cmpR op_eq (pv 2) pe_str (nomark _)) (pss_one (ps_set (i := 3) sc_shows.nd rfl (.inl rfl) (pe_call G3 hr (by rfl) T.g_shows_loop kp3 b3 .nil pass0 (pa_cons (pv 0) (pa_cons (pv 1) pa_nil))))) pss_never)
      (pss_one (ps_ret (pe_ifExp (pt_val (pv 3)) pe_str pe_str)))))), ?_⟩
    have n1 : decide (V.str "loop" = V.str "stop") = false := by decide +kernel
    cases e with
    | stop n =>
      obtain ⟨t, rfl, ht⟩ := id hv
      refine ⟨_, rfl, t, _, 0, _, rfl, rfl, ht, rfl, ?_⟩
      refine ⟨_, rfl, rfl, _, rfl, ?_⟩
      rw [decide_eq_true rfl]
      refine iteT ?_
      refine ⟨_, rfl, _, rfl, m, M, k, .ref t, n, rfl, hm, wf, hv, he, fun H1 s1 => ⟨_, rfl, ?_⟩⟩
      have := q H1 s1
      rw [show showsM M (.stop n) = if shStop M n = true then ("stops" : Str) else ("" : Str) from rfl] at this
      cases hs : shStop M n with
      | true =>
        rw [hs, if_pos rfl] at this
        exact iteT this
      | false =>
        rw [hs, if_neg Bool.false_ne_true] at this
        exact iteF this
    | loop a b r =>
      obtain ⟨t, rfl, ht⟩ := id hv
      refine ⟨_, rfl, t, _, 0, _, rfl, rfl, ht, rfl, ?_⟩
      refine ⟨_, rfl, rfl, _, rfl, ?_⟩
      rw [n1]
      refine iteF ?_
      refine ⟨_, rfl, rfl, _, rfl, ?_⟩
      rw [decide_eq_true rfl]
      refine iteT ?_
      refine ⟨_, rfl, _, rfl, m, M, k, .ref t, a, b, r, rfl, hm, wf, hv, he, fun H1 s1 => ⟨_, rfl, _, rfl, ?_⟩⟩
      have := q H1 s1
      rw [show showsM M (.loop a b r) = if shLoop M a b r = true then ("runs" : Str) else ("" : Str) from rfl] at this
      cases hs : shLoop M a b r with
      | true =>
        rw [hs, if_pos rfl] at this
        exact iteT this
      | false =>
        rw [hs, if_neg Bool.false_ne_true] at this
        exact iteF this
end
end K79

namespace K79
open PySem PySem.Spec PyProof.Rows L2
/-! ### rules of my own: an attribute as a target, max with a default -/
def gFld (K : PySem.W.Frag) (ta : TE) (f : Str) : TG := fun y σ H Q => ta σ H fun x H1 => ∃ a C dx fs, x = .ref a ∧ H1 a = some (.ins C dx fs) ∧ Cls K C ∧ NoAttr K C f ∧ fs.length < 1000 ∧ Q σ (upd H1 a (.ins C dx (putF f y fs)))
section
variable {X : Cx}
theorem pg_fld {o : Expr} {ta : TE} {f : Str} {pos : Pos} (ho : PE X o ta) (ha : ∀ v, assign (.Attribute o f pos) X.env v = (do
      let ov ← holding [v] (eval o X.env)
      standAt pos.atName
      holding [v, ov] (setAttr ov f v)
      release [v, ov] []) := by intro _; rfl) : PG X (.Attribute o f pos) (gFld X.K ta f) := by
  refine ⟨fun pins s σ H v u Q I r h => ?_⟩
  rw [ha]
  refine wpAny_bind (wpAny_holding (thn (ho.run pins s σ H _ I h) fun ov s1 ⟨x, H1, I1, r1, a, C, dx, fs, ex, ea, c, n, l, q⟩ => ?_))
  subst ex
  obtain rfl : ov = Value.ref a := r1
  refine wpAny_bind (wpAny_standAt (wpAny_bind (wpAny_holding (setattr_ok I1 ea c n l r fun s2 I2 => ?_))))
  exact wpAny_release ⟨σ, _, I2, q⟩
theorem alike_ints (ns : List Int) : PySem.W.AlikeAll (ns.map .int) := by
  refine ⟨fun x hx y hy => ?_, fun x hx => ?_⟩
  · obtain ⟨a, _, rfl⟩ := List.mem_map.mp hx
    obtain ⟨b, _, rfl⟩ := List.mem_map.mp hy
    exact PySem.W.DatumOrd.alike a b
  · obtain ⟨a, _, rfl⟩ := List.mem_map.mp hx
    intro z
    cases z
def maxOr (ns : List Int) (d : Int) : Int := match ns with
  | [] => d
  | y :: ys => ys.foldl max y
def rMaxD (K : PySem.W.Frag) : List V → List V → Hp → VK → Prop := fun vs zs H Q => ∃ (a : Addr) (ns : List Int) (d : Int), vs = [V.ref a] ∧ zs = [V.int d] ∧ SqL K H a (ns.map V.int) ∧ Q (.int (maxOr ns d)) H
theorem cr_maxD (hc : X.calm = true) (hu : X.A.units + 64 < cLine) : CallRK X (.builtin "max") ["default"] (rMaxD X.K) := by
  intro pins s σ H vs zs us ws Q I r rz h
  obtain ⟨a, ns, d, rfl, rfl, hs, q⟩ := h
  obtain ⟨its, rv, hl, _⟩ := I.list hs
  rw [Vals.ref1 r]
  obtain ⟨u, rfl, t, rfl⟩ := vals1 rz
  obtain ⟨as, hr⟩ := Dp.readsAll I (ns.map .int) (ns.map V.int) its (dp_ints ns) rv
  refine PySem.W.max_list_default (I.ok.hd hc) hl.isList (by simpa using hr) (alike_ints ns) (by rw [dep_ints]; omega) (fun e h' tk hk => ?_) (fun y ys i v h' tk bs e hi hv hk => ?_)
  · have en : ns = [] := List.map_eq_nil_iff.mp e
    rw [en] at q
    exact ⟨.int d, H, I.kept hk, ⟨t, rfl⟩, q⟩
  · cases ns with
    | nil => cases e
    | cons n r =>
      rw [List.map_cons] at e
      injection e with e1 e2
      subst e1 e2
      rw [PySem.W.maxD_ints] at hv
      have I2 := I.kept (t' := tk) hk
      obtain ⟨tv, ev⟩ : ∃ tv, v = Value.int (r.foldl max n) tv := by
        cases hv
        exact ⟨_, rfl⟩
      exact ⟨.int (r.foldl max n), H, I2, ⟨tv, ev⟩, q⟩
end
end K79

namespace K79
open PySem PySem.Spec PyProof.Rows L2
/-! ### the tape of the tree -/
structure TpAt (K : PySem.W.Frag) (H : Hp) (p dx d : Addr) (c : Cf) : Prop where
  o : ∃ l u : Int, H p = some (.ins (He.ga K "Tape") dx (tfs (.int c.s) (.int c.x) (.ref d) (.int l) (.int u)))
  d : H d = some (.dK (kv c.t))
theorem TpAt.ne {K : PySem.W.Frag} {H : Hp} {p dx d : Addr} {c : Cf} (r : TpAt K H p dx d c) : p ≠ d := by
  obtain ⟨l, u, o⟩ := r.o
  exact ne_of o r.d (fun z => by cases z)
theorem TpAt.soft {K : PySem.W.Frag} {H : Hp} {p dx d : Addr} {c : Cf} (r : TpAt K H p dx d c) : ∀ q ∈ [p, d], Soft (H q) := fun q h => by
  obtain ⟨l, u, o⟩ := r.o
  rcases List.mem_cons.mp h with h | h
  · rw [h, o]
    trivial
  · rw [List.mem_singleton.mp h, r.d]
    trivial
def spTInit (K : PySem.W.Frag) : Sp := fun vs H Q _ => ∃ p dx b e, vs = [.ref p, .ref b] ∧ H p = some (.ins (He.ga K "Tape") dx []) ∧ SqT K H b [.int 0, .int 0, .int 0, .ref e] ∧ SqT K H e [] ∧ ∀ d H', H d = none → TpAt K H' p dx d ini → Fr [p] H H' → Q .non H'
def spTSym (K : PySem.W.Frag) : Sp := fun vs H Q _ => ∃ p dx d c, vs = [.ref p] ∧ TpAt K H p dx d c ∧ Q (.int (lk c.t c.x)) H
def spTWrite (K : PySem.W.Frag) : Sp := fun vs H Q _ => ∃ p dx d c y, vs = [.ref p, .int y] ∧ TpAt K H p dx d c ∧ c.t.length ≤ 100000 ∧ ∀ H', TpAt K H' p dx d ⟨pt c.t c.x y, c.x, c.s, c.n⟩ → Fr [p, d] H H' → Q .non H'
def spTTake (K : PySem.W.Frag) : Sp := fun vs H Q _ => ∃ p dx d m M k c, vs = [.ref p, m] ∧ TpAt K H p dx d c ∧ MachAt K H m M ∧ Ok M k c ∧ 0 ≤ c.s ∧ c.t.length ≤ 100000 ∧ ∀ H', TpAt K H' p dx d (stp M c) → Fr [p, d] H H' → Q .non H'
section
variable {P : Program} {w : World} {K : PySem.W.Frag} {mg : Str → Option Value} {base : Heap}
theorem sc_t_init : FnScope ["self", "configuration", "first", "cells", "k"] ["self", "configuration"] (defScope s_Tape_init) := ⟨rfl, rfl, rfl, by decide +kernel, rfl, by decide +kernel, by decide +kernel⟩
theorem ok_t_init (T : Txt w K mg) : Has P w K mg base CX0 1 ("Tape", some "__init__") ["self", "configuration"] (spTInit K) := by
  obtain ⟨fd, F⟩ := T.fd 27 (d := d_Tape_init) rfl rfl rfl
  refine ⟨⟨fd, F.ok sc_t_init (fun vs H Q E h => ?_) (fun cdv A outer s H vs Q E hr h => ?_), F.bindsN fun _ _ _ _ _ _ us hl => match us, hl with | [_, _], _ => rfl⟩, F.kp⟩
  · obtain ⟨p, dx, b, e, rfl, _⟩ := h
    rfl
  · obtain ⟨p, dx, b, e, rfl, hp, hb, he, q⟩ := h
    refine ⟨_, PSs.nox (pss_cons (ps_asg (pv 1) (pg_tup rfl (pgs_cons (pg_fld (pv 0)) (pgs_cons (pg_fld (pv 0)) (pgs_cons (pg_name (i := 2) sc_t_init.nd rfl (.inr rfl)) (pgs_cons (pg_name (i := 3) sc_t_init.nd rfl (.inr rfl)) pgs_nil))))))
      (pss_cons (ps_fld (pv 0) (pe_dc (own := [("k", 4)]) (g := gName 4) (tt := tYes) (tk := tOp (rI0 fun i j => .int (i + j)) (tVar 2) (tVar 4)) (tv := tOp (rIxT K) (tVar 3) (tVar 4)) (by rfl) sc_t_init.nd (pi_range1 rfl T.z_range (pa_cons (pe_callB call_len_seq (by rfl) T.z_len (by decide +kernel) (pa_cons (pv 3) pa_nil)) pa_nil)) (blkOk_by (own := [("k", 4)]) (N := ["self", "configuration", "first", "cells", "k"]) (sc := defScope s_Tape_init) (by decide +kernel))
          (fun _ _ _ _ _ => pg_name (i := 4) sc_t_init.nd rfl (Or.inl rfl)) (fun _ _ _ _ _ => pts_nil) (fun _ _ _ _ _ => by exact pe_op op_add (pv 2) (pv 4)) (fun _ _ _ _ _ => by exact pe_ix ix_tup (pv 3) (pv 4) (fun _ _ => rfl))) rfl)
      (pss_cons (ps_fld (pv 0) (pv 2) rfl)
      (pss_one (ps_fld (pv 0) (pe_op op_sub (pe_op op_add (pv 2) (pe_callB call_len_seq (by rfl) T.z_len (by decide +kernel) (pa_cons (pv 3) pa_nil))) pe_int) rfl))))), ?_⟩
    refine ⟨_, rfl, b, _, rfl, hb, rfl, _, _, rfl, ⟨_, rfl, p, _, dx, _, rfl, hp, T.c_Tape, T.n_Tape_state, by show 0 < 1000; decide, ?_⟩⟩
    rw [i_t_state]
    refine ⟨_, _, rfl, ⟨_, rfl, p, _, dx, _, rfl, upd_same, T.c_Tape, T.n_Tape_place, by show 1 < 1000; decide, ?_⟩⟩
    rw [i_t_place, upd_upd]
    refine ⟨_, _, rfl, _, _, rfl, rfl, ?_⟩
    have sf : ∀ z ∈ [p], Soft (H z) := fun z hz => by
      rw [List.mem_singleton.mp hz, hp]
      trivial
    have f1 : Fr [p] H (upd H p (.ins (He.ga K "Tape") dx [("state", .int 0), ("place", .int 0)])) := Fr.set (by simp)
    refine ⟨_, rfl, e, [], rfl, .inr ((f1.imm sf).sqt he), 0, rfl, by decide, by decide, fun D nD => ?_⟩
    refine ⟨fun i m H' => i = 0 ∧ H' = upd (upd H p (.ins (He.ga K "Tape") dx [("state", .int 0), ("place", .int 0)])) D (.dK []), ⟨0, rfl, rfl⟩, fun i m H' ⟨ei, eh⟩ => .inl ?_⟩
    subst ei eh
    have npd : p ≠ D := fun z => by
      rw [← z, upd_same] at nD
      cases nD
    have hD0 : H D = none := by
      rw [upd_ne npd.symm] at nD
      exact nD
    refine ⟨Nat.le_refl _, ?_⟩
    refine ⟨_, rfl, p, _, dx, _, rfl, (upd_ne npd).trans upd_same, T.c_Tape, T.n_Tape_cells, by show 2 < 1000; decide, ?_⟩
    rw [i_t_cells]
    refine ⟨_, rfl, _, rfl, p, _, dx, _, rfl, upd_same, T.c_Tape, T.n_Tape_least, by show 3 < 1000; decide, ?_⟩
    rw [i_t_least, upd_upd]
    have f2 : Fr [p] H (upd (upd (upd H p (.ins (He.ga K "Tape") dx [("state", .int 0), ("place", .int 0)])) D (.dK [])) p (.ins (He.ga K "Tape") dx [("state", .int 0), ("place", .int 0), ("cells", .ref D), ("least", .int 0)])) :=
      (f1.trans (Fr.new nD)).trans (Fr.set (by simp))
    refine ⟨_, rfl, _, rfl, e, [], rfl, .inr ((f2.imm sf).sqt he), _, _, rfl, rfl, _, _, rfl, rfl, _, rfl, p, _, dx, _, rfl, upd_same, T.c_Tape, T.n_Tape_most, by show 4 < 1000; decide, ?_⟩
    rw [i_t_most, upd_upd]
    refine q D _ hD0 ⟨⟨_, _, upd_same⟩, (upd_ne npd.symm).trans upd_same⟩ ((f1.trans (Fr.new nD)).trans (Fr.set (by simp)))
theorem sc_t_symbol : FnScope ["self"] ["self"] (defScope s_Tape_symbol) := ⟨rfl, rfl, rfl, by decide +kernel, rfl, by decide +kernel, by decide +kernel⟩
theorem ok_t_symbol (T : Txt w K mg) : Has P w K mg base CX0 1 ("Tape", some "symbol") ["self"] (spTSym K) := by
  obtain ⟨fd, F⟩ := T.fd 28 (d := d_Tape_symbol) rfl rfl rfl
  refine ⟨⟨fd, F.ok sc_t_symbol (fun vs H Q E h => ?_) (fun cdv A outer s H vs Q E hr h => ?_), F.bindsN fun _ _ _ _ _ _ us hl => match us, hl with | [_], _ => rfl⟩, F.kp⟩
  · obtain ⟨p, dx, d, c, rfl, _⟩ := h
    rfl
  · obtain ⟨p, dx, d, c, rfl, r, q⟩ := h
    have hu := hu_of hr
    obtain ⟨l, u, o⟩ := r.o
    refine ⟨_, PSs.nox (pss_one (ps_ret (pe_dget2 hu (pe_fld (pv 0) rfl) (pe_fld (pv 0) rfl) pe_int ⟨rfl, rfl, rfl, rfl⟩))), ?_⟩
    refine ⟨_, rfl, p, _, dx, _, _, rfl, o, T.c_Tape, T.n_Tape_cells, l_t_cells, d, rfl, .inl ⟨_, .inl r.d⟩, _, rfl, p, _, dx, _, _, rfl, o, T.c_Tape, T.n_Tape_place, l_t_place, _, DGet.k (k := Sum.inl c.x) r.d, ?_⟩
    rw [getD_kv]
    exact q
theorem sc_t_write : FnScope ["self", "symbol"] ["self", "symbol"] (defScope s_Tape_write) := ⟨rfl, rfl, rfl, by decide +kernel, rfl, by decide +kernel, by decide +kernel⟩
theorem ok_t_write (T : Txt w K mg) : Has P w K mg base CX0 1 ("Tape", some "write") ["self", "symbol"] (spTWrite K) := by
  obtain ⟨fd, F⟩ := T.fd 29 (d := d_Tape_write) rfl rfl rfl
  refine ⟨⟨fd, F.ok sc_t_write (fun vs H Q E h => ?_) (fun cdv A outer s H vs Q E hr h => ?_), F.bindsN fun _ _ _ _ _ _ us hl => match us, hl with | [_, _], _ => rfl⟩, F.kp⟩
  · obtain ⟨p, dx, d, c, y, rfl, _⟩ := h
    rfl
  · obtain ⟨p, dx, d, c, y, rfl, r, hl, q⟩ := h
    have hu := hu_of hr
    obtain ⟨l, u, o⟩ := r.o
    have npd := r.ne
    refine ⟨_, PSs.nox (pss_cons (ps_if (pt_cmpR op_eq (pv 1) pe_int (nomark _)) (pss_cons (ps_dput hu (pe_fld (pv 0) rfl) (pe_fld (pv 0) rfl) pe_int rfl) (pss_one ps_retN)) pss_nil)
      (pss_cons (ps_if (pt_cmpR op_gt (pe_fld (pv 0) rfl) (pe_fld (pv 0) rfl) (nomark _)) (pss_cons (ps_fld (pv 0) (pe_fld (pv 0) rfl) rfl) (pss_one (ps_fld (pv 0) (pe_fld (pv 0) rfl) rfl))) pss_nil)
      (pss_cons (ps_dput hu (pe_fld (pv 0) rfl) (pe_fld (pv 0) rfl) (pv 1) rfl)
      (pss_cons (ps_fld (pv 0) (pe_callB (call_min2 rfl) (by rfl) T.z_min (by decide +kernel) (pa_cons (pe_fld (pv 0) rfl) (pa_cons (pe_fld (pv 0) rfl) pa_nil))) rfl)
      (pss_one (ps_fld (pv 0) (pe_callB (call_max2 rfl) (by rfl) T.z_max (by decide +kernel) (pa_cons (pe_fld (pv 0) rfl) (pa_cons (pe_fld (pv 0) rfl) pa_nil))) rfl)))))), ?_⟩
    refine ⟨_, rfl, rfl, _, rfl, ?_⟩
    rw [dec_int]
    by_cases hy : y = 0
    · rw [decide_eq_true hy]
      subst hy
      refine iteT ?_
      refine ⟨_, rfl, p, _, dx, _, _, rfl, o, T.c_Tape, T.n_Tape_cells, l_t_cells, _, rfl, p, _, dx, _, _, rfl, o, T.c_Tape, T.n_Tape_place, l_t_place, d, _, rfl, DPut.k (k := Sum.inl c.x) r.d (by rw [kv_len]; exact Nat.lt_of_le_of_lt hl (by decide)), ?_⟩
      rw [putK_kv]
      exact q _ ⟨⟨l, u, (upd_ne npd).trans o⟩, upd_same⟩ (Fr.set (by simp))
    · rw [decide_eq_false hy]
      refine iteF ?_
      -- from the second test's end on
      have fin : ∀ (H1 : Hp) (l u : Int), H1 p = some (.ins (He.ga K "Tape") dx (tfs (.int c.s) (.int c.x) (.ref d) (.int l) (.int u))) → H1 d = some (.dK (kv c.t)) → Fr [p, d] H H1 →
          tSeq (sDPut (tFld K (tVar 0) "cells") (tFld K (tVar 0) "place") (tVar 1)) (tSeq (sFld K (tVar 0) (tCB (fun xs H Q => ∃ i j, xs = [V.int i, .int j] ∧ Q (.int (if j < i then j else i)) H) (tCons (tFld K (tVar 0) "least") (tCons (tFld K (tVar 0) "place") tNil))) "least")
            (sFld K (tVar 0) (tCB (fun xs H Q => ∃ i j, xs = [V.int i, .int j] ∧ Q (.int (if j > i then j else i)) H) (tCons (tFld K (tVar 0) "most") (tCons (tFld K (tVar 0) "place") tNil))) "most")) { nx := fun _ H' => Q .non H', rt := Q } [some (.ref p), some (.int y)] H1 := fun H1 l u o1 d1 f1 => by
        refine ⟨_, rfl, _, rfl, p, _, dx, _, _, rfl, o1, T.c_Tape, T.n_Tape_cells, l_t_cells, _, rfl, p, _, dx, _, _, rfl, o1, T.c_Tape, T.n_Tape_place, l_t_place, d, _, rfl, DPut.k (k := Sum.inl c.x) d1 (by rw [kv_len]; exact Nat.lt_of_le_of_lt hl (by decide)), ?_⟩
        rw [putK_kv]
        have o2 : (upd H1 d (.dK (kv (pt c.t c.x y)))) p = _ := (upd_ne npd).trans o1
        refine ⟨_, rfl, p, _, dx, _, _, rfl, o2, T.c_Tape, T.n_Tape_least, l_t_least, _, rfl, p, _, dx, _, _, rfl, o2, T.c_Tape, T.n_Tape_place, l_t_place, _, _, rfl, _, rfl, p, _, dx, _, rfl, o2, T.c_Tape, T.n_Tape_least, by show 5 < 1000; decide, ?_⟩
        rw [p_t_least]
        refine ⟨_, rfl, p, _, dx, _, _, rfl, upd_same, T.c_Tape, T.n_Tape_most, l_t_most, _, rfl, p, _, dx, _, _, rfl, upd_same, T.c_Tape, T.n_Tape_place, l_t_place, _, _, rfl, _, rfl, p, _, dx, _, rfl, upd_same, T.c_Tape, T.n_Tape_most, by show 5 < 1000; decide, ?_⟩
        rw [p_t_most, upd_upd]
        exact q _ ⟨⟨_, _, upd_same⟩, (upd_ne npd.symm).trans upd_same⟩ (f1.trans ((Fr.set (by simp)).trans (Fr.set (by simp))))
      refine ⟨_, rfl, p, _, dx, _, _, rfl, o, T.c_Tape, T.n_Tape_least, l_t_least, _, rfl, p, _, dx, _, _, rfl, o, T.c_Tape, T.n_Tape_most, l_t_most, _, _, rfl, rfl, _, rfl, ?_⟩
      refine ite2 (fun _ => ?_) (fun _ => ?_)
      · refine ⟨_, rfl, p, _, dx, _, _, rfl, o, T.c_Tape, T.n_Tape_place, l_t_place, _, rfl, p, _, dx, _, rfl, o, T.c_Tape, T.n_Tape_least, by show 5 < 1000; decide, ?_⟩
        rw [p_t_least]
        refine ⟨_, rfl, p, _, dx, _, _, rfl, upd_same, T.c_Tape, T.n_Tape_place, l_t_place, _, rfl, p, _, dx, _, rfl, upd_same, T.c_Tape, T.n_Tape_most, by show 5 < 1000; decide, ?_⟩
        rw [p_t_most, upd_upd]
        exact fin _ _ _ upd_same ((upd_ne npd.symm).trans r.d) (Fr.set (by simp))
      · exact fin H l u o r.d (Fr.refl H)
theorem sc_t_take : FnScope ["self", "machine", "write", "move", "state"] ["self", "machine"] (defScope s_Tape_take) := ⟨rfl, rfl, rfl, by decide +kernel, rfl, by decide +kernel, by decide +kernel⟩
theorem ok_t_take (T : Txt w K mg) : Has P w K mg base CX0 2 ("Tape", some "take") ["self", "machine"] (spTTake K) := by
  obtain ⟨fd, F⟩ := T.fd 30 (d := d_Tape_take) rfl rfl rfl
  obtain ⟨⟨fd1, G1, b1⟩, kp1⟩ := ok_t_symbol (P := P) (base := base) T
  obtain ⟨⟨fd2, G2, b2⟩, kp2⟩ := ok_t_write (P := P) (base := base) T
  refine ⟨⟨fd, F.ok sc_t_take (fun vs H Q E h => ?_) (fun cdv A outer s H vs Q E hr h => ?_), F.bindsN fun _ _ _ _ _ _ us hl => match us, hl with | [_, _], _ => rfl⟩, F.kp⟩
  · obtain ⟨p, dx, d, m, M, k, c, rfl, _⟩ := h
    rfl
  · obtain ⟨p, dx, d, m, M, k, c, rfl, r, hm, ok, h0, hl, q⟩ := h
    have hu := hu_of hr
    obtain ⟨l, u, o⟩ := r.o
    refine ⟨_, PSs.nox (pss_cons (ps_asg (pe_ix ix_tup (pe_ix ix_tup (pv 1) (pe_fld (pv 0) rfl) (fun _ _ => rfl)) (pe_meth0 (pv 0) T.c_Tape T.m_Tape_symbol G1 hr b1 .nil pass0) (fun _ _ => rfl))
        (pg_tup rfl (pgs_cons (pg_name (i := 2) sc_t_take.nd rfl (.inl rfl)) (pgs_cons (pg_name (i := 3) sc_t_take.nd rfl (.inl rfl)) (pgs_cons (pg_name (i := 4) sc_t_take.nd rfl (.inl rfl)) pgs_nil)))))
      (pss_cons (ps_expr (pe_meth (pv 0) T.c_Tape T.m_Tape_write G2 hr b2 .nil pass0 (pa_cons (pv 2) pa_nil)))
      (pss_cons (ps_fldaug (pv 0) (pv 3) in_add)
      (pss_one (ps_fld (pv 0) (pv 4) rfl))))), ?_⟩
    have hy := ok.sym c.x
    obtain ⟨a, ws, b, us, cc, em, ha, e1, hb, e2, hc⟩ := hm.rule ok.wf h0 ok.st.2 hy.1 hy.2
    subst em
    refine ⟨_, rfl, _, rfl, p, _, dx, _, _, rfl, o, T.c_Tape, T.n_Tape_state, l_t_state, a, ws, c.s, _, rfl, rfl, ha, e1, ?_⟩
    refine ⟨_, rfl, p, dx, _, rfl, o, m_t_symbol, p, dx, d, c, rfl, r, b, us, _, _, rfl, rfl, hb, e2, ?_⟩
    refine ⟨cc, _, rfl, hc, rfl, _, _, rfl, _, _, rfl, _, _, rfl, rfl, ?_⟩
    refine ⟨_, rfl, p, dx, _, rfl, o, m_t_write, _, rfl, p, dx, d, c, _, rfl, r, hl, fun H1 r1 f1 => ?_⟩
    obtain ⟨l1, u1, o1⟩ := r1.o
    refine ⟨_, rfl, p, _, dx, _, _, rfl, o1, T.c_Tape, T.n_Tape_place, l_t_place, _, rfl, _, _, rfl, rfl, dx, _, o1, by show 5 < 1000; decide, ?_⟩
    rw [p_t_place]
    refine ⟨_, rfl, _, rfl, p, _, dx, _, rfl, upd_same, T.c_Tape, T.n_Tape_state, by show 5 < 1000; decide, ?_⟩
    rw [p_t_state, upd_upd]
    exact q _ ⟨⟨_, _, upd_same⟩, (upd_ne r1.ne.symm).trans r1.d⟩ (f1.trans (Fr.set (by simp)))
end
end K79

namespace K79
open PySem PySem.Spec PyProof.Rows L2
/-- the key of the first rule that stops -/
def wk (M : Mach) : Nat → Cf → Option (Int × Int)
  | 0, _ => none
  | f + 1, c => if (rul M c.s (lk c.t c.x)).2.2 = -1 then some (c.s, lk c.t c.x) else wk M f (stp M c)
def KeyAt (K : PySem.W.Frag) (H : Hp) (v : V) (o : Option (Int × Int)) : Prop := match o with
  | none => v = .non
  | some q => ∃ t, v = .ref t ∧ SqT K H t [.int q.1, .int q.2]
theorem KeyAt.imm {K : PySem.W.Frag} {H H' : Hp} {v : V} {o : Option (Int × Int)} (i : Imm H H') (h : KeyAt K H v o) : KeyAt K H' v o := by
  cases o with
  | none => exact h
  | some q =>
    obtain ⟨t, e, h⟩ := h
    exact ⟨t, e, i.sqt h⟩
def spWalked (K : PySem.W.Frag) : Sp := fun vs H Q _ => ∃ (m : V) (M : Mach) (k n : Nat), vs = [m, .int (n : Int)] ∧ MachAt K H m M ∧ Wf M k ∧ n ≤ 1000 ∧ ∀ a r s y z H', Same H H' → SqT K H' a [r, s, y, z] → KeyAt K H' z (wk M n ini) → Q (.ref a) H'
theorem sm_drop {S : List Addr} {H H1 H2 : Hp} (a : Same H H1) (b : Fr S H1 H2) (h : ∀ z ∈ S, H z = none) : Same H H2 := fun c o e => b c o (a c o e) fun z => by
  rw [h c z] at e
  cases e
theorem flat_ints (as : List Int) : (as.map V.int).all flatV = true := by
  rw [List.all_eq_true]
  intro x hx
  obtain ⟨i, _, rfl⟩ := List.mem_map.mp hx
  rfl
/-- if x not in l: l.append(x) -/
theorem app_turn {K : PySem.W.Frag} {a b : Nat} {D : Ends} {σ : L2.St} {H : Hp} {l : Addr} {x : Int} {as : List Int} (h1 : σ[a]? = some (some (.int x))) (h2 : σ[b]? = some (some (.ref l))) (hl : H l = some (.lst (as.map .int))) (hz : as.length < sizeLine)
    (go : ∀ (as2 : List Int) (H' : Hp), H' l = some (.lst (as2.map .int)) → as2.length ≤ as.length + 1 → Fr [l] H H' → D.nx σ H') :
    tIfS (tTest (tOp (rIn K true) (tVar a) (tVar b))) (tDrop (tBM K "list" rAppend (tVar b) (tCons (tVar a) tNil))) tNext D σ H := by
  refine ⟨_, h1, _, h2, l, as.map .int, rfl, .inl (.of hl), rfl, flat_ints as, _, rfl, ?_⟩
  refine ite2 (fun _ => ?_) (fun _ => go as H hl (Nat.le_succ _) (Fr.refl H))
  refine ⟨_, h2, .inl ⟨rfl, _, .of hl⟩, _, h1, l, _, _, rfl, rfl, hl, by rw [List.length_map]; exact hz, ?_⟩
  refine go (as ++ [x]) _ ?_ (by rw [List.length_append]; exact Nat.le_refl _) (Fr.set (by simp))
  rw [List.map_append]
  exact upd_same
section
variable {P : Program} {w : World} {K : PySem.W.Frag} {mg : Str → Option Value} {base : Heap}
theorem sc_walked : FnScope ["machine", "count", "tape", "rules", "states", "symbols", "_", "key", "write", "state"] ["machine", "count"] (defScope s_walked) := ⟨rfl, rfl, rfl, by decide +kernel, rfl, by decide +kernel, by decide +kernel⟩
theorem ok_walked (T : Txt w K mg) : Has P w K mg base CX0 3 ("walked", none) ["machine", "count"] (spWalked K) := by
  obtain ⟨fd, F⟩ := T.fd 31 (d := d_walked) rfl rfl rfl
  obtain ⟨⟨fd1, G1, b1⟩, kp1⟩ := ok_t_init (P := P) (base := base) T
  obtain ⟨⟨fd2, G2, b2⟩, kp2⟩ := ok_t_symbol (P := P) (base := base) T
  obtain ⟨⟨fd3, G3, b3⟩, kp3⟩ := ok_t_take (P := P) (base := base) T
  obtain ⟨tS, gS⟩ := T.i_STOP
  have hblk := tupAt_ok (mores T.more).2.2.2.1
  have hble := tupAt_ok (mores T.more).2.2.2.2.1
  refine ⟨⟨fd, F.ok sc_walked (fun vs H Q E h => ?_) (fun cdv A outer s H vs Q E hr h => ?_), F.bindsN fun _ _ _ _ _ _ us hl => match us, hl with | [_, _], _ => rfl⟩, F.kp⟩
  · obtain ⟨m, M, k, n, rfl, _⟩ := h
    rfl
  · obtain ⟨m, M, k, n, rfl, hm, wf, hn, q⟩ := h
    have hu := hu_of hr
    have hr1 := hr.mono (by decide : 1 ≤ 2)
    refine ⟨_, PSs.nox (pss_cons (ps_set (i := 2) sc_walked.nd rfl (.inl rfl) (pe_make T.k_Tape G1 hr (by rfl) T.g_Tape b1 .nil pass0 (pa_cons (pe_glob (v := .ref (He.ga K "BLANK")) rfl T.g_BLANK rfl) pa_nil)))
      (pss_cons (ps_set (i := 3) sc_walked.nd rfl (.inl rfl) pe_dnewT)
      (pss_cons (ps_set (i := 4) sc_walked.nd rfl (.inl rfl) (pe_lst (pa_cons pe_int pa_nil)))
      (pss_cons (ps_set (i := 5) sc_walked.nd rfl (.inl rfl) (pe_lst (pa_cons pe_int pa_nil)))
      (pss_cons (ps_for PassesOwn.never rfl (pi_range1 rfl T.z_range (pa_cons (pv 1) pa_nil)) (pg_name (i := 6) sc_walked.nd rfl (.inl rfl))
        (pss_cons (ps_set (i := 7) sc_walked.nd rfl (.inl rfl) (pe_tup (pa_cons (pe_fld (pv 2) rfl) (pa_cons (pe_meth0 (pv 2) T.c_Tape T.m_Tape_symbol G2 hr1 b2 .nil pass0) pa_nil))))
        (pss_cons (ps_asg (pe_ix ix_tup (pe_ix ix_tup (pv 0) (pe_ix ix_tup (pv 7) pe_int (fun _ _ => rfl)) (fun _ _ => rfl)) (pe_ix ix_tup (pv 7) pe_int (fun _ _ => rfl)) (fun _ _ => rfl))
            (pg_tup rfl (pgs_cons (pg_name (i := 8) sc_walked.nd rfl (.inl rfl)) (pgs_cons (pg_name (i := 6) sc_walked.nd rfl (.inl rfl)) (pgs_cons (pg_name (i := 9) sc_walked.nd rfl (.inl rfl)) pgs_nil)))))
        (pss_cons (ps_dput hu (pv 3) (pv 7) pe_bl rfl)
        (pss_cons (ps_if (pt_cmpR op_eq (pv 9) (pe_glob (v := .int (-1)) rfl gS ⟨_, rfl⟩) (nomark _)) (pss_one (ps_ret (pe_tup (pa_cons (pv 3) (pa_cons (pv 4) (pa_cons (pv 5) (pa_cons (pv 7) pa_nil))))))) pss_nil)
        (pss_cons (ps_if (pt_cmpR op_notIn_seq (pv 8) (pv 5) rfl) (pss_one (ps_expr (pe_bm PySem.F.plainAttrs_list PySem.F.slot_list_append PySem.F.type_list_append mt_append (pv 5) (pa_cons (pv 8) pa_nil)))) pss_nil)
        (pss_cons (ps_if (pt_cmpR op_notIn_seq (pv 9) (pv 4) rfl) (pss_one (ps_expr (pe_bm PySem.F.plainAttrs_list PySem.F.slot_list_append PySem.F.type_list_append mt_append (pv 4) (pa_cons (pv 9) pa_nil)))) pss_nil)
        (pss_one (ps_expr (pe_meth (pv 2) T.c_Tape T.m_Tape_take G3 hr b3 .nil pass0 (pa_cons (pv 0) pa_nil)))))))))))
      (pss_one (ps_ret (pe_tup (pa_cons (pv 3) (pa_cons (pv 4) (pa_cons (pv 5) (pa_cons pe_non pa_nil)))))))))))), ?_⟩
    intro p dx np ndx nepd
    have s0 : Same H (upd (upd H dx (.own p)) p (.ins (He.ga K "Tape") dx [])) := (sm_new ndx).trans (sm_new ((upd_ne nepd.symm).trans np))
    refine ⟨p, dx, _, _, rfl, upd_same, hblk _, hble _, fun d H1 nd r1 f1 => ⟨rfl, ?_⟩⟩
    have s1 : Same H H1 := (Fr.drop (S := []) (sm_fr s0) f1 np).same
    have nd0 := s0.free nd
    intro rd nrd
    have sR := s1.trans (sm_new (o := .dT []) nrd)
    have nrd0 : H rd = none := s1.free nrd
    refine ⟨by show 1 ≤ sizeLine; decide, fun ls nls => ?_⟩
    have sS := sR.trans (sm_new (o := .lst [.int 0]) nls)
    have nls0 : H ls = none := sR.free nls
    refine ⟨by show 1 ≤ sizeLine; decide, fun ly nly => ?_⟩
    have sY := sS.trans (sm_new (o := .lst [.int 0]) nly)
    have nly0 : H ly = none := sS.free nly
    have f1Y : Fr [] H1 _ := (Fr.new (S := []) (o := .dT []) nrd).trans ((Fr.new (o := .lst [.int 0]) nls).trans (Fr.new (o := .lst [.int 0]) nly))
    have rY := r1
    have hls := (Fr.new (S := []) (o := .lst [.int 0]) nly) ls _ upd_same (by simp)
    have hrd := ((Fr.new (S := []) (o := .lst [.int 0]) nls).trans (Fr.new (o := .lst [.int 0]) nly)) rd _ upd_same (by simp)
    have nlsy : ls ≠ ly := fun z => by
      rw [z] at nls
      rw [← z, upd_same] at nly
      cases nly
    generalize eY : upd (upd (upd H1 rd (.dT [])) ls (.lst [.int 0])) ly (.lst [.int 0]) = HY at sY f1Y hls hrd ⊢
    have hly : HY ly = some (.lst [.int 0]) := by rw [← eY]; exact upd_same
    have tY : TpAt K HY p dx d ini := by
      obtain ⟨l, u, o⟩ := r1.o
      exact ⟨⟨l, u, f1Y _ _ o (by simp)⟩, f1Y _ _ r1.d (by simp)⟩
    have nS : ∀ z ∈ [p, d, rd, ls, ly], H z = none := by simp [np, nd0, nrd0, nls0, nly0]
    have nprd : p ≠ rd := by
      obtain ⟨l, u, o⟩ := tY.o
      exact ne_of o hrd (fun z => by cases z)
    have npls : p ≠ ls := by
      obtain ⟨l, u, o⟩ := tY.o
      exact ne_of o hls (fun z => by cases z)
    have nply : p ≠ ly := by
      obtain ⟨l, u, o⟩ := tY.o
      exact ne_of o hly (fun z => by cases z)
    have ndrd : d ≠ rd := ne_of tY.d hrd (fun z => by cases z)
    have ndls : d ≠ ls := ne_of tY.d hls (fun z => by cases z)
    have ndly : d ≠ ly := ne_of tY.d hly (fun z => by cases z)
    have nrls : rd ≠ ls := ne_of hrd hls (fun z => by cases z)
    have nrly : rd ≠ ly := ne_of hrd hly (fun z => by cases z)
    refine ⟨_, rfl, (n : Int), rfl, by omega, by omega, ?_⟩
    rw [Int.toNat_natCast]
    refine for_range (lo := 0) (n := n) (fun i σ H' => ∃ c y6 y7 y8 y9 kvs as bs, σ = [some m, some (.int (n : Int)), some (.ref p), some (.ref rd), some (.ref ls), some (.ref ly), y6, y7, y8, y9] ∧ TpAt K H' p dx d c ∧ Ok M k c ∧ 0 ≤ c.s ∧ c.t.length ≤ i ∧
      H' rd = some (.dT kvs) ∧ kvs.length ≤ i ∧ H' ls = some (.lst (as.map .int)) ∧ as.length ≤ i + 1 ∧ H' ly = some (.lst (bs.map .int)) ∧ bs.length ≤ i + 1 ∧ Same H H' ∧ wk M n ini = wk M (n - i) c)
      ⟨ini, none, none, none, none, [], [0], [0], rfl, tY, Ok.ini wf, Int.le_refl _, Nat.le_refl _, hrd, Nat.le_refl _, hls, Nat.le_refl _, hly, Nat.le_refl _, sY, rfl⟩ ?_ ?_
    · rintro i σ H' hi ⟨c, y6, y7, y8, y9, kvs, as, bs, rfl, r, ok, h0, hl, er, hkl, es, hal, ey, hbl, sH, ew⟩
      obtain ⟨l, u, o⟩ := r.o
      have hy := ok.sym c.x
      refine ⟨_, rfl, p, _, dx, _, _, rfl, o, T.c_Tape, T.n_Tape_state, l_t_state, ?_⟩
      refine ⟨_, rfl, p, dx, _, rfl, o, m_t_symbol, p, dx, d, c, rfl, r, ?_⟩
      refine ⟨by show 2 ≤ sizeLine; decide, fun t nt => ?_⟩
      have sT : Same H' (upd H' t (.tup [.int c.s, .int (lk c.t c.x)])) := sm_new nt
      have hmt := hm.imm (sm_imm (sH.trans sT))
      obtain ⟨a, ws, b, us, cc, em, ha, e1, hb, e2, hc⟩ := hmt.rule wf h0 ok.st.2 hy.1 hy.2
      subst em
      have tt : (upd H' t (.tup [.int c.s, .int (lk c.t c.x)])) t = some (.tup [.int c.s, .int (lk c.t c.x)]) := upd_same
      generalize upd H' t (.tup [.int c.s, .int (lk c.t c.x)]) = HT at sT hmt ha hb hc tt ⊢
      refine ⟨_, rfl, _, rfl, t, _, 0, _, rfl, rfl, .of tt, rfl, a, ws, c.s, _, rfl, rfl, ha, e1, ?_⟩
      refine ⟨_, rfl, t, _, 1, _, rfl, rfl, .of tt, rfl, b, us, _, _, rfl, rfl, hb, e2, ?_⟩
      refine ⟨cc, _, rfl, hc, rfl, _, _, rfl, _, _, rfl, _, _, rfl, rfl, ?_⟩
      -- rules[key] = True
      refine ⟨_, rfl, _, rfl, rd, _, rfl, DPut.t (k := [Sum.inl c.s, Sum.inl (lk c.t c.x)]) (sT _ _ er) tt (Nat.lt_of_le_of_lt hkl (Nat.lt_of_lt_of_le (show i < 1000 by omega) (by rw [sizeLine_eq]; decide))), ?_⟩
      have hkl2 := length_putK kvs [Sum.inl c.s, Sum.inl (lk c.t c.x)] (V.bl true)
      generalize putK kvs [Sum.inl c.s, Sum.inl (lk c.t c.x)] (V.bl true) = kvs2 at hkl2 ⊢
      have sU : Same H (upd HT rd (.dT kvs2)) := sm_drop (S := [rd]) (sH.trans sT) (Fr.set (by simp)) (by simp [nrd0])
      have es2 : (upd HT rd (.dT kvs2)) ls = some (.lst (as.map .int)) := (upd_ne nrls.symm).trans (sT _ _ es)
      have ey2 : (upd HT rd (.dT kvs2)) ly = some (.lst (bs.map .int)) := (upd_ne nrly.symm).trans (sT _ _ ey)
      have er2 : (upd HT rd (.dT kvs2)) rd = some (.dT kvs2) := upd_same
      have r2 : TpAt K (upd HT rd (.dT kvs2)) p dx d c := ⟨⟨l, u, (upd_ne nprd).trans (sT _ _ o)⟩, (upd_ne ndrd).trans (sT _ _ r.d)⟩
      have tt2 : (upd HT rd (.dT kvs2)) t = some (.tup [.int c.s, .int (lk c.t c.x)]) := (upd_ne (fun z => by
        rw [z, sT _ _ er] at tt
        cases tt)).trans tt
      generalize upd HT rd (.dT kvs2) = HU at sU es2 ey2 er2 r2 tt2 ⊢
      have ew2 : wk M n ini = if (rul M c.s (lk c.t c.x)).2.2 = -1 then some (c.s, lk c.t c.x) else wk M (n - (i + 1)) (stp M c) := by
        rw [ew, show n - i = (n - (i + 1)) + 1 by omega]
        rfl
      refine ⟨_, rfl, rfl, _, rfl, ?_⟩
      rw [dec_int]
      by_cases e : (rul M c.s (lk c.t c.x)).2.2 = -1
      · rw [decide_eq_true e]
        rw [if_pos e] at ew2
        refine iteT ?_
        refine ⟨_, rfl, _, rfl, _, rfl, _, rfl, by show 4 ≤ sizeLine; decide, fun g ng => ?_⟩
        refine q g _ _ _ _ _ (sU.trans (sm_new ng)) (.of upd_same) ?_
        rw [ew2]
        exact ⟨t, rfl, .of ((upd_ne (ne_of_none tt2 ng)).trans tt2)⟩
      · rw [decide_eq_false e]
        rw [if_neg e] at ew2
        refine iteF ?_
        have hru := rul_ok wf h0 ok.st.2 hy.1 hy.2
        refine app_turn (l := ly) (as := bs) rfl rfl ey2 (Nat.lt_of_le_of_lt hbl (Nat.lt_of_lt_of_le (show i + 1 < 1001 by omega) (by rw [sizeLine_eq]; decide))) fun bs2 H2 ey3 hb3 f2 => ?_
        refine app_turn (l := ls) (as := as) rfl rfl (f2 _ _ es2 (by simp [nlsy])) (Nat.lt_of_le_of_lt hal (Nat.lt_of_lt_of_le (show i + 1 < 1001 by omega) (by rw [sizeLine_eq]; decide))) fun as2 H3 es3 ha3 f3 => ?_
        have fU3 : Fr [ls, ly] HU H3 := (f2.mono (by simp)).trans (f3.mono (by simp))
        have s3 : Same H H3 := sm_drop sU fU3 (by simp [nls0, nly0])
        have r3 : TpAt K H3 p dx d c := by
          obtain ⟨l, u, o⟩ := r2.o
          exact ⟨⟨l, u, fU3 _ _ o (by simp [npls, nply])⟩, fU3 _ _ r2.d (by simp [ndls, ndly])⟩
        obtain ⟨l3, u3, o3⟩ := r3.o
        refine ⟨_, rfl, p, dx, _, rfl, o3, m_t_take, _, rfl, p, dx, d, _, M, k, c, rfl, r3, hm.imm (sm_imm s3), ok, h0, by omega, fun H4 r4 f4 => ?_⟩
        refine ⟨stp M c, _, _, _, _, kvs2, as2, bs2, rfl, r4, ok.stp h0, ?_, ?_, ?_, ?_, ?_, ?_, ?_, ?_, ?_, ew2⟩
        · show 0 ≤ (rul M c.s (lk c.t c.x)).2.2
          omega
        · have := stp_len M c
          omega
        · exact f4 _ _ (fU3 _ _ er2 (by simp [nrls, nrly])) (by simp [nprd.symm, ndrd.symm])
        · omega
        · exact f4 _ _ es3 (by simp [npls.symm, ndls.symm])
        · omega
        · exact f4 _ _ (f3 _ _ ey3 (by simp [nlsy.symm])) (by simp [nply.symm, ndly.symm])
        · omega
        · exact sm_drop s3 f4 (by simp [np, nd0])
    · rintro σ H' ⟨c, y6, y7, y8, y9, kvs, as, bs, rfl, r, ok, h0, hl, er, hkl, es, hal, ey, hbl, sH, ew⟩
      refine ⟨_, rfl, _, rfl, _, rfl, by show 4 ≤ sizeLine; decide, fun g ng => ?_⟩
      refine q g _ _ _ _ _ (sH.trans (sm_new ng)) (.of upd_same) ?_
      rw [ew, Nat.sub_self]
      rfl
end
end K79

namespace K79
open PySem PySem.Spec PyProof.Rows L2
def rootM (n k : Nat) : Mach := List.replicate n (List.replicate k (1, 1, -1))
def setR (M : Mach) (s y : Int) (r : Rule) : Mach := M.set s.toNat ((M.getD s.toNat []).set y.toNat r)
def spRoot (K : PySem.W.Frag) : Sp := fun vs H Q _ => ∃ n k : Nat, vs = [.int (n : Int), .int (k : Int)] ∧ n ≤ 4 ∧ k ≤ 4 ∧ ∀ v H', Same H H' → MachAt K H' v (rootM n k) → Q v H'
def spRepl (K : PySem.W.Frag) : Sp := fun vs H Q _ => ∃ (m : V) (M : Mach) (k : Nat) (v : V) (s y : Int) (r : V) (ru : Rule), vs = [m, v, r] ∧ MachAt K H m M ∧ Wf M k ∧ KeyAt K H v (some (s, y)) ∧ 0 ≤ s ∧ s < M.length ∧ 0 ≤ y ∧ y < k ∧ RuleAt K H r ru ∧ ∀ v H', Same H H' → MachAt K H' v (setR M s y ru) → Q v H'
theorem prd_rep {α β : Type} {R : α → β → Prop} {x : α} {y : β} (h : R x y) : ∀ n, Paired R (List.replicate n x) (List.replicate n y)
  | 0 => .nil
  | n + 1 => .cons h (prd_rep h n)
theorem prd_of {α β : Type} {R : α → β → Prop} : ∀ {l : List α} {m : List β}, l.length = m.length → (∀ (i : Nat) (x : α) (y : β), l[i]? = some x → m[i]? = some y → R x y) → Paired R l m
  | [], [], _, _ => .nil
  | [], _ :: _, h, _ => by cases h
  | _ :: _, [], h, _ => by cases h
  | a :: l, b :: m, h, c => .cons (c 0 a b rfl rfl) (prd_of (Nat.succ.inj h) fun i x y e1 e2 => c (i + 1) x y e1 e2)
theorem prd_set {α β : Type} {R : α → β → Prop} {x : α} {y : β} (h : R x y) : ∀ {l : List α} {m : List β} (i : Nat), Paired R l m → Paired R (l.set i x) (m.set i y)
  | _, _, _, .nil => .nil
  | _, _, 0, .cons _ t => .cons h t
  | _, _, i + 1, .cons r t => .cons r (prd_set h i t)
def RowL (K : PySem.W.Frag) (H : Hp) (v : V) (l : List Rule) : Prop := ∃ a vs, v = .ref a ∧ H a = some (.lst vs) ∧ Paired (RuleAt K H) vs l
theorem ixN_nat {n : Nat} {i : Int} (h0 : 0 ≤ i) (h1 : i < n) : ixN n i = some i.toNat := by
  unfold ixN
  rw [if_pos h0, if_pos h1]
section
variable {P : Program} {w : World} {K : PySem.W.Frag} {mg : Str → Option Value} {base : Heap}
theorem sc_root : FnScope ["states", "symbols"] ["states", "symbols"] (defScope s_root) := ⟨rfl, rfl, rfl, by decide +kernel, rfl, by decide +kernel, by decide +kernel⟩
theorem ok_root (T : Txt w K mg) : Has P w K mg base CX0 1 ("root", none) ["states", "symbols"] (spRoot K) := by
  obtain ⟨fd, F⟩ := T.fd 32 (d := d_root) rfl rfl rfl
  have hpl := tupAt_ok (mores T.more).2.2.2.2.2.1
  refine ⟨⟨fd, F.ok sc_root (fun vs H Q E h => ?_) (fun cdv A outer s H vs Q E hr h => ?_), F.bindsN fun _ _ _ _ _ _ us hl => match us, hl with | [_, _], _ => rfl⟩, F.kp⟩
  · obtain ⟨n, k, rfl, _⟩ := h
    rfl
  · obtain ⟨n, k, rfl, hn, hk, q⟩ := h
    refine ⟨_, PSs.nox (pss_one (ps_ret (pe_callTy call_tup (by rfl) T.z_tuple (by decide +kernel) (pa_cons (pe_op op_rep (pe_lst (pa_cons (pe_callTy call_tup (by rfl) T.z_tuple (by decide +kernel) (pa_cons
      (pe_op op_rep (pe_lst (pa_cons (pe_glob (v := .ref (He.ga K "PLAIN")) rfl T.g_PLAIN rfl) pa_nil)) (pv 1)) pa_nil)) pa_nil)) (pv 0)) pa_nil)))), ?_⟩
    refine ⟨by show 1 ≤ sizeLine; decide, fun p1 n1 => ⟨_, rfl, p1, (k : Int), _, rfl, rfl, upd_same, by omega, by omega, ?_, fun p2 n2 => ?_⟩⟩
    · rw [sizeLine_eq]
      show 1 * _ ≤ _
      omega
    have e1 : (List.replicate (k : Int).toNat [V.ref (He.ga K "PLAIN")]).flatten = List.replicate k (V.ref (He.ga K "PLAIN")) := by
      rw [rep_flat]
      rfl
    rw [e1]
    refine ⟨p2, _, rfl, .inl ⟨.of upd_same, fun p3 n3 => ?_⟩⟩
    refine ⟨by show 1 ≤ sizeLine; decide, fun p4 n4 => ⟨_, rfl, p4, (n : Int), _, rfl, rfl, upd_same, by omega, by omega, ?_, fun p5 n5 => ?_⟩⟩
    · rw [sizeLine_eq]
      show 1 * _ ≤ _
      omega
    have e2 : (List.replicate (n : Int).toNat [V.ref p3]).flatten = List.replicate n (V.ref p3) := by
      rw [rep_flat]
      rfl
    rw [e2]
    refine ⟨p5, _, rfl, .inl ⟨.of upd_same, fun p6 n6 => ?_⟩⟩
    have s3 := (sm_new (o := .lst [V.ref (He.ga K "PLAIN")]) n1).trans ((sm_new (o := .lst (List.replicate k (V.ref (He.ga K "PLAIN")))) n2).trans (sm_new (o := .tup (List.replicate k (V.ref (He.ga K "PLAIN")))) n3))
    have s6 := (sm_new (o := .lst [V.ref p3]) n4).trans ((sm_new (o := .lst (List.replicate n (V.ref p3))) n5).trans (sm_new (o := .tup (List.replicate n (V.ref p3))) n6))
    refine q _ _ (s3.trans s6) ⟨p6, _, rfl, .of upd_same, prd_rep ⟨p3, _, rfl, .of (s6 _ _ upd_same), prd_rep ⟨_, rfl, hpl _⟩ k⟩ n⟩
theorem sc_replaced : FnScope ["machine", "key", "rule", "rows", "row"] ["machine", "key", "rule"] (defScope s_replaced) := ⟨rfl, rfl, rfl, by decide +kernel, rfl, by decide +kernel, by decide +kernel⟩
theorem ok_replaced (T : Txt w K mg) : Has P w K mg base CX0 1 ("replaced", none) ["machine", "key", "rule"] (spRepl K) := by
  obtain ⟨fd, F⟩ := T.fd 34 (d := d_replaced) rfl rfl rfl
  refine ⟨⟨fd, F.ok sc_replaced (fun vs H Q E h => ?_) (fun cdv A outer s H vs Q E hr h => ?_), F.bindsN fun _ _ _ _ _ _ us hl => match us, hl with | [_, _, _], _ => rfl⟩, F.kp⟩
  · obtain ⟨m, M, k, v, s, y, r, ru, rfl, _⟩ := h
    rfl
  · obtain ⟨m, M, k, v, s, y, r, ru, rfl, ⟨a, vs, rfl, ha, hp⟩, wf, ⟨t, rfl, ht⟩, h0, h1, g0, g1, hru, q⟩ := h
    refine ⟨_, PSs.nox (pss_cons (ps_setLc (i := 3) (own := [("row", 4)]) (g := gName 4) (te := tCB (fun xs H Q => ∃ p ys, xs = [V.ref p] ∧ (SqL K H p ys ∨ SqT K H p ys) ∧ ∀ l, H l = none → Q (.ref l) (upd H l (.lst ys))) (tCons (tVar 4) tNil))
        (by rfl) sc_replaced.nd rfl rfl rfl (pi_tup (pv 0)) (blkOk_by (by kernel_rfl)) (fun _ _ _ _ _ => pg_name (i := 4) sc_replaced.nd rfl (Or.inl rfl)) (fun _ _ _ _ _ => pts_nil) (fun _ _ _ _ _ => by exact pe_callTy call_list_of (by rfl) T.z_list (by decide +kernel) (pa_cons (pv 4) pa_nil)))
      (pss_cons (ps_asg (pv 2) (pg_sub (pe_ix ix_list (pv 3) (pe_ix ix_tup (pv 1) pe_int (fun _ _ => rfl)) (fun _ _ => rfl)) (pe_ix ix_tup (pv 1) pe_int (fun _ _ => rfl)) set_list))
      (pss_one (ps_ret (pe_callTy call_tup (by rfl) T.z_tuple (by decide +kernel) (pa_cons (pe_lc (own := [("row", 4)]) (g := gName 4) (te := tCB (rTupOf K) (tCons (tVar 4) tNil))
        (by rfl) sc_replaced.nd (pi_list (pv 3)) (blkOk_by (by kernel_rfl)) (fun _ _ _ _ _ => pg_name (i := 4) sc_replaced.nd rfl (Or.inl rfl)) (fun _ _ _ _ _ => pts_nil) (fun _ _ _ _ _ => by exact pe_callTy call_tup (by rfl) T.z_tuple (by decide +kernel) (pa_cons (pv 4) pa_nil))) pa_nil)))))), ?_⟩
    refine ⟨_, rfl, a, rfl, ⟨_, ha⟩, fun D nD => ?_⟩
    refine lc_pure (walk_tup (xs := vs)) (fun i acc H' => Paired (RowL K H') acc (M.take i) ∧ acc.Nodup ∧ ∀ x ∈ acc, ∃ b, x = .ref b ∧ b ≠ D ∧ H b = none) nD (fun H' s => (sm_imm s).sqt ha) (fun i acc H4 H5 l e f z => ?_) ⟨.nil, List.nodup_nil, fun x hx => by cases hx⟩ ?_ (fun i acc H' z => ?_) ?_ ?_
    · have i : Imm H4 H5 := f.imm fun p hp => by
        rw [List.mem_singleton.mp hp, e]
        trivial
      refine ⟨prd_of z.1.length fun j x l e1 e2 => ?_, z.2⟩
      obtain ⟨x2, e3, b, us, rfl, hb, hq⟩ := prd_at z.1 e2
      rw [e1] at e3
      obtain ⟨b', eb, nb, _⟩ := z.2.2 x (List.mem_of_getElem? e1)
      have e3 := Option.some.inj e3
      subst e3
      have eb := V.ref.inj eb
      subst eb
      exact ⟨b, us, rfl, f _ _ hb (by simp [nb]), hq.mono fun _ _ => RuleAt.imm i⟩
    · have := wf.len
      have := hp.length
      omega
    · have := z.1.length
      rw [List.length_take] at this
      omega
    · rintro i x H' H'' acc hi s1 eD z ⟨rfl, ex⟩ C N hC hN
      obtain ⟨row, er, b, us, rfl, hb, hq⟩ := prd_at' hp ex
      have hb' := (sm_imm s1).sqt hb
      refine ⟨rfl, yes_ ?_⟩
      refine ⟨_, rfl, b, us, rfl, .inr hb', fun l nl => ?_⟩
      refine hC _ _ (sm_new nl) ?_
      have nlD : l ≠ D := fun e => by
        rw [e, eD] at nl
        cases nl
      refine ⟨?_, ?_, fun x hx => ?_⟩
      · rw [take_snoc er]
        refine (prd_of z.1.length fun j x l2 e1 e2 => ?_).snoc ⟨l, us, rfl, upd_same, hq.mono fun _ _ h => RuleAt.imm (sm_imm (s1.trans (sm_new nl))) h⟩
        obtain ⟨x2, e3, b2, us2, rfl, hb2, hq2⟩ := prd_at z.1 e2
        rw [e1] at e3
        have e3 := Option.some.inj e3
        subst e3
        exact ⟨b2, us2, rfl, sm_new nl _ _ hb2, hq2.mono fun _ _ => RuleAt.imm (sm_imm (sm_new nl))⟩
      · rw [List.nodup_append]
        refine ⟨z.2.1, by simp, fun u hu w hw => ?_⟩
        rw [List.mem_singleton.mp hw]
        rintro rfl
        obtain ⟨j, ej⟩ := List.getElem?_of_mem hu
        obtain ⟨row2, _, b2, us2, eb, hb2, _⟩ := prd_at' z.1 ej
        have eb := V.ref.inj eb
        subst eb
        rw [nl] at hb2
        cases hb2
      · rcases List.mem_append.mp hx with hx | hx
        · exact z.2.2 x hx
        · exact ⟨l, List.mem_singleton.mp hx, nlD, s1.free nl⟩
    · intro H' acc s1 eD z
      have e2 : vs.length = M.length := hp.length
      rw [e2, List.take_length] at z
      obtain ⟨zp, znd, zf⟩ := z
      have hs : s.toNat < M.length := by omega
      have hMs : M[s.toNat]? = some M[s.toNat] := List.getElem?_eq_getElem hs
      obtain ⟨xs, exs, b, us, rfl, hb, hq⟩ := prd_at zp hMs
      have hrl := wf.rows _ (List.getElem_mem hs)
      have hul : us.length = k := hq.length.trans hrl
      have ht' := (sm_imm s1).sqt ht
      -- rows[key[0]][key[1]] = rule
      refine ⟨_, rfl, _, rfl, _, rfl, t, _, 0, _, rfl, rfl, ht', rfl, D, acc, s, _, rfl, rfl, .of eD, atI_int h0 exs, ?_⟩
      refine ⟨_, rfl, t, _, 1, _, rfl, rfl, ht', rfl, b, us, y, y.toNat, rfl, rfl, hb, ixN_nat g0 (by rw [hul]; exact g1), ?_⟩
      obtain ⟨b', eb, nbD, fb⟩ := zf _ (List.mem_of_getElem? exs)
      have eb := V.ref.inj eb
      subst eb
      have s2 : Same H (upd H' b (.lst (us.set y.toNat r))) := sm_drop (S := [b]) (fun c o e => s1 _ _ e) (Fr.set (by simp)) (by simp [fb])
      have i2 : Imm H' (upd H' b (.lst (us.set y.toNat r))) := (Fr.set (S := [b]) (by simp)).imm fun p hp => by
        rw [List.mem_singleton.mp hp, hb]
        trivial
      have eD2 : (upd H' b (.lst (us.set y.toNat r))) D = some (.lst acc) := (upd_ne (Ne.symm nbD)).trans eD
      have zp2 : Paired (RowL K (upd H' b (.lst (us.set y.toNat r)))) acc (setR M s y ru) := by
        refine prd_of (by unfold setR; rw [List.length_set]; exact zp.length) fun j x l e1 e2 => ?_
        unfold setR at e2
        rw [List.getElem?_set] at e2
        by_cases hj : s.toNat = j
        · rw [if_pos hj, if_pos hs] at e2
          have e2 := Option.some.inj e2
          subst e2 hj
          rw [exs] at e1
          have e1 := Option.some.inj e1
          subst e1
          refine ⟨b, _, rfl, upd_same, ?_⟩
          rw [List.getD_eq_getElem?_getD, hMs]
          exact prd_set (RuleAt.imm (sm_imm s2) hru) _ (hq.mono fun _ _ => RuleAt.imm i2)
        · rw [if_neg hj] at e2
          obtain ⟨x2, e3, b2, us2, rfl, hb2, hq2⟩ := prd_at zp e2
          rw [e1] at e3
          have e3 := Option.some.inj e3
          subst e3
          have nb : b2 ≠ b := fun e => hj (by
            rw [e] at e1
            obtain ⟨h1, q1⟩ := List.getElem?_eq_some_iff.mp exs
            exact (List.getElem?_inj h1 znd).mp (exs.trans e1.symm))
          exact ⟨b2, us2, rfl, (upd_ne nb).trans hb2, hq2.mono fun _ _ => RuleAt.imm i2⟩
      generalize upd H' b (.lst (us.set y.toNat r)) = H2 at s2 eD2 zp2 ⊢
      have eal : acc.length = M.length := zp.length
      -- the tuple of tuples
      refine ⟨_, rfl, D, rfl, ⟨_, .of eD2⟩, fun D2 nD2 => ?_⟩
      refine lc_pure (walk_list (xs := acc)) (fun i acc2 H' => Paired (RowAt K H') acc2 ((setR M s y ru).take i)) nD2 (fun H' s => .of (s _ _ eD2)) (fun i acc H4 H5 l e f z => ?_) .nil ?_ (fun i acc H' z => ?_) ?_ ?_
      · have i : Imm H4 H5 := f.imm fun p hp => by
          rw [List.mem_singleton.mp hp, e]
          trivial
        exact z.mono fun _ _ => RowAt.imm i
      · have := wf.len
        omega
      · have := z.length
        rw [List.length_take] at this
        omega
      · rintro i x H4 H5 acc2 hi s4 eD4 z ⟨rfl, ex⟩ C N hC hN
        obtain ⟨row, er, b2, us2, rfl, hb2, hq2⟩ := prd_at' zp2 ex
        refine ⟨rfl, yes_ ?_⟩
        have s24 := s4
        refine ⟨_, rfl, b2, us2, rfl, .inl ⟨.of (s24 _ _ hb2), fun l nl => ?_⟩⟩
        refine hC _ _ (sm_new nl) ?_
        rw [take_snoc er]
        exact (z.mono fun _ _ => RowAt.imm (sm_imm (sm_new nl))).snoc ⟨l, us2, rfl, .of upd_same, hq2.mono fun _ _ => RuleAt.imm (sm_imm (s24.trans (sm_new nl)))⟩
      · intro H4 acc2 s4 eD4 z
        rw [zp2.length, List.take_length] at z
        refine ⟨D2, acc2, rfl, .inl ⟨.of eD4, fun l nl => ?_⟩⟩
        exact q _ _ (s2.trans (s4.trans (sm_new nl))) ⟨l, acc2, rfl, .of upd_same, z.mono fun _ _ => RowAt.imm (sm_imm (sm_new nl))⟩
end
end K79

namespace K79
open PySem PySem.Spec PyProof.Rows L2
/-! ### a comprehension of two loops, by invariants -/
def Inner (D : Addr) (g1 : TG) (tt1 : TT) (te : TE) (vs1 : List Nat) (Nx : Hp → Prop) (σ2 : L2.St) (J1 : It) (H4 : Hp) : Prop := ∃ W1 : Nat → Nat → Hp → Prop, (∃ m, W1 0 m H4) ∧ ∀ j k H, W1 j k H →
  (J1.stop j H ∧ Nx H) ∨ (J1.go j H ∧ ∃ Nx1 : Hp → Prop, (∀ H', Nx1 H' → ∃ k', k' < k ∧ W1 (j + 1) k' H') ∧ ∀ x H', J1.yld j H x H' → g1 x (wipe σ2 vs1) H' fun σ3 H5 => wipe σ3 vs1 = wipe σ2 vs1 ∧ tt1 σ3 H5 fun b H6 =>
    if b = true then te σ3 H6 fun y H7 => ∃ acc, H7 D = some (.lst acc) ∧ acc.length < sizeLine ∧ Nx1 (upd H7 D (.lst (acc ++ [y]))) else Nx1 H6)
section
variable {J : It} {n : Nat} {G : Hp → Prop} {Y : Nat → Hp → V → Hp → Prop}
theorem inner_it (w : Walk J n G Y) {D : Addr} {g1 : TG} {tt1 : TT} {te : TE} {vs1 : List Nat} {Nx : Hp → Prop} {σ2 : L2.St} {H4 : Hp} (Pv : Nat → Hp → Prop) (h0 : Pv 0 H4) (hG : ∀ i H, i ≤ n → Pv i H → G H)
    (hs : ∀ i x H H', i < n → Pv i H → Y i H x H' → g1 x (wipe σ2 vs1) H' fun σ3 H5 => wipe σ3 vs1 = wipe σ2 vs1 ∧ tt1 σ3 H5 fun b H6 =>
      if b = true then te σ3 H6 fun y H7 => ∃ acc, H7 D = some (.lst acc) ∧ acc.length < sizeLine ∧ Pv (i + 1) (upd H7 D (.lst (acc ++ [y]))) else Pv (i + 1) H6) (hd : ∀ H, Pv n H → Nx H) : Inner D g1 tt1 te vs1 Nx σ2 J H4 := by
  refine ⟨fun i m H => m = n - i ∧ i ≤ n ∧ Pv i H, ⟨n, by simp, Nat.zero_le _, h0⟩, ?_⟩
  rintro i m H ⟨rfl, hi, p⟩
  have q := hG i H hi p
  by_cases hlt : i < n
  · exact .inr ⟨w.goes i H hlt q, Pv (i + 1), fun H' p' => ⟨n - (i + 1), by omega, rfl, hlt, p'⟩, fun x H' y => hs i x H H' hlt p (w.yields i H x H' hlt q y)⟩
  · have e : i = n := by omega
    subst e
    exact .inl ⟨w.stops H q, hd H p⟩
theorem outer_it (w : Walk J n G Y) {g : TG} {tt : TT} {wi1 : TI} {g1 : TG} {tt1 : TT} {te : TE} {vs vs1 : List Nat} {σ : L2.St} {H1 : Hp} {D : Addr} {Qd : Hp → Prop} (Pv : Nat → Hp → Prop) (h0 : Pv 0 (upd H1 D (.lst []))) (hG : ∀ i H, i ≤ n → Pv i H → G H)
    (hs : ∀ i x H H', i < n → Pv i H → Y i H x H' → g x (wipe σ vs) H' fun σ2 H2 => wipe σ2 vs = wipe σ vs ∧ tt σ2 H2 fun b H3 =>
      if b = true then wi1 σ2 H3 fun J1 H4 => Inner D g1 tt1 te vs1 (Pv (i + 1)) σ2 J1 H4 else Pv (i + 1) H3) (hd : ∀ H, Pv n H → Qd H) :
    ∃ W : Nat → Nat → Hp → Prop, (∃ m, W 0 m (upd H1 D (.lst []))) ∧ ∀ i m H, W i m H →
      (J.stop i H ∧ Qd H) ∨ (J.go i H ∧ ∃ Nx : Hp → Prop, (∀ H', Nx H' → ∃ m', m' < m ∧ W (i + 1) m' H') ∧ ∀ x H', J.yld i H x H' → g x (wipe σ vs) H' fun σ2 H2 => wipe σ2 vs = wipe σ vs ∧ tt σ2 H2 fun b H3 =>
        if b = true then wi1 σ2 H3 fun J1 H4 => Inner D g1 tt1 te vs1 Nx σ2 J1 H4 else Nx H3) := by
  refine ⟨fun i m H => m = n - i ∧ i ≤ n ∧ Pv i H, ⟨n, by simp, Nat.zero_le _, h0⟩, ?_⟩
  rintro i m H ⟨rfl, hi, p⟩
  have q := hG i H hi p
  by_cases hlt : i < n
  · exact .inr ⟨w.goes i H hlt q, Pv (i + 1), fun H' p' => ⟨n - (i + 1), by omega, rfl, hlt, p'⟩, fun x H' y => hs i x H H' hlt p (w.yields i H x H' hlt q y)⟩
  · have e : i = n := by omega
    subst e
    exact .inl ⟨w.stops H q, hd H p⟩
end
end K79

namespace K79
open PySem PySem.Spec PyProof.Rows L2
def goM (M : Mach) : List Rule := M.flatten.filter fun r => !decide (r.2.2 = -1)
def minI (i j : Int) : Int := if j < i then j else i
def symM (M : Mach) : Int := minI (((M.headD []).length : Nat) - 1) (1 + maxOr ((goM M).map fun r => r.1) 0)
def staM (M : Mach) : Int := minI ((M.length : Nat) - 1) (1 + maxOr ((goM M).map fun r => r.2.2) 0)
def movM (M : Mach) : List Int := if (goM M).isEmpty = true then [1] else [-1, 1]
def ch1 (M : Mach) (q : Int × Int) (w : Nat) (mv : Int) (af : Nat) : Mach := setR M q.1 q.2 ((w : Int), mv, (af : Int))
def ch2 (M : Mach) (q : Int × Int) (w : Nat) (mv : Int) : List Mach := (List.range (staM M + 1).toNat).map (ch1 M q w mv)
def ch3 (M : Mach) (q : Int × Int) (w : Nat) : List Mach := (movM M).flatMap (ch2 M q w)
def chM (M : Mach) (n : Nat) : List Mach := match wk M n ini with
  | none => []
  | some q => if ((M.length : Nat) : Int) * ((M.headD []).length : Nat) - (goM M).length < 2 then [] else (List.range (symM M + 1).toNat).flatMap (ch3 M q)
def MsAt (K : PySem.W.Frag) (H : Hp) (v : V) (L : List Mach) : Prop := ∃ a vs, v = .ref a ∧ H a = some (.lst vs) ∧ Paired (MachAt K H) vs L
theorem fold_ge (y : Int) : ∀ ys : List Int, y ≤ ys.foldl max y
  | [] => Int.le_refl _
  | z :: r => Int.le_trans (Int.le_max_left y z) (fold_ge (max y z) r)
theorem maxOr_ge {ns : List Int} (h : ∀ x ∈ ns, -1 ≤ x) : -1 ≤ maxOr ns 0 := by
  cases ns with
  | nil => decide
  | cons a r => exact Int.le_trans (h a (List.mem_cons_self)) (fold_ge a r)
theorem go_mem {M : Mach} {r : Rule} (h : r ∈ goM M) : ∃ l ∈ M, r ∈ l := by
  have := (List.mem_filter.mp h).1
  exact List.mem_flatten.mp this
theorem head_len {M : Mach} {k : Nat} (wf : Wf M k) : (M.headD []).length = k ∧ M[0]? = some (M.headD []) := by
  cases M with
  | nil => exact absurd wf.len.1 (by decide)
  | cons l r => exact ⟨wf.rows l (List.mem_cons_self), rfl⟩
theorem minI_le (i j : Int) : minI i j ≤ i := by
  unfold minI
  split <;> omega
theorem minI_ge {i j c : Int} (h1 : c ≤ i) (h2 : c ≤ j) : c ≤ minI i j := by
  unfold minI
  split <;> omega
theorem symM_b {M : Mach} {k : Nat} (wf : Wf M k) : 0 ≤ symM M ∧ symM M ≤ 3 ∧ symM M < k := by
  have h := head_len wf
  have h2 := wf.sym
  have h3 := minI_le (((M.headD []).length : Nat) - 1) (1 + maxOr ((goM M).map fun r => r.1) 0)
  have h4 : -1 ≤ maxOr ((goM M).map fun r => r.1) 0 := maxOr_ge fun x hx => by
    obtain ⟨r, hr, rfl⟩ := List.mem_map.mp hx
    obtain ⟨l, hl, hr⟩ := go_mem hr
    have := wf.rule l hl r hr
    omega
  have h5 : (0 : Int) ≤ symM M := minI_ge (by rw [h.1]; omega) (by omega)
  refine ⟨h5, ?_, ?_⟩ <;> (unfold symM; rw [h.1] at h3 ⊢; omega)
theorem staM_b {M : Mach} {k : Nat} (wf : Wf M k) : 0 ≤ staM M ∧ staM M ≤ 3 ∧ staM M < M.length := by
  have h2 := wf.len
  have h3 := minI_le ((M.length : Nat) - 1) (1 + maxOr ((goM M).map fun r => r.2.2) 0)
  have h4 : -1 ≤ maxOr ((goM M).map fun r => r.2.2) 0 := maxOr_ge fun x hx => by
    obtain ⟨r, hr, rfl⟩ := List.mem_map.mp hx
    obtain ⟨l, hl, hr⟩ := go_mem hr
    have := wf.rule l hl r hr
    omega
  have h5 : (0 : Int) ≤ staM M := minI_ge (by omega) (by omega)
  refine ⟨h5, ?_, ?_⟩ <;> (unfold staM; omega)
theorem wk_ok {M : Mach} {k : Nat} {q : Int × Int} : ∀ (n : Nat) {c : Cf}, Ok M k c → 0 ≤ c.s → wk M n c = some q → 0 ≤ q.1 ∧ q.1 < M.length ∧ 0 ≤ q.2 ∧ q.2 < k
  | 0, _, _, _, e => by cases e
  | n + 1, c, o, h0, e => by
    unfold wk at e
    have hy := o.sym c.x
    by_cases z : (rul M c.s (lk c.t c.x)).2.2 = -1
    · rw [if_pos z] at e
      have e := Option.some.inj e
      subst e
      exact ⟨h0, o.st.2, hy.1, hy.2⟩
    · rw [if_neg z] at e
      refine wk_ok n (o.stp h0) ?_ e
      have := rul_ok o.wf h0 o.st.2 hy.1 hy.2
      show 0 ≤ (rul M c.s (lk c.t c.x)).2.2
      omega
theorem mov_len (M : Mach) : (movM M).length ≤ 2 := by
  unfold movM
  split <;> decide
theorem yesI {wi1 : TI} {σ : L2.St} {H : Hp} {C : It → Hp → Prop} {N : Hp → Prop} (h : wi1 σ H C) : tYes σ H (fun b H3 => if b = true then wi1 σ H3 C else N H3) := h
section
variable {K : PySem.W.Frag}
/-- max([.. for rule in going], default=0) -/
theorem goings {H : Hp} {gL : Addr} {gs : List V} {L : List Rule} {v0 v1 v2 v4 v5 v6 v7 v8 v9 v10 v11 : Option V} (hg : H gL = some (.lst gs)) (hp : Paired (RuleAt K H) gs L) (hn : L.length ≤ 100) (f : Rule → Int) (te : TE)
    (hte : ∀ (c : Addr) (r : Rule) (H' : Hp) (Q' : VK), SqT K H' c [.int r.1, .int r.2.1, .int r.2.2] → Q' (.int (f r)) H' → te [v0, v1, v2, some (.ref gL), v4, v5, v6, v7, v8, v9, v10, v11, none, some (.ref c)] H' Q') {Q : VK}
    (q : ∀ H', Same H H' → Q (.int (maxOr (L.map f) 0)) H') :
    tCKw (rMaxD K) (tCons (tLc (iList K (tVar 3)) (gName 13) tYes te [13]) tNil) (tCons (tC (.int 0)) tNil) [v0, v1, v2, some (.ref gL), v4, v5, v6, v7, v8, v9, v10, v11, none, none] H Q := by
  refine ⟨_, rfl, gL, rfl, ⟨_, .of hg⟩, fun D nD => ?_⟩
  refine lc_pure (walk_list (xs := gs)) (fun i acc _ => acc = ((L.take i).map f).map V.int) nD (fun H' s => .of (s _ _ hg)) (fun _ _ _ _ _ _ _ h => h) rfl ?_ (fun i acc H' e => ?_) ?_ ?_
  · rw [hp.length]
    omega
  · rw [e, List.length_map, List.length_map, List.length_take]
    omega
  · rintro i x H' H'' acc hi s1 _ ea ⟨rfl, ex⟩ C N hC hN
    obtain ⟨r, er, c, rfl, hc⟩ := prd_at' hp ex
    refine ⟨rfl, yes_ ?_⟩
    refine hte c r H'' _ ((sm_imm s1).sqt hc) ?_
    refine hC _ _ (Same.refl _) ?_
    rw [ea, take_snoc er, List.map_append, List.map_append]
    rfl
  · intro H' acc s1 eD ea
    rw [hp.length, List.take_length] at ea
    subst ea
    exact ⟨D, L.map f, 0, rfl, rfl, .of eD, q H' s1⟩
theorem prd_emp {α β : Type} {R : α → β → Prop} {l : List α} {m : List β} (p : Paired R l m) : l.isEmpty = m.isEmpty := by
  cases p <;> rfl
theorem rng_flat {f : Nat → List Mach} (n : Nat) : (List.range (n + 1)).flatMap f = (List.range n).flatMap f ++ f n := by
  rw [List.range_succ, List.flatMap_append, List.flatMap_singleton]
/-- the three loops -/
theorem loops {D : Ends} {H : Hp} {m last : V} {mL : Addr} {M : Mach} {k : Nat} {kq : Int × Int} {v1 v3 v4 v8 v9 v10 v11 v12 v13 : Option V} (hm : MachAt K H m M) (wf : Wf M k) (hk : KeyAt K H last (some kq)) (hkq : 0 ≤ kq.1 ∧ kq.1 < M.length ∧ 0 ≤ kq.2 ∧ kq.2 < k) (hmL : H mL = some (.lst ((movM M).map .int)))
    (q : ∀ v H', Same H H' → MsAt K H' v ((List.range (symM M + 1).toNat).flatMap (ch3 M kq)) → D.rt v H') :
    tSeq (tAsg (tLst tNil) (gName 8)) (tSeq (tFor (iRng1 (tCons (tOp (rI0 fun i j => .int (i + j)) (tVar 5) (tC (.int 1))) tNil)) (gName 9) (tFor (iList K (tVar 7)) (gName 10) (tFor (iRng1 (tCons (tOp (rI0 fun i j => .int (i + j)) (tVar 6) (tC (.int 1))) tNil)) (gName 11) (tDrop (tBM K "list" rAppend (tVar 8) (tCons (tCall (spRepl K) [] E0 (tCons (tVar 0) (tCons (tVar 2) (tCons (tTup (tCons (tVar 9) (tCons (tVar 10) (tCons (tVar 11) tNil)))) tNil)))) tNil)))))) (tRet (tVar 8)))
      D [some m, v1, some last, v3, v4, some (.int (symM M)), some (.int (staM M)), some (.ref mL), v8, v9, v10, v11, v12, v13] H := by
  have hsb := symM_b wf
  have htb := staM_b wf
  have hml := mov_len M
  refine ⟨Nat.zero_le _, fun fL nfL => ?_⟩
  have hmf : mL ≠ fL := ne_of_none hmL nfL
  have s1 : Same H (upd H fL (.lst [])) := sm_new nfL
  have eF : (upd H fL (.lst [])) fL = some (.lst []) := upd_same
  generalize upd H fL (.lst []) = H1 at s1 eF ⊢
  have sf : ∀ z ∈ [fL], Soft (H1 z) := fun z hz => by
    rw [List.mem_singleton.mp hz, eF]
    trivial
  refine ⟨_, rfl, _, _, rfl, rfl, symM M + 1, rfl, by omega, by omega, ?_⟩
  refine for_range (lo := 0) (n := (symM M + 1).toNat) (fun i σ H' => ∃ y9 y10 y11 vs, σ = [some m, v1, some last, v3, v4, some (.int (symM M)), some (.int (staM M)), some (.ref mL), some (.ref fL), y9, y10, y11, v12, v13] ∧
    H' fL = some (.lst vs) ∧ Fr [fL] H1 H' ∧ Paired (MachAt K H') vs ((List.range i).flatMap (ch3 M kq)) ∧ vs.length ≤ 8 * i) ⟨_, _, _, [], rfl, eF, Fr.refl _, .nil, Nat.le_refl _⟩ ?_ ?_
  · rintro i σ H2 hi ⟨y9, y10, y11, vs, rfl, e2, f2, p2, l2⟩
    refine ⟨_, rfl, mL, rfl, ⟨_, .of (f2 _ _ (s1 _ _ hmL) (by simp [hmf]))⟩, ?_⟩
    refine for_list (xs := (movM M).map .int) (fun j σ H' => ∃ y10 y11 vs, σ = [some m, v1, some last, v3, v4, some (.int (symM M)), some (.int (staM M)), some (.ref mL), some (.ref fL), some (.int (0 + (i : Int))), y10, y11, v12, v13] ∧
      H' fL = some (.lst vs) ∧ Fr [fL] H1 H' ∧ Paired (MachAt K H') vs ((List.range i).flatMap (ch3 M kq) ++ ((movM M).take j).flatMap (ch2 M kq i)) ∧ vs.length ≤ 8 * i + 4 * j) ⟨_, _, vs, rfl, e2, f2, by rw [List.take_zero, List.flatMap_nil, List.append_nil]; exact p2, l2⟩
      (fun j σ H' _ ⟨_, _, _, _, _, f, _, _⟩ => .of (f _ _ (s1 _ _ hmL) (by simp [hmf]))) ?_ ?_
    · rintro j x σ H3 ex ⟨y10, y11, vs, rfl, e3, f3, p3, l3⟩
      rw [List.getElem?_map] at ex
      obtain ⟨mv, emv, rfl⟩ := Option.map_eq_some_iff.mp ex
      have hj : j < (movM M).length := (List.getElem?_eq_some_iff.mp emv).1
      refine ⟨_, rfl, _, _, rfl, rfl, staM M + 1, rfl, by omega, by omega, ?_⟩
      refine for_range (lo := 0) (n := (staM M + 1).toNat) (fun l σ H' => ∃ y11 vs, σ = [some m, v1, some last, v3, v4, some (.int (symM M)), some (.int (staM M)), some (.ref mL), some (.ref fL), some (.int (0 + (i : Int))), some (.int mv), y11, v12, v13] ∧
        H' fL = some (.lst vs) ∧ Fr [fL] H1 H' ∧ Paired (MachAt K H') vs (((List.range i).flatMap (ch3 M kq) ++ ((movM M).take j).flatMap (ch2 M kq i)) ++ (List.range l).map (ch1 M kq i mv)) ∧ vs.length ≤ 8 * i + 4 * j + l) ⟨_, vs, rfl, e3, f3, by rw [show List.range 0 = [] from rfl, List.map_nil, List.append_nil]; exact p3, l3⟩ ?_ ?_
      · rintro l σ H4 hl ⟨y11, vs, rfl, e4, f4, p4, l4⟩
        have i4 := f4.imm sf
        have hm4 := (hm.imm (sm_imm s1)).imm i4
        have hk4 := (hk.imm (sm_imm s1)).imm i4
        refine ⟨_, rfl, .inl ⟨rfl, _, .of e4⟩, ?_⟩
        refine ⟨_, rfl, _, rfl, _, rfl, _, rfl, _, rfl, by show 3 ≤ sizeLine; decide, fun p np => ?_⟩
        have sP := sm_new (o := .tup [.int (0 + (i : Int)), .int mv, .int (0 + (l : Int))]) np
        refine ⟨m, M, k, last, kq.1, kq.2, .ref p, (0 + (i : Int), mv, 0 + (l : Int)), rfl, hm4.imm (sm_imm sP), wf, hk4.imm (sm_imm sP), hkq.1, hkq.2.1, hkq.2.2.1, hkq.2.2.2, ⟨p, rfl, .of upd_same⟩, fun v H5 s5 hv => ?_⟩
        have s45 := sP.trans s5
        have e5 := s45 _ _ e4
        refine ⟨fL, vs, v, rfl, rfl, e5, Nat.lt_of_le_of_lt l4 (Nat.lt_of_lt_of_le (show 8 * i + 4 * j + l < 1001 by omega) (by rw [sizeLine_eq]; decide)), ?_⟩
        have i6 : Imm H5 (upd H5 fL (.lst (vs ++ [v]))) := (Fr.set (S := [fL]) (by simp)).imm fun z hz => by
          rw [List.mem_singleton.mp hz, e5]
          trivial
        refine ⟨_, vs ++ [v], rfl, upd_same, f4.trans ((sm_fr s45).trans (Fr.set (by simp))), ?_, by rw [List.length_append]; show vs.length + 1 ≤ _; omega⟩
        rw [List.range_succ, List.map_append, ← List.append_assoc]
        refine (p4.mono fun _ _ h => ((MachAt.imm (sm_imm s45) h).imm i6)).snoc ?_
        have hv6 := hv.imm i6
        rw [Int.zero_add, Int.zero_add] at hv6
        exact hv6
      · rintro σ H4 ⟨y11, vs, rfl, e4, f4, p4, l4⟩
        refine ⟨_, _, vs, rfl, e4, f4, ?_, by omega⟩
        rw [take_snoc emv, List.flatMap_append, List.flatMap_singleton, ← List.append_assoc]
        exact p4
    · rintro σ H3 ⟨y10, y11, vs, rfl, e3, f3, p3, l3⟩
      rw [List.length_map] at p3 l3
      refine ⟨_, _, _, vs, rfl, e3, f3, ?_, by omega⟩
      rw [List.take_length] at p3
      rw [rng_flat]
      exact p3
  · rintro σ H2 ⟨y9, y10, y11, vs, rfl, e2, f2, p2, l2⟩
    refine ⟨_, rfl, ?_⟩
    exact q _ _ (sm_drop s1 f2 (by simp [nfL])) ⟨fL, vs, rfl, e2, p2⟩
end
section
variable {P : Program} {w : World} {K : PySem.W.Frag} {mg : Str → Option Value} {base : Heap}
def spChil (K : PySem.W.Frag) : Sp := fun vs H Q _ => ∃ (m : V) (M : Mach) (k n : Nat), vs = [m, .int (n : Int)] ∧ MachAt K H m M ∧ Wf M k ∧ n ≤ 1000 ∧ ∀ v H', Same H H' → MsAt K H' v (chM M n) → Q v H'
theorem sc_children : FnScope ["machine", "count", "last", "going", "stopping", "symbol", "state", "moves", "found", "write", "move", "after", "row", "rule"] ["machine", "count"] (defScope s_children) := ⟨rfl, rfl, rfl, by decide +kernel, rfl, by decide +kernel, by decide +kernel⟩
theorem ok_children (T : Txt w K mg) : Has P w K mg base CX0 4 ("children", none) ["machine", "count"] (spChil K) := by
  obtain ⟨fd, F⟩ := T.fd 33 (d := d_children) rfl rfl rfl
  obtain ⟨⟨fd1, G1, b1⟩, kp1⟩ := ok_walked (P := P) (base := base) T
  obtain ⟨⟨fd2, G2, b2⟩, kp2⟩ := ok_replaced (P := P) (base := base) T
  obtain ⟨tS, gS⟩ := T.i_STOP
  refine ⟨⟨fd, F.ok sc_children (fun vs H Q E h => ?_) (fun cdv A outer s H vs Q E hr h => ?_), F.bindsN fun _ _ _ _ _ _ us hl => match us, hl with | [_, _], _ => rfl⟩, F.kp⟩
  · obtain ⟨m, M, k, n, rfl, _⟩ := h
    rfl
  · obtain ⟨m, M, k, n, rfl, hm, wf, hn, q⟩ := h
    have hr1 := hr.mono (by decide : 1 ≤ 3)
    refine ⟨_, PSs.nox (pss_cons (ps_set (i := 2) sc_children.nd rfl (.inl rfl) (pe_ix ix_tup (pe_call G1 hr (by rfl) T.g_walked kp1 b1 .nil pass0 (pa_cons (pv 0) (pa_cons (pv 1) pa_nil))) pe_int (fun _ _ => rfl)))
      (pss_cons (ps_setLc2 (i := 3) (own := [("row", 12), ("rule", 13)]) (vs1 := [13]) (g := gName 12) (tt := tYes) (wi1 := iTup K (tVar 12)) (g1 := gName 13) (tt1 := tTest (tOp rNe (tOp (rIxT K) (tVar 13) (tC (.int 2))) (tC (.int (-1))))) (te := tVar 13)
        (by rfl) sc_children.nd rfl rfl rfl (pi_tup (pv 0)) (blkOk_by (by kernel_rfl)) (by decide) (fun _ _ _ _ _ => pg_name (i := 12) sc_children.nd rfl (Or.inl rfl)) (fun _ _ _ _ _ => pts_nil) (fun _ _ _ _ _ => by exact pi_tup (pv 12))
        (fun _ _ _ _ _ => pg_name (i := 13) sc_children.nd rfl (Or.inl rfl)) (fun _ _ _ _ _ => by exact pts_one (pt_cmpR op_ne (pe_ix ix_tup (pv 13) pe_int (fun _ _ => rfl)) (pe_glob (v := .int (-1)) rfl gS ⟨_, rfl⟩) (nomark _))) (fun _ _ _ _ _ => pv 13))
      (pss_cons (ps_set (i := 4) sc_children.nd rfl (.inl rfl) (pe_op op_sub (pe_op op_mul (pe_callB call_len_seq (by rfl) T.z_len (by decide +kernel) (pa_cons (pv 0) pa_nil)) (pe_callB call_len_seq (by rfl) T.z_len (by decide +kernel) (pa_cons (pe_ix ix_tup (pv 0) pe_int (fun _ _ => rfl)) pa_nil))) (pe_callB call_len_seq (by rfl) T.z_len (by decide +kernel) (pa_cons (pv 3) pa_nil))))
      (pss_cons (ps_if (PW.pt (pw_or (pt_cmpR op_isN1 (pv 2) pe_non (nomark _)) (pw_or1 (pt_cmpR op_lt (pv 4) pe_int (nomark _))))) (pss_one (ps_ret (pe_lst pa_nil))) pss_nil)
      (pss_cons (ps_set (i := 5) sc_children.nd rfl (.inl rfl) (pe_callB (call_min2 rfl) (by rfl) T.z_min (by decide +kernel) (pa_cons (pe_op op_sub (pe_callB call_len_seq (by rfl) T.z_len (by decide +kernel) (pa_cons (pe_ix ix_tup (pv 0) pe_int (fun _ _ => rfl)) pa_nil)) pe_int)
        (pa_cons (pe_op op_add pe_int (pe_callBK (cr_maxD (by rfl) hr.units) (by rfl) T.z_max (by decide +kernel) (pa_cons (pe_lc (own := [("rule", 13)]) (g := gName 13) (te := tOp (rIxT K) (tVar 13) (tC (.int 0))) (by rfl) sc_children.nd (pi_list (pv 3)) (blkOk_by (by kernel_rfl))
          (fun _ _ _ _ _ => pg_name (i := 13) sc_children.nd rfl (Or.inl rfl)) (fun _ _ _ _ _ => pts_nil) (fun _ _ _ _ _ => by exact pe_ix ix_tup (pv 13) pe_int (fun _ _ => rfl))) pa_nil) (pk_cons pe_int pk_nil))) pa_nil))))
      (pss_cons (ps_set (i := 6) sc_children.nd rfl (.inl rfl) (pe_callB (call_min2 rfl) (by rfl) T.z_min (by decide +kernel) (pa_cons (pe_op op_sub (pe_callB call_len_seq (by rfl) T.z_len (by decide +kernel) (pa_cons (pv 0) pa_nil)) pe_int)
        (pa_cons (pe_op op_add pe_int (pe_callBK (cr_maxD (by rfl) hr.units) (by rfl) T.z_max (by decide +kernel) (pa_cons (pe_lc (own := [("rule", 13)]) (g := gName 13) (te := tOp (rIxT K) (tVar 13) (tC (.int 2))) (by rfl) sc_children.nd (pi_list (pv 3)) (blkOk_by (by kernel_rfl))
          (fun _ _ _ _ _ => pg_name (i := 13) sc_children.nd rfl (Or.inl rfl)) (fun _ _ _ _ _ => pts_nil) (fun _ _ _ _ _ => by exact pe_ix ix_tup (pv 13) pe_int (fun _ _ => rfl))) pa_nil) (pk_cons pe_int pk_nil))) pa_nil))))
      (pss_cons (ps_set (i := 7) sc_children.nd rfl (.inl rfl) (pe_lst (pa_cons (pe_un un_neg pe_int) (pa_cons pe_int pa_nil))))
      (pss_cons (ps_if (pt_not (pt_truth (pv 3) (by intro _; rfl))) (pss_one (ps_set (i := 7) sc_children.nd rfl (.inl rfl) (pe_lst (pa_cons pe_int pa_nil)))) pss_nil)
      (pss_cons (ps_set (i := 8) sc_children.nd rfl (.inl rfl) (pe_lst pa_nil))
      (pss_cons (ps_for PassesOwn.never rfl (pi_range1 rfl T.z_range (pa_cons (pe_op op_add (pv 5) pe_int) pa_nil)) (pg_name (i := 9) sc_children.nd rfl (.inl rfl))
        (pss_one (ps_for PassesOwn.never rfl (pi_list (pv 7)) (pg_name (i := 10) sc_children.nd rfl (.inl rfl))
          (pss_one (ps_for PassesOwn.never rfl (pi_range1 rfl T.z_range (pa_cons (pe_op op_add (pv 6) pe_int) pa_nil)) (pg_name (i := 11) sc_children.nd rfl (.inl rfl))
            (pss_one (ps_expr (pe_bm PySem.F.plainAttrs_list PySem.F.slot_list_append PySem.F.type_list_append mt_append (pv 8) (pa_cons (pe_call G2 hr1 (by rfl) T.g_replaced kp2 b2 .nil pass0 (pa_cons (pv 0) (pa_cons (pv 2) (pa_cons (pe_tup (pa_cons (pv 9) (pa_cons (pv 10) (pa_cons (pv 11) pa_nil)))) pa_nil)))) pa_nil)))))))))
      (pss_one (ps_ret (pv 8))))))))))))), ?_⟩
    refine ⟨_, rfl, _, rfl, m, M, k, n, rfl, hm, wf, hn, fun ta r s y z H1 s1 hta hz => ⟨ta, _, 3, _, rfl, rfl, hta, rfl, ?_⟩⟩
    have hm1 := hm.imm (sm_imm s1)
    obtain ⟨a, vs, rfl, ha, hp⟩ := hm1
    -- going
    refine ⟨_, rfl, a, rfl, ⟨_, ha⟩, fun D nD => ?_⟩
    refine outer_it (walk_tup (xs := vs)) (fun i H' => ∃ acc, H' D = some (.lst acc) ∧ Same H1 H' ∧ Paired (RuleAt K H') acc ((M.take i).flatten.filter fun r => !decide (r.2.2 = -1)) ∧ acc.length ≤ 4 * i) ⟨[], upd_same, sm_new nD, .nil, Nat.le_refl _⟩
      (fun i H' _ ⟨_, _, s, _, _⟩ => (sm_imm s).sqt ha) ?_ ?_
    · rintro i x H' H'' hi ⟨acc, eD, s2, pa, hl⟩ ⟨rfl, ex⟩
      obtain ⟨row, er, b, us, rfl, hb, hq⟩ := prd_at' hp ex
      have hrl := wf.rows row (List.mem_of_getElem? er)
      have hk4 := wf.sym
      refine ⟨rfl, yesI ?_⟩
      refine ⟨_, rfl, b, rfl, ⟨_, (sm_imm s2).sqt hb⟩, ?_⟩
      refine inner_it (walk_tup (xs := us)) (fun j H' => ∃ acc, H' D = some (.lst acc) ∧ Same H1 H' ∧ Paired (RuleAt K H') acc (((M.take i).flatten ++ row.take j).filter fun r => !decide (r.2.2 = -1)) ∧ acc.length ≤ 4 * i + j) ⟨acc, eD, s2, by rw [List.take_zero, List.append_nil]; exact pa, hl⟩
        (fun j H' _ ⟨_, _, s, _, _⟩ => (sm_imm s).sqt hb) ?_ ?_
      · rintro j x H2 H3 hj ⟨acc2, eD2, s3, pa2, hl2⟩ ⟨rfl, ey⟩
        obtain ⟨ru, er2, c, rfl, hc⟩ := prd_at' hq ey
        have hc3 := (sm_imm s3).sqt hc
        refine ⟨rfl, _, rfl, c, _, 2, _, rfl, rfl, hc3, rfl, rfl, _, rfl, ?_⟩
        rw [dec_int]
        have et : ((M.take i).flatten ++ row.take (j + 1)).filter (fun r => !decide (r.2.2 = -1)) = ((M.take i).flatten ++ row.take j).filter (fun r => !decide (r.2.2 = -1)) ++ [ru].filter (fun r => !decide (r.2.2 = -1)) := by
          rw [take_snoc er2, ← List.append_assoc, List.filter_append]
        cases hz2 : !decide (ru.2.2 = -1) with
        | true =>
          refine iteT ⟨_, rfl, acc2, eD2, ?_, acc2 ++ [.ref c], upd_same, sm_drop (S := [D]) s3 (Fr.set (by simp)) (by simp [nD]), ?_, ?_⟩
          · refine Nat.lt_of_le_of_lt hl2 (Nat.lt_of_lt_of_le (show 4 * i + j < 1001 by have := wf.len; have := hp.length; have := hq.length; omega) (by rw [sizeLine_eq]; decide))
          · rw [et, List.filter_cons_of_pos (by exact hz2)]
            have i3 : Imm H3 (upd H3 D (.lst (acc2 ++ [.ref c]))) := (Fr.set (S := [D]) (by simp)).imm fun p hp => by
              rw [List.mem_singleton.mp hp, eD2]
              trivial
            exact (pa2.mono fun _ _ => RuleAt.imm i3).snoc ⟨c, rfl, i3.sqt hc3⟩
          · rw [List.length_append]
            show acc2.length + 1 ≤ _
            omega
        | false =>
          refine iteF ⟨acc2, eD2, s3, ?_, by omega⟩
          rw [et, List.filter_cons_of_neg (by rw [hz2]; exact Bool.false_ne_true)]
          exact (List.append_nil _).symm ▸ pa2
      · rintro H2 ⟨acc2, eD2, s3, pa2, hl2⟩
        have e5 : us.length = row.length := hq.length
        refine ⟨acc2, eD2, s3, ?_, by omega⟩
        rw [e5, List.take_length] at pa2
        rw [take_snoc er, List.flatten_append, List.flatten_singleton]
        exact pa2
    · rintro H2 ⟨gs, hg, s12, pg, hgl⟩
      have e5 : vs.length = M.length := hp.length
      rw [e5, List.take_length] at pg
      have pg : Paired (RuleAt K H2) gs (goM M) := pg
      have hgl : gs.length ≤ 100 := by
        have := wf.len
        omega
      have hgo : (goM M).length ≤ 100 := by rw [← pg.length]; exact hgl
      have s2 := s1.trans s12
      have ha2 := (sm_imm s12).sqt ha
      have hz2 := KeyAt.imm (sm_imm s12) hz
      have hkl := head_len wf
      obtain ⟨x0, ex0, b, us, rfl, hb, hq⟩ := prd_at hp hkl.2
      have hb2 := (sm_imm s12).sqt hb
      have hul : us.length = k := hq.length.trans hkl.1
      have ex0 : atI vs 0 = some (.ref b) := atI_int (by decide) ex0
      have hw4 := wf.len
      have hk4 := wf.sym
      -- stopping
      refine ⟨_, rfl, a, vs, rfl, .inr ha2, _, rfl, a, vs, 0, _, rfl, rfl, ha2, ex0, b, us, rfl, .inr hb2, _, _, rfl, rfl, .inl (by omega), _, rfl, D, gs, rfl, .inl (.of hg), _, _, rfl, rfl, ?_⟩
      rw [e5, hul, pg.length]
      have ech : chM M n = match wk M n ini with
        | none => []
        | some q => if (M.length : Int) * (k : Int) - (goM M).length < 2 then [] else (List.range (symM M + 1).toNat).flatMap (ch3 M q) := by
        unfold chM
        rw [hkl.1]
      cases eo : wk M n ini with
      | none =>
        rw [eo] at hz2 ech
        have hz2 : z = .non := hz2
        subst hz2
        refine ⟨_, rfl, rfl, _, rfl, iteT (iteT ?_)⟩
        refine ⟨Nat.zero_le _, fun p np => ?_⟩
        rw [ech] at q
        exact q _ _ (s2.trans (sm_new np)) ⟨p, [], rfl, upd_same, .nil⟩
      | some kq =>
        rw [eo] at hz2 ech
        obtain ⟨tz, rfl, htz⟩ := hz2
        have hkq := wk_ok n (Ok.ini wf) (Int.le_refl 0) eo
        refine ⟨_, rfl, rfl, _, rfl, iteF ?_⟩
        refine ⟨_, rfl, _, _, rfl, rfl, _, rfl, ?_⟩
        by_cases hlt : (M.length : Int) * (k : Int) - (goM M).length < 2
        · rw [decide_eq_true hlt]
          refine iteT ⟨Nat.zero_le _, fun p np => ?_⟩
          rw [ech, ] at q
          refine q _ _ (s2.trans (sm_new np)) ⟨p, [], rfl, upd_same, ?_⟩
          show Paired _ _ (if _ then _ else _)
          rw [if_pos hlt]
          exact .nil
        · rw [decide_eq_false hlt]
          refine iteF ?_
          have ech : chM M n = (List.range (symM M + 1).toNat).flatMap (ch3 M kq) := ech.trans (if_neg hlt)
          rw [ech] at q
          -- symbol
          refine ⟨_, rfl, a, vs, 0, _, rfl, rfl, ha2, ex0, b, us, rfl, .inr hb2, _, _, rfl, rfl, ?_⟩
          refine goings hg pg hgo (fun r => r.1) _ (fun c r H' Q' hc hq' => ⟨_, rfl, c, _, 0, _, rfl, rfl, hc, rfl, hq'⟩) fun H3 s23 => ?_
          refine ⟨_, _, rfl, rfl, _, _, rfl, ?_⟩
          have esy : (if 1 + maxOr ((goM M).map fun r => r.1) 0 < (us.length : Int) - 1 then 1 + maxOr ((goM M).map fun r => r.1) 0 else (us.length : Int) - 1) = symM M := by
            unfold symM minI
            rw [hul, hkl.1]
          rw [esy]
          have hg3 := s23 _ _ hg
          have pg3 := pg.mono fun _ _ => RuleAt.imm (sm_imm s23)
          have ha3 := (sm_imm s23).sqt ha2
          -- state
          refine ⟨_, rfl, a, vs, rfl, .inr ha3, _, _, rfl, rfl, ?_⟩
          refine goings hg3 pg3 hgo (fun r => r.2.2) _ (fun c r H' Q' hc hq' => ⟨_, rfl, c, _, 2, _, rfl, rfl, hc, rfl, hq'⟩) fun H4 s34 => ?_
          refine ⟨_, _, rfl, rfl, _, _, rfl, ?_⟩
          have est : (if 1 + maxOr ((goM M).map fun r => r.2.2) 0 < (vs.length : Int) - 1 then 1 + maxOr ((goM M).map fun r => r.2.2) 0 else (vs.length : Int) - 1) = staM M := by
            unfold staM minI
            rw [e5]
          rw [est]
          have hg4 := s34 _ _ hg3
          have s4 := s2.trans (s23.trans s34)
          have hz4 := htz
          have s24 := s23.trans s34
          have hsb := symM_b wf
          have htb := staM_b wf
          -- from moves on
          have hm4 := hm.imm (sm_imm s4)
          have hz4 : KeyAt K H4 (.ref tz) (some kq) := KeyAt.imm (sm_imm s24) ⟨tz, rfl, htz⟩
          refine ⟨_, rfl, by show 2 ≤ sizeLine; decide, fun mL nmL => ?_⟩
          refine ⟨_, rfl, _, .inl ⟨_, .of (sm_new nmL _ _ hg4), rfl⟩, ?_⟩
          have eE : gs.isEmpty = (goM M).isEmpty := prd_emp pg
          rw [eE]
          cases he : (goM M).isEmpty with
          | true =>
            refine iteT ?_
            refine ⟨by show 1 ≤ sizeLine; decide, fun mL2 nmL2 => ?_⟩
            have s6 := (sm_new (o := .lst [.int (-1), .int 1]) nmL).trans (sm_new (o := .lst [.int 1]) nmL2)
            refine loops (D := { nx := fun _ H' => Q .non H', rt := Q }) (hm4.imm (sm_imm s6)) wf (hz4.imm (sm_imm s6)) hkq ?_ fun v H' s' hv => q v H' (s4.trans (s6.trans s')) hv
            unfold movM
            rw [if_pos he]
            exact upd_same
          | false =>
            refine iteF ?_
            have s6 := (sm_new (o := .lst [.int (-1), .int 1]) nmL)
            refine loops (D := { nx := fun _ H' => Q .non H', rt := Q }) (hm4.imm (sm_imm s6)) wf (hz4.imm (sm_imm s6)) hkq ?_ fun v H' s' hv => q v H' (s4.trans (s6.trans s')) hv
            unfold movM
            rw [if_neg (by rw [he]; exact Bool.false_ne_true)]
            exact upd_same
end
end K79

namespace K79
open PySem PySem.Spec PyProof.Rows L2
/-- the tree, from the stack st -/
def trD (cnt : Nat) : Nat → List Mach → Option (List Mach)
  | _, [] => some []
  | 0, _ :: _ => none
  | f + 1, M :: r => (trD cnt f (chM M cnt ++ r)).map (M :: ·)
theorem trD_len {cnt : Nat} : ∀ (f : Nat) {st L : List Mach}, trD cnt f st = some L → st.length ≤ L.length
  | 0, [], _, _ => Nat.zero_le _
  | 0, _ :: _, _, e => by cases e
  | _ + 1, [], _, _ => Nat.zero_le _
  | f + 1, M :: r, L, e => by
    obtain ⟨L2, e2, rfl⟩ := Option.map_eq_some_iff.mp (show (trD cnt f (chM M cnt ++ r)).map (M :: ·) = some L from e)
    have := trD_len f e2
    rw [List.length_append] at this
    show r.length + 1 ≤ L2.length + 1
    omega
theorem prd_rev {α β : Type} {R : α → β → Prop} : ∀ {l : List α} {m : List β}, Paired R l m → Paired R l.reverse m.reverse
  | _, _, .nil => .nil
  | _, _, .cons h t => by
    rw [List.reverse_cons, List.reverse_cons]
    exact (prd_rev t).snoc h
theorem prd_app {α β : Type} {R : α → β → Prop} : ∀ {l : List α} {m : List β} {l2 : List α} {m2 : List β}, Paired R l m → Paired R l2 m2 → Paired R (l ++ l2) (m ++ m2)
  | _, _, _, _, .nil, h => h
  | _, _, _, _, .cons h t, h2 => .cons h (prd_app t h2)
theorem prd_last {α β : Type} {R : α → β → Prop} {l : List α} {m : List β} {y : β} (h : Paired R l (m ++ [y])) : ∃ l' x, l = l' ++ [x] ∧ Paired R l' m ∧ R x y := by
  have h2 := prd_rev h
  rw [List.reverse_append, List.reverse_singleton, List.singleton_append] at h2
  generalize e : l.reverse = lr at h2
  cases h2 with
  | cons hx t =>
    rename_i a as
    refine ⟨as.reverse, a, ?_, ?_, hx⟩
    · rw [← List.reverse_reverse l, e, List.reverse_cons]
    · have := prd_rev t
      rw [List.reverse_reverse] at this
      exact this
theorem setR_wf {M : Mach} {k : Nat} {s y : Int} {r : Rule} (wf : Wf M k) (h : 0 ≤ r.1 ∧ r.1 < k ∧ (r.2.1 = 1 ∨ r.2.1 = -1) ∧ -1 ≤ r.2.2 ∧ r.2.2 < M.length) (hs : 0 ≤ s ∧ s < M.length) : Wf (setR M s y r) k := by
  have e : (setR M s y r).length = M.length := List.length_set
  have hs2 : s.toNat < M.length := by omega
  have em : M.getD s.toNat [] ∈ M := by
    rw [List.getD_eq_getElem?_getD, List.getElem?_eq_getElem hs2]
    exact List.getElem_mem hs2
  refine ⟨by rw [e]; exact wf.len, wf.sym, fun l hl => ?_, fun l hl q hq => ?_⟩
  · rcases List.mem_or_eq_of_mem_set hl with z | z
    · exact wf.rows l z
    · rw [z, List.length_set]
      exact wf.rows _ em
  · rw [e]
    rcases List.mem_or_eq_of_mem_set hl with z | z
    · exact wf.rule l z q hq
    · rw [z] at hq
      rcases List.mem_or_eq_of_mem_set hq with z2 | z2
      · exact wf.rule _ em q z2
      · rw [z2]
        exact h
theorem chM_wf {M M' : Mach} {k n : Nat} (wf : Wf M k) (h : M' ∈ chM M n) : Wf M' k := by
  unfold chM at h
  cases e : wk M n ini with
  | none =>
    rw [e] at h
    cases h
  | some q =>
    rw [e] at h
    have h : M' ∈ (if _ then [] else _) := h
    split at h
    · cases h
    · have hq := wk_ok n (Ok.ini wf) (Int.le_refl 0) e
      obtain ⟨w, hw, h⟩ := List.mem_flatMap.mp h
      obtain ⟨mv, hmv, h⟩ := List.mem_flatMap.mp h
      obtain ⟨af, haf, rfl⟩ := List.mem_map.mp h
      have hw := List.mem_range.mp hw
      have haf := List.mem_range.mp haf
      have h1 := symM_b wf
      have h2 := staM_b wf
      refine setR_wf wf ⟨by show (0 : Int) ≤ w; omega, by show (w : Int) < k; omega, ?_, by show -1 ≤ (af : Int); omega, by show (af : Int) < _; omega⟩ ⟨hq.1, hq.2.1⟩
      show mv = 1 ∨ mv = -1
      unfold movM at hmv
      split at hmv
      · exact .inl (List.mem_singleton.mp hmv)
      · rcases List.mem_cons.mp hmv with z | z
        · exact .inr z
        · exact .inl (List.mem_singleton.mp z)
def spTree (K : PySem.W.Frag) : Sp := fun vs H Q E => ∃ (n k cnt most F : Nat) (L : List Mach), vs = [.int (n : Int), .int (k : Int), .int (cnt : Int), .int (most : Int)] ∧ Wf (rootM n k) k ∧ n ≤ 4 ∧ k ≤ 4 ∧ cnt ≤ 1000 ∧ trD cnt F [rootM n k] = some L ∧ L.length ≤ 1000 ∧
  (L.length ≤ most → ∀ v H', Same H H' → MsAt K H' v L → Q v H') ∧ (most < L.length → ∀ H', Same H H' → E (.ref (He.ga K "TooLarge")) none H')
section
variable {P : Program} {w : World} {K : PySem.W.Frag} {mg : Str → Option Value} {base : Heap}
theorem sc_tree : FnScope ["states", "symbols", "count", "most", "found", "waiting", "machine"] ["states", "symbols", "count", "most"] (defScope s_tree) := ⟨rfl, rfl, rfl, by decide +kernel, rfl, by decide +kernel, by decide +kernel⟩
theorem ok_tree (T : Txt w K mg) : Has P w K mg base (L2.CX P w) 5 ("tree", none) ["states", "symbols", "count", "most"] (spTree K) := by
  obtain ⟨fd, F⟩ := T.fd 35 (d := d_tree) rfl rfl rfl
  obtain ⟨⟨fd1, G1, b1⟩, kp1⟩ := ok_root (P := P) (base := base) T
  obtain ⟨⟨fd2, G2, b2⟩, kp2⟩ := ok_children (P := P) (base := base) T
  obtain ⟨xP, kP, bP, tP⟩ := T.x_TooLarge
  refine ⟨⟨fd, F.ok sc_tree (fun vs H Q E h => ?_) (fun cdv A outer s H vs Q E hr h => ?_), F.bindsN fun _ _ _ _ _ _ us hl => match us, hl with | [_, _, _, _], _ => rfl⟩, F.kp⟩
  · obtain ⟨n, k, cnt, most, F', L, rfl, _⟩ := h
    rfl
  · obtain ⟨n, k, cnt, most, F', L, rfl, wf, hn, hk, hcnt, htr, hL, q, qe⟩ := h
    have hr1 := hr.mono (by decide : 1 ≤ 4)
    refine ⟨_, (pss_cons (ps_set (i := 4) sc_tree.nd rfl (.inl rfl) (pe_lst pa_nil))
      (pss_cons (ps_set (i := 5) sc_tree.nd rfl (.inl rfl) (pe_lst (pa_cons (pe_call G1 hr1 (by rfl) T.g_root kp1 b1 .nil pass0 (pa_cons (pv 0) (pa_cons (pv 1) pa_nil))) pa_nil)))
      (pss_cons (ps_while (passes_of rfl) (pt_truth (pv 5) (by intro _; rfl))
        (pss_cons (ps_set (i := 6) sc_tree.nd rfl (.inl rfl) (pe_bm0 PySem.F.plainAttrs_list PySem.F.slot_list_pop PySem.F.type_list_pop mt_pop (pv 5)))
        (pss_cons (ps_if (pt_cmpR op_eq (pe_callB call_len_seq (by rfl) T.z_len (by decide +kernel) (pa_cons (pv 4) pa_nil)) (pv 3) (nomark _)) (pss_one (ps_raise rfl (takes_of rfl rfl rfl rfl) (pmk_own PySem.F.excBase_ValueError xP T.g_TooLarge kP (raises_own bP tP) rfl))) pss_nil)
        (pss_cons (ps_expr (pe_bm PySem.F.plainAttrs_list PySem.F.slot_list_append PySem.F.type_list_append mt_append (pv 4) (pa_cons (pv 6) pa_nil)))
        (pss_one (ps_expr (pe_bm PySem.F.plainAttrs_list PySem.F.slot_list_extend PySem.F.type_list_extend mt_extend (pv 5) (pa_cons (pe_revL (pe_call G2 hr (by rfl) T.g_children kp2 b2 .nil pass0 (pa_cons (pv 6) (pa_cons (pv 2) pa_nil)))) pa_nil))))))))
      (pss_one (ps_ret (pv 4)))))), ?_⟩
    refine ⟨Nat.zero_le _, fun fL nfL => ?_⟩
    have sF : Same H (upd H fL (.lst [])) := sm_new nfL
    refine ⟨_, rfl, _, rfl, n, k, rfl, hn, hk, fun rv H2 s2 hrv => ?_⟩
    refine ⟨by show 1 ≤ sizeLine; decide, fun wL nwL => ?_⟩
    have sW : Same H2 (upd H2 wL (.lst [rv])) := sm_new nwL
    have eF := (s2.trans sW) _ _ (show (upd H fL (.lst [])) fL = _ from upd_same)
    have nwH : H wL = none := (sF.trans s2).free nwL
    have nfw : fL ≠ wL := ne_of_none (s2 _ _ (show (upd H fL (.lst [])) fL = _ from upd_same)) nwL
    have s0 : Same H (upd H2 wL (.lst [rv])) := (sF.trans s2).trans sW
    have hrv := hrv.imm (sm_imm sW)
    have eW : (upd H2 wL (.lst [rv])) wL = some (.lst [rv]) := upd_same
    generalize upd H2 wL (.lst [rv]) = H0 at eF s0 hrv eW ⊢
    have bnd : ∀ {i : Nat}, i ≤ 1000 → i < sizeLine := fun {i} h => Nat.lt_of_le_of_lt h (by rw [sizeLine_eq]; decide)
    refine ⟨fun m σ H' => ∃ st rest fnd vs us y6, σ = [some (.int (n : Int)), some (.int (k : Int)), some (.int (cnt : Int)), some (.int (most : Int)), some (.ref fL), some (.ref wL), y6] ∧ trD cnt m st = some rest ∧ L = fnd ++ rest ∧ (∀ M ∈ st, Wf M k) ∧
      H' wL = some (.lst vs) ∧ Paired (MachAt K H') vs st.reverse ∧ H' fL = some (.lst us) ∧ Paired (MachAt K H') us fnd ∧ fnd.length ≤ most ∧ Same H H', ⟨F', [rootM n k], L, [], [rv], [], none, rfl, htr, rfl, fun M hM => ?_, eW, .cons hrv .nil, eF, .nil, Nat.zero_le _, s0⟩, ?_⟩
    · rw [List.mem_singleton.mp hM]
      exact wf
    · rintro m σ H' ⟨st, rest, fnd, vs, us, y6, rfl, et, eL, hwf, ew, pw, ef, pf, hfm, sH⟩
      have evs : vs.isEmpty = st.isEmpty := by
        have := prd_emp pw
        rw [this, List.isEmpty_reverse]
      refine ⟨_, rfl, _, .inl ⟨_, .of ew, rfl⟩, ?_⟩
      rw [evs]
      cases st with
      | nil =>
        refine iteF ?_
        have er : rest = [] := by
          cases m <;> exact (Option.some.inj et).symm
        subst er
        rw [List.append_nil] at eL
        subst eL
        refine ⟨_, rfl, ?_⟩
        exact q hfm _ _ sH ⟨fL, us, rfl, ef, pf⟩
      | cons M r =>
        refine iteT ?_
        cases m with
        | zero => cases et
        | succ m =>
        obtain ⟨L2, et2, er⟩ := Option.map_eq_some_iff.mp (show (trD cnt m (chM M cnt ++ r)).map (M :: ·) = some rest from et)
        subst er
        have eLl : L.length = fnd.length + (L2.length + 1) := by
          rw [eL, List.length_append]
          rfl
        have hsl := trD_len m et2
        rw [List.length_append] at hsl
        rw [List.reverse_cons] at pw
        obtain ⟨vs2, x, rfl, pw2, hx⟩ := prd_last pw
        refine ⟨fun σ' H'' => ∃ m', m' < m + 1 ∧ ∃ st rest fnd vs us y6, σ' = [some (.int (n : Int)), some (.int (k : Int)), some (.int (cnt : Int)), some (.int (most : Int)), some (.ref fL), some (.ref wL), y6] ∧ trD cnt m' st = some rest ∧ L = fnd ++ rest ∧ (∀ M ∈ st, Wf M k) ∧
          H'' wL = some (.lst vs) ∧ Paired (MachAt K H'') vs st.reverse ∧ H'' fL = some (.lst us) ∧ Paired (MachAt K H'') us fnd ∧ fnd.length ≤ most ∧ Same H H'', fun _ _ h => h, ?_⟩
        -- machine = waiting.pop()
        refine ⟨_, rfl, .inl ⟨rfl, _, .of ew⟩, wL, _, x, rfl, rfl, ew, by rw [List.length_append]; show (vs2 ++ [x])[vs2.length + 1 - 1]? = some x; rw [Nat.add_sub_cancel, List.getElem?_append_right (Nat.le_refl _), Nat.sub_self]; rfl, ?_⟩
        rw [List.dropLast_concat]
        have i1 : Imm H' (upd H' wL (.lst vs2)) := (Fr.set (S := [wL]) (by simp)).imm fun z hz => by
          rw [List.mem_singleton.mp hz, ew]
          trivial
        have s1 : Same H (upd H' wL (.lst vs2)) := sm_drop (S := [wL]) sH (Fr.set (by simp)) (by simp [nwH])
        have ef1 : (upd H' wL (.lst vs2)) fL = some (.lst us) := (upd_ne nfw).trans ef
        have ew1 : (upd H' wL (.lst vs2)) wL = some (.lst vs2) := upd_same
        have pw2 := pw2.mono fun _ _ h => MachAt.imm i1 h
        have pf := pf.mono fun _ _ h => MachAt.imm i1 h
        have hx := hx.imm i1
        generalize upd H' wL (.lst vs2) = H1 at s1 ef1 ew1 pw2 pf hx ⊢
        -- the count
        refine ⟨_, rfl, fL, us, rfl, .inl (.of ef1), _, rfl, rfl, _, rfl, ?_⟩
        rw [dec_int, pf.length]
        by_cases e : (fnd.length : Int) = (most : Int)
        · rw [decide_eq_true e]
          refine iteT ?_
          exact qe (by omega) H1 s1
        · rw [decide_eq_false e]
          refine iteF ?_
          -- found.append(machine)
          refine ⟨_, rfl, .inl ⟨rfl, _, .of ef1⟩, _, rfl, fL, us, x, rfl, rfl, ef1, by rw [pf.length]; exact bnd (by omega), ?_⟩
          have i2 : Imm H1 (upd H1 fL (.lst (us ++ [x]))) := (Fr.set (S := [fL]) (by simp)).imm fun z hz => by
            rw [List.mem_singleton.mp hz, ef1]
            trivial
          have s2' : Same H (upd H1 fL (.lst (us ++ [x]))) := sm_drop (S := [fL]) s1 (Fr.set (by simp)) (by simp [nfL])
          have ef2 : (upd H1 fL (.lst (us ++ [x]))) fL = some (.lst (us ++ [x])) := upd_same
          have ew2 : (upd H1 fL (.lst (us ++ [x]))) wL = some (.lst vs2) := (upd_ne nfw.symm).trans ew1
          have pw2 := pw2.mono fun _ _ h => MachAt.imm i2 h
          have pf := (pf.snoc hx).mono fun _ _ h => MachAt.imm i2 h
          have hx := hx.imm i2
          generalize upd H1 fL (.lst (us ++ [x])) = H3 at s2' ef2 ew2 pw2 pf hx ⊢
          -- waiting.extend(children(machine, count)[::-1])
          refine ⟨_, rfl, .inl ⟨rfl, _, .of ew2⟩, _, rfl, _, rfl, x, M, k, cnt, rfl, hx, hwf M (List.mem_cons_self), hcnt, fun v H4 s4 ⟨c, zs, ev, hc, pc⟩ => ?_⟩
          subst ev
          refine ⟨c, zs, rfl, .of hc, fun p np => ?_⟩
          have s45 := s4.trans (sm_new (o := .lst zs.reverse) np)
          have ew5 := s45 _ _ ew2
          have el : vs2.length + zs.reverse.length ≤ 1000 := by
            rw [List.length_reverse, pc.length, pw2.length, List.length_reverse]
            omega
          refine ⟨wL, p, vs2, zs.reverse, rfl, rfl, ew5, upd_same, Nat.le_of_lt (bnd el), ?_⟩
          have i5 : Imm H4 (upd H4 p (.lst zs.reverse)) := sm_imm (sm_new np)
          generalize upd H4 p (.lst zs.reverse) = H5 at s45 ew5 i5 ⊢
          have i6 : Imm H5 (upd H5 wL (.lst (vs2 ++ zs.reverse))) := (Fr.set (S := [wL]) (by simp)).imm fun z hz => by
            rw [List.mem_singleton.mp hz, ew5]
            trivial
          have i36 := (sm_imm s45).trans i6
          refine ⟨m, Nat.lt_succ_self m, chM M cnt ++ r, L2, fnd ++ [M], _, _, _, rfl, et2, ?_, fun M2 hM2 => ?_, upd_same, ?_, (upd_ne nfw).trans (s45 _ _ ef2), pf.mono fun _ _ h => MachAt.imm i36 h, ?_, ?_⟩
          · rw [eL, List.append_assoc]
            rfl
          · rcases List.mem_append.mp hM2 with z | z
            · exact chM_wf (hwf M (List.mem_cons_self)) z
            · exact hwf M2 (List.mem_cons_of_mem _ z)
          · rw [List.reverse_append]
            exact prd_app (pw2.mono fun _ _ h => MachAt.imm i36 h) ((prd_rev pc).mono fun _ _ h => (MachAt.imm i5 h).imm i6)
          · rw [List.length_append]
            show fnd.length + 1 ≤ most
            omega
          · exact sm_drop (S := [wL]) (s2'.trans s45) (Fr.set (by simp)) (by simp [nwH])
end
end K79

namespace K79
open PySem PySem.Spec PyProof.Rows L2
def RuOk (r : Rule) (s k : Nat) : Prop := 0 ≤ r.1 ∧ r.1 < k ∧ (r.2.1 = 1 ∨ r.2.1 = -1) ∧ -1 ≤ r.2.2 ∧ r.2.2 < s
def spWhole : Sp := fun vs H Q _ => ∃ i : Int, vs = [.int i] ∧ Q (.bl true) H
def spIsR (K : PySem.W.Frag) : Sp := fun vs H Q _ => ∃ (v : V) (r : Rule) (s k : Nat), vs = [v, .int (s : Int), .int (k : Int)] ∧ RuleAt K H v r ∧ RuOk r s k ∧ ∀ H', Same H H' → Q (.bl true) H'
def spIsM (K : PySem.W.Frag) : Sp := fun vs H Q _ => ∃ (v : V) (M : Mach) (k : Nat), vs = [v] ∧ MachAt K H v M ∧ Wf M k ∧ ∀ H', Same H H' → Q (.bl true) H'
theorem tyx_sqt {K : PySem.W.Frag} {H : Hp} {a : Addr} {xs : List V} (h : SqT K H a xs) : TyX K H (.ref a) (.type "tuple") := by
  rcases h with (h | ⟨o, h⟩) | ⟨o, its, n, h1, h2, h3⟩
  · exact .base (.tup h)
  · exact .fTuple h
  · exact .kTuple h1 h2
section
variable {P : Program} {w : World} {K : PySem.W.Frag} {mg : Str → Option Value} {base : Heap}
theorem sc_whole : FnScope ["value"] ["value"] (defScope s_is_whole) := ⟨rfl, rfl, rfl, by decide +kernel, rfl, by decide +kernel, by decide +kernel⟩
theorem ok_whole (T : Txt w K mg) : Has P w K mg base CX0 1 ("is_whole", none) ["value"] spWhole := by
  obtain ⟨fd, F⟩ := T.fd 0 (d := d_is_whole) rfl rfl rfl
  refine ⟨⟨fd, F.ok sc_whole (fun vs H Q E h => ?_) (fun cdv A outer s H vs Q E hr h => ?_), F.bindsN fun _ _ _ _ _ _ us hl => match us, hl with | [_], _ => rfl⟩, F.kp⟩
  · obtain ⟨i, rfl, _⟩ := h
    rfl
  · obtain ⟨i, rfl, q⟩ := h
    refine ⟨_, PSs.nox (pss_one (ps_ret (pe_and (pe_callB call_isi (by rfl) T.z_isinstance (by decide +kernel) (pa_cons (pv 0) (pa_cons (pe_bltn (v := .ty "int") (by rfl) T.z_int (by decide +kernel) rfl) pa_nil)))
      (pe_one (pe_not (pe_callB call_isi (by rfl) T.z_isinstance (by decide +kernel) (pa_cons (pv 0) (pa_cons (pe_bltn (v := .ty "bool") (by rfl) T.z_bool (by decide +kernel) rfl) pa_nil)))))))), ?_⟩
    refine ⟨_, rfl, _, _, _, _, true, rfl, .ty "int", .base (.int i), kit_ty (by decide +kernel), _, rfl, iteT ?_⟩
    exact ⟨_, rfl, _, _, _, _, false, rfl, .ty "bool", .base (.int i), kit_ty (by decide +kernel), _, rfl, q⟩
theorem sc_is_rule : FnScope ["value", "states", "symbols", "write", "move", "state", "part"] ["value", "states", "symbols"] (defScope s_is_rule) := ⟨rfl, rfl, rfl, by decide +kernel, rfl, by decide +kernel, by decide +kernel⟩
theorem ok_is_rule (T : Txt w K mg) : Has P w K mg base CX0 2 ("is_rule", none) ["value", "states", "symbols"] (spIsR K) := by
  obtain ⟨fd, F⟩ := T.fd 1 (d := d_is_rule) rfl rfl rfl
  obtain ⟨⟨fd1, G1, b1⟩, kp1⟩ := ok_whole (P := P) (base := base) T
  refine ⟨⟨fd, F.ok sc_is_rule (fun vs H Q E h => ?_) (fun cdv A outer s H vs Q E hr h => ?_), F.bindsN fun _ _ _ _ _ _ us hl => match us, hl with | [_, _, _], _ => rfl⟩, F.kp⟩
  · obtain ⟨v, r, s, k, rfl, _⟩ := h
    rfl
  · obtain ⟨v, r, s, k, rfl, ⟨a, rfl, ha⟩, ⟨h1, h2, h3, h4, h5⟩, q⟩ := h
    refine ⟨_, PSs.nox (pss_cons (ps_if (PW.pt (pw_or (pt_not (pt_val (pe_callB call_isi (by rfl) T.z_isinstance (by decide +kernel) (pa_cons (pv 0) (pa_cons (pe_bltn (v := .ty "tuple") (by rfl) T.z_tuple (by decide +kernel) rfl) pa_nil)))))
        (pw_or (pt_cmpR op_ne (pe_callB call_len_seq (by rfl) T.z_len (by decide +kernel) (pa_cons (pv 0) pa_nil)) pe_int (nomark _))
          (pw_or1 (pt_not (pt_val (pe_callB (cr_all (by rfl)) (by rfl) T.z_all (by decide +kernel) (pa_cons (pe_lc (own := [("part", 6)]) (g := gName 6) (by rfl) sc_is_rule.nd (pi_tup (pv 0)) (blkOk_by (by kernel_rfl)) (fun _ _ _ _ _ => pg_name (i := 6) sc_is_rule.nd rfl (Or.inl rfl)) (fun _ _ _ _ _ => pts_nil)
            (fun _ _ _ _ _ => by exact pe_call G1 hr (by rfl) T.g_is_whole kp1 b1 .nil pass0 (pa_cons (pv 6) pa_nil))) pa_nil))))))))
        (pss_one (ps_ret pe_bl)) pss_nil)
      (pss_cons (ps_asg (pv 0) (pg_tup rfl (pgs_cons (pg_name (i := 3) sc_is_rule.nd rfl (.inl rfl)) (pgs_cons (pg_name (i := 4) sc_is_rule.nd rfl (.inl rfl)) (pgs_cons (pg_name (i := 5) sc_is_rule.nd rfl (.inl rfl)) pgs_nil)))))
      (pss_one (ps_ret (pe_and (pe_chain op_le op_lt pe_int (pv 3) (pv 2)) (pe_and (pe_cmpR op_in_seq (pv 4) (pe_tup (pa_cons (pe_un un_neg pe_int) (pa_cons pe_int pa_nil))) rfl) (pe_one (pe_chain op_le op_lt (pe_un un_neg pe_int) (pv 5) (pv 1))))))))), ?_⟩
    refine ⟨_, rfl, _, _, _, _, true, rfl, .ty "tuple", tyx_sqt ha, kit_ty (by decide +kernel), _, rfl, iteF ?_⟩
    refine ⟨_, rfl, a, _, rfl, .inr ha, rfl, _, rfl, iteF ?_⟩
    refine ⟨_, rfl, a, rfl, ⟨_, ha⟩, fun D nD => ?_⟩
    refine lc_pure (walk_tup (xs := [V.int r.1, .int r.2.1, .int r.2.2])) (fun i acc _ => acc = List.replicate i (V.bl true)) nD (fun H' s => (sm_imm s).sqt ha) (fun _ _ _ _ _ _ _ h => h) rfl (by show 3 ≤ 100000; decide) (fun i acc H' e => ?_) ?_ ?_
    · rw [e, List.length_replicate]
      exact Nat.le_refl _
    · rintro i x H' H'' acc hi s1 _ ea ⟨rfl, ex⟩ C N hC hN
      refine ⟨rfl, yes_ ?_⟩
      obtain ⟨j, rfl⟩ : ∃ j, x = V.int j := by
        have := List.mem_of_getElem? ex
        simp only [List.mem_cons, List.not_mem_nil, or_false] at this
        rcases this with z | z | z <;> exact ⟨_, z⟩
      refine ⟨_, rfl, j, rfl, hC _ _ (Same.refl _) ?_⟩
      rw [ea, List.replicate_succ']
    · intro H' acc s1 eD ea
      refine ⟨D, [true, true, true], rfl, .of (by rw [eD, ea]; rfl), _, rfl, iteF ?_⟩
      refine ⟨_, rfl, a, _, rfl, (sm_imm s1).sqt ha, rfl, _, _, rfl, _, _, rfl, _, _, rfl, rfl, ?_⟩
      refine ⟨_, rfl, _, _, rfl, rfl, _, rfl, ?_⟩
      rw [decide_eq_true h1]
      refine iteT ⟨_, rfl, _, _, rfl, rfl, _, rfl, ?_⟩
      rw [decide_eq_true h2]
      refine iteT ⟨_, rfl, _, rfl, by show 2 ≤ sizeLine; decide, fun p np => ?_⟩
      refine ⟨p, _, rfl, .inr (.of upd_same), rfl, rfl, _, rfl, ?_⟩
      have e3 : inV (V.int r.2.1) [V.int (-1), V.int 1] = true := by
        rcases h3 with z | z <;> rw [z] <;> rfl
      show (if inV (V.int r.2.1) [V.int (-1), V.int 1] = true then _ else _)
      rw [e3]
      refine iteT ⟨_, rfl, _, rfl, _, _, rfl, rfl, _, rfl, ?_⟩
      rw [decide_eq_true h4]
      refine iteT ⟨_, rfl, _, _, rfl, rfl, ?_⟩
      have q2 := q _ (s1.trans (sm_new (o := .tup [.int (-1), .int 1]) np))
      rw [← decide_eq_true h5] at q2
      exact q2
theorem sc_is_machine : FnScope ["value", "row", "rule"] ["value"] (defScope s_is_machine) := ⟨rfl, rfl, rfl, by decide +kernel, rfl, by decide +kernel, by decide +kernel⟩
theorem ok_is_machine (T : Txt w K mg) : Has P w K mg base CX0 3 ("is_machine", none) ["value"] (spIsM K) := by
  obtain ⟨fd, F⟩ := T.fd 2 (d := d_is_machine) rfl rfl rfl
  obtain ⟨⟨fd1, G1, b1⟩, kp1⟩ := ok_is_rule (P := P) (base := base) T
  obtain ⟨tS, gS⟩ := T.i_MOST_STATES
  obtain ⟨tY, gY⟩ := T.i_MOST_SYMBOLS
  refine ⟨⟨fd, F.ok sc_is_machine (fun vs H Q E h => ?_) (fun cdv A outer s H vs Q E hr h => ?_), F.bindsN fun _ _ _ _ _ _ us hl => match us, hl with | [_], _ => rfl⟩, F.kp⟩
  · obtain ⟨v, M, k, rfl, _⟩ := h
    rfl
  · obtain ⟨v, M, k, rfl, ⟨a, vs, rfl, ha, hp⟩, wf, q⟩ := h
    refine ⟨_, PSs.nox (pss_cons (ps_if (PW.pt (pw_or (pt_not (pt_val (pe_callB call_isi (by rfl) T.z_isinstance (by decide +kernel) (pa_cons (pv 0) (pa_cons (pe_bltn (v := .ty "tuple") (by rfl) T.z_tuple (by decide +kernel) rfl) pa_nil)))))
        (pw_or1 (pt_not (pt_chain op_le op_le pe_int (pe_callB call_len_seq (by rfl) T.z_len (by decide +kernel) (pa_cons (pv 0) pa_nil)) (pe_glob (v := .int 4) rfl gS ⟨_, rfl⟩)))))) (pss_one (ps_ret pe_bl)) pss_nil)
      (pss_cons (ps_for PassesOwn.never rfl (pi_tup (pv 0)) (pg_name (i := 1) sc_is_machine.nd rfl (.inr rfl))
        (pss_cons (ps_if (PW.pt (pw_or (pt_not (pt_val (pe_callB call_isi (by rfl) T.z_isinstance (by decide +kernel) (pa_cons (pv 1) (pa_cons (pe_bltn (v := .ty "tuple") (by rfl) T.z_tuple (by decide +kernel) rfl) pa_nil)))))
          (pw_or (pt_not (pt_chain op_le op_le pe_int (pe_callB call_len_seq (by rfl) T.z_len (by decide +kernel) (pa_cons (pv 1) pa_nil)) (pe_glob (v := .int 4) rfl gY ⟨_, rfl⟩)))
            (pw_or1 (pt_cmpR op_ne (pe_callB call_len_seq (by rfl) T.z_len (by decide +kernel) (pa_cons (pv 1) pa_nil)) (pe_callB call_len_seq (by rfl) T.z_len (by decide +kernel) (pa_cons (pe_ix ix_tup (pv 0) pe_int (fun _ _ => rfl)) pa_nil)) (nomark _)))))) (pss_one (ps_ret pe_bl)) pss_nil)
        (pss_one (ps_if (pt_not (pt_val (pe_callB (cr_all (by rfl)) (by rfl) T.z_all (by decide +kernel) (pa_cons (pe_lc (own := [("rule", 2)]) (g := gName 2) (te := tCall (spIsR K) [] E0 (tCons (tVar 2) (tCons (tCB (fun xs H Q => ∃ p ys, xs = [V.ref p] ∧ (SqL K H p ys ∨ SqT K H p ys) ∧ Q (.int ys.length) H) (tCons (tVar 0) tNil)) (tCons (tCB (fun xs H Q => ∃ p ys, xs = [V.ref p] ∧ (SqL K H p ys ∨ SqT K H p ys) ∧ Q (.int ys.length) H) (tCons (tVar 1) tNil)) tNil))))
          (by rfl) sc_is_machine.nd (pi_tup (pv 1)) (blkOk_by (by kernel_rfl)) (fun _ _ _ _ _ => pg_name (i := 2) sc_is_machine.nd rfl (Or.inl rfl)) (fun _ _ _ _ _ => pts_nil)
            (fun _ _ _ _ _ => by exact pe_call G1 hr (by rfl) T.g_is_rule kp1 b1 .nil pass0 (pa_cons (pv 2) (pa_cons (pe_callB call_len_seq (by rfl) T.z_len (by decide +kernel) (pa_cons (pv 0) pa_nil)) (pa_cons (pe_callB call_len_seq (by rfl) T.z_len (by decide +kernel) (pa_cons (pv 1) pa_nil)) pa_nil))))) pa_nil)))) (pss_one (ps_ret pe_bl)) pss_nil))))
      (pss_one (ps_ret pe_bl)))), ?_⟩
    have hw := wf.len
    have hk := wf.sym
    have hvl : vs.length = M.length := hp.length
    have hkl := head_len wf
    obtain ⟨x0, ex0, b0, us0, rfl, hb0, hq0⟩ := prd_at hp hkl.2
    have hul0 : us0.length = k := hq0.length.trans hkl.1
    have ex0 : atI vs 0 = some (.ref b0) := atI_int (by decide) ex0
    refine ⟨_, rfl, _, _, _, _, true, rfl, .ty "tuple", tyx_sqt ha, kit_ty (by decide +kernel), _, rfl, iteF ?_⟩
    refine ⟨_, rfl, a, _, rfl, .inr ha, _, _, rfl, rfl, _, rfl, ?_⟩
    rw [hvl, decide_eq_true (show (1 : Int) ≤ (M.length : Int) by omega)]
    refine iteT ⟨_, _, rfl, rfl, _, rfl, ?_⟩
    rw [decide_eq_true (show (M.length : Int) ≤ 4 by omega)]
    refine iteF ?_
    refine ⟨_, rfl, a, rfl, ⟨_, ha⟩, ?_⟩
    refine for_it (walk_tup (xs := vs)) (fun i σ H' => ∃ y1, σ = [some (.ref a), y1, none] ∧ Same H H') ⟨none, rfl, Same.refl H⟩ (fun i σ H' _ ⟨_, _, s⟩ => (sm_imm s).sqt ha) ?_ ?_
    · rintro i x σ H1 H2 hi ⟨y1, rfl, s1⟩ ⟨rfl, ex⟩
      obtain ⟨row, er, b, us, rfl, hb, hq⟩ := prd_at' hp ex
      have hrl := wf.rows row (List.mem_of_getElem? er)
      have hul : us.length = k := hq.length.trans hrl
      have hb1 := (sm_imm s1).sqt hb
      have ha1 := (sm_imm s1).sqt ha
      have hb01 := (sm_imm s1).sqt hb0
      refine ⟨_, rfl, _, _, _, _, true, rfl, .ty "tuple", tyx_sqt hb1, kit_ty (by decide +kernel), _, rfl, iteF ?_⟩
      refine ⟨_, rfl, b, _, rfl, .inr hb1, _, _, rfl, rfl, _, rfl, ?_⟩
      rw [hul, decide_eq_true (show (2 : Int) ≤ (k : Int) by omega)]
      refine iteT ⟨_, _, rfl, rfl, _, rfl, ?_⟩
      rw [decide_eq_true (show (k : Int) ≤ 4 by omega)]
      refine iteF ?_
      refine ⟨_, rfl, b, _, rfl, .inr hb1, _, rfl, a, _, 0, _, rfl, rfl, ha1, ex0, b0, _, rfl, .inr hb01, rfl, _, rfl, ?_⟩
      rw [hul, hul0, decide_eq_true rfl]
      refine iteF ?_
      refine ⟨_, rfl, b, rfl, ⟨_, hb1⟩, fun D nD => ?_⟩
      refine lc_pure (walk_tup (xs := us)) (fun i acc _ => acc = List.replicate i (V.bl true)) nD (fun H' s => (sm_imm s).sqt hb1) (fun _ _ _ _ _ _ _ h => h) rfl (by rw [hul]; omega) (fun i acc H' e => ?_) ?_ ?_
      · rw [e, List.length_replicate]
        exact Nat.le_refl _
      · rintro j y H3 H4 acc hj s3 _ ea ⟨rfl, ey⟩ C N hC hN
        obtain ⟨r, er2, c, rfl, hc⟩ := prd_at' hq ey
        refine ⟨rfl, yes_ ?_⟩
        refine ⟨_, rfl, _, rfl, a, _, rfl, .inr ((sm_imm s3).sqt ha1), _, rfl, b, _, rfl, .inr ((sm_imm s3).sqt hb1), ?_⟩
        rw [hvl, hul]
        refine ⟨_, r, M.length, k, rfl, ⟨c, rfl, (sm_imm (s1.trans s3)).sqt hc⟩, wf.rule row (List.mem_of_getElem? er) r (List.mem_of_getElem? er2), fun H5 s5 => ?_⟩
        refine hC _ _ s5 ?_
        rw [ea, List.replicate_succ']
      · intro H3 acc s3 eD ea
        refine ⟨D, List.replicate k true, rfl, .of (by rw [eD, ea, hul, List.map_replicate]), _, rfl, ?_⟩
        rw [show (List.replicate k true).all id = true from by simp [List.all_eq_true]]
        exact iteF ⟨_, rfl, s1.trans s3⟩
    · rintro σ H1 ⟨y1, rfl, s1⟩
      exact q H1 s1
end
end K79

namespace K79
open PySem PySem.Spec PyProof.Rows L2
def ltC (i : Int) : Nat := if i = -1 then 90 else 65 + i.toNat
def wyC (i : Int) : Nat := if i < 0 then 76 else 82
def rtS (r : Rule) : Str := ⟨#[48 + r.1.toNat, wyC r.2.1, ltC r.2.2]⟩
def rowS (l : List Rule) : Str := Txt.join "" (l.map rtS)
def textM (M : Mach) : Str := Txt.join "_" (M.map rowS)
def R4 (r : Rule) : Prop := RuOk r 4 4
def spRText (K : PySem.W.Frag) : Sp := fun vs H Q _ => ∃ v r, vs = [v] ∧ RuleAt K H v r ∧ R4 r ∧ Q (.str (rtS r)) H
def spText (K : PySem.W.Frag) : Sp := fun vs H Q _ => ∃ (v : V) (M : Mach) (k : Nat), vs = [v] ∧ MachAt K H v M ∧ Wf M k ∧ (∀ l ∈ M, (rowS l).length ≤ 100) ∧ ∀ H', Same H H' → Q (.str (textM M)) H'
def spPRule (K : PySem.W.Frag) : Sp := fun vs H Q _ => ∃ r, vs = [.str (rtS r)] ∧ R4 r ∧ ∀ v H', Same H H' → RuleAt K H' v r → Q v H'
theorem dig_at {i : Int} (h0 : 0 ≤ i) (h1 : i < 4) : atI ("0123" : Str).cps.toList i = some (48 + i.toNat) := by
  have : i = 0 ∨ i = 1 ∨ i = 2 ∨ i = 3 := by omega
  rcases this with e | e | e | e <;> rw [e] <;> decide +kernel
theorem let_at {i : Int} (h0 : 0 ≤ i) (h1 : i < 4) : atI ("ABCD" : Str).cps.toList i = some (65 + i.toNat) := by
  have : i = 0 ∨ i = 1 ∨ i = 2 ∨ i = 3 := by omega
  rcases this with e | e | e | e <;> rw [e] <;> decide +kernel
theorem dig_in {i : Int} (h0 : 0 ≤ i) (h1 : i < 4) : decide ((48 + i.toNat) ∈ ("0123" : Str).cps.toList) = true := by
  have : i = 0 ∨ i = 1 ∨ i = 2 ∨ i = 3 := by omega
  rcases this with e | e | e | e <;> rw [e] <;> decide +kernel
theorem dig_ix {i : Int} (h0 : 0 ≤ i) (h1 : i < 4) : Builtin.Str.occurrences ("0123" : Str) ⟨#[48 + i.toNat]⟩ 0 ("0123" : Str).length 1 = [i.toNat] := by
  have : i = 0 ∨ i = 1 ∨ i = 2 ∨ i = 3 := by omega
  rcases this with e | e | e | e <;> rw [e] <;> decide +kernel
theorem let_ix {i : Int} (h0 : 0 ≤ i) (h1 : i < 4) : Builtin.Str.occurrences ("ABCD" : Str) ⟨#[65 + i.toNat]⟩ 0 ("ABCD" : Str).length 1 = [i.toNat] := by
  have : i = 0 ∨ i = 1 ∨ i = 2 ∨ i = 3 := by omega
  rcases this with e | e | e | e <;> rw [e] <;> decide +kernel
theorem ltC_pos {i : Int} (h0 : 0 ≤ i) : ltC i = 65 + i.toNat := by
  unfold ltC
  rw [if_neg (by omega)]
theorem lt_in {i : Int} (h0 : -1 ≤ i) (h1 : i < 4) : decide (ltC i ∈ (("ABCD" : Str) ++ ("Z" : Str)).cps.toList) = true := by
  have : i = -1 ∨ i = 0 ∨ i = 1 ∨ i = 2 ∨ i = 3 := by omega
  rcases this with e | e | e | e | e <;> rw [e] <;> decide +kernel
theorem way_in {i : Int} (h : i = 1 ∨ i = -1) : decide (wyC i ∈ ("LR" : Str).cps.toList) = true := by
  rcases h with e | e <;> rw [e] <;> decide +kernel
theorem sg_z {i : Int} (h0 : -1 ≤ i) (h1 : i < 4) : decide ((⟨#[ltC i]⟩ : Str) = ("Z" : Str)) = decide (i = -1) := by
  have : i = -1 ∨ i = 0 ∨ i = 1 ∨ i = 2 ∨ i = 3 := by omega
  rcases this with e | e | e | e | e <;> rw [e] <;> decide +kernel
theorem sg_l {i : Int} (h : i = 1 ∨ i = -1) : decide ((⟨#[wyC i]⟩ : Str) = ("L" : Str)) = decide (i = -1) := by
  rcases h with e | e <;> rw [e] <;> decide +kernel
theorem rt_cat {a : Nat} {mv s : Int} (h0 : -1 ≤ s) (h1 : s < 4) (h : mv = 1 ∨ mv = -1) : ((⟨#[a]⟩ : Str) ++ (if mv < 0 then ("L" : Str) else ("R" : Str))) ++ (if s = -1 then ("Z" : Str) else ⟨#[65 + s.toNat]⟩) = ⟨#[a, wyC mv, ltC s]⟩ := by
  have : s = -1 ∨ s = 0 ∨ s = 1 ∨ s = 2 ∨ s = 3 := by omega
  rcases h with e | e <;> rcases this with z | z | z | z | z <;> rw [e, z] <;> rfl
theorem str_app (a b : Str) : (a ++ b).length = a.length + b.length := Array.size_append
section
variable {P : Program} {w : World} {K : PySem.W.Frag} {mg : Str → Option Value} {base : Heap}
theorem sc_rule_text : FnScope ["rule", "write", "move", "state", "way", "name"] ["rule"] (defScope s_rule_text) := ⟨rfl, rfl, rfl, by decide +kernel, rfl, by decide +kernel, by decide +kernel⟩
theorem ok_rule_text (T : Txt w K mg) : Has P w K mg base CX0 1 ("rule_text", none) ["rule"] (spRText K) := by
  obtain ⟨fd, F⟩ := T.fd 3 (d := d_rule_text) rfl rfl rfl
  obtain ⟨tS, gS⟩ := T.i_STOP
  obtain ⟨tL, gL⟩ := T.s_LETTERS
  obtain ⟨tD, gD⟩ := T.s_DIGITS
  refine ⟨⟨fd, F.ok sc_rule_text (fun vs H Q E h => ?_) (fun cdv A outer s H vs Q E hr h => ?_), F.bindsN fun _ _ _ _ _ _ us hl => match us, hl with | [_], _ => rfl⟩, F.kp⟩
  · obtain ⟨v, r, rfl, _⟩ := h
    rfl
  · obtain ⟨v, r, rfl, ⟨a, rfl, ha⟩, ⟨h1, h2, h3, h4, h5⟩, q⟩ := h
    refine ⟨_, PSs.nox (pss_cons (ps_asg (pv 0) (pg_tup rfl (pgs_cons (pg_name (i := 1) sc_rule_text.nd rfl (.inl rfl)) (pgs_cons (pg_name (i := 2) sc_rule_text.nd rfl (.inl rfl)) (pgs_cons (pg_name (i := 3) sc_rule_text.nd rfl (.inl rfl)) pgs_nil)))))
      (pss_cons (ps_set (i := 4) sc_rule_text.nd rfl (.inl rfl) pe_str)
      (pss_cons (ps_if (pt_cmpR op_lt (pv 2) pe_int (nomark _)) (pss_one (ps_set (i := 4) sc_rule_text.nd rfl (.inl rfl) pe_str)) pss_nil)
      (pss_cons (ps_set (i := 5) sc_rule_text.nd rfl (.inl rfl) pe_str)
      (pss_cons (ps_if (pt_cmpR op_ne (pv 3) (pe_glob (v := .int (-1)) rfl gS ⟨_, rfl⟩) (nomark _)) (pss_one (ps_set (i := 5) sc_rule_text.nd rfl (.inl rfl) (pe_ix ix_str (pe_glob (v := .str "ABCD") rfl gL ⟨_, rfl⟩) (pv 3) (fun _ _ => rfl)))) pss_nil)
      (pss_one (ps_ret (pe_op op_add_str (pe_op op_add_str (pe_ix ix_str (pe_glob (v := .str "0123") rfl gD ⟨_, rfl⟩) (pv 1) (fun _ _ => rfl)) (pv 4)) (pv 5))))))))), ?_⟩
    have small : ∀ {n : Nat}, n ≤ 10 → n ≤ sizeLine := fun {n} h => Nat.le_trans h (by rw [sizeLine_eq]; decide)
    refine ⟨_, rfl, a, _, rfl, ha, rfl, _, _, rfl, _, _, rfl, _, _, rfl, rfl, ?_⟩
    -- the end, way and name known
    have fin : ∀ (wy nm : Str), wy.length = 1 → nm.length = 1 → wy = (if r.2.1 < 0 then ("L" : Str) else ("R" : Str)) → nm = (if r.2.2 = -1 then ("Z" : Str) else ⟨#[65 + r.2.2.toNat]⟩) →
        tRet (tOp (fun x y H Q => ∃ i j, x = V.str i ∧ y = V.str j ∧ i.length + j.length ≤ sizeLine ∧ Q (.str (i ++ j)) H) (tOp (fun x y H Q => ∃ i j, x = V.str i ∧ y = V.str j ∧ i.length + j.length ≤ sizeLine ∧ Q (.str (i ++ j)) H) (tOp rIxS (tC (.str "0123")) (tVar 1)) (tVar 4)) (tVar 5))
          { nx := fun _ H' => Q .non H', rt := Q } [some (.ref a), some (.int r.1), some (.int r.2.1), some (.int r.2.2), some (.str wy), some (.str nm)] H := fun wy nm l1 l2 e1 e2 => by
      refine ⟨_, rfl, _, _, _, rfl, rfl, small (by decide), dig_at h1 h2, _, rfl, _, _, rfl, rfl, ?_, _, rfl, _, _, rfl, rfl, ?_, ?_⟩
      · rw [l1]
        exact small (by show 1 + 1 ≤ 10; decide)
      · rw [str_app, l1, l2]
        exact small (by show 1 + 1 + 1 ≤ 10; decide)
      · rw [e1, e2, rt_cat h4 h5 h3]
        exact q
    have fin2 : ∀ (wy : Str), wy.length = 1 → wy = (if r.2.1 < 0 then ("L" : Str) else ("R" : Str)) →
        tSeq (tAsg (tC (.str "Z")) (gName 5)) (tSeq (tIfS (tTest (tOp rNe (tVar 3) (tC (.int (-1))))) (tAsg (tOp rIxS (tC (.str "ABCD")) (tVar 3)) (gName 5)) tNext)
        (tRet (tOp (fun x y H Q => ∃ i j, x = V.str i ∧ y = V.str j ∧ i.length + j.length ≤ sizeLine ∧ Q (.str (i ++ j)) H) (tOp (fun x y H Q => ∃ i j, x = V.str i ∧ y = V.str j ∧ i.length + j.length ≤ sizeLine ∧ Q (.str (i ++ j)) H) (tOp rIxS (tC (.str "0123")) (tVar 1)) (tVar 4)) (tVar 5))))
          { nx := fun _ H' => Q .non H', rt := Q } [some (.ref a), some (.int r.1), some (.int r.2.1), some (.int r.2.2), some (.str wy), none] H := fun wy l1 e1 => by
      refine ⟨_, rfl, rfl, _, rfl, ?_⟩
      rw [dec_int]
      by_cases z : r.2.2 = -1
      · rw [decide_eq_true z]
        refine iteF ?_
        exact fin wy "Z" l1 rfl e1 (by rw [if_pos z])
      · rw [decide_eq_false z]
        refine iteT ?_
        refine ⟨_, rfl, _, _, _, rfl, rfl, small (by decide), let_at (by omega) h5, ?_⟩
        exact fin wy _ l1 rfl e1 (by rw [if_neg z])
    refine ⟨_, rfl, _, _, rfl, rfl, _, rfl, ?_⟩
    by_cases z : r.2.1 < 0
    · rw [decide_eq_true z]
      refine iteT ?_
      exact fin2 "L" rfl (by rw [if_pos z])
    · rw [decide_eq_false z]
      refine iteF ?_
      exact fin2 "R" rfl (by rw [if_neg z])
theorem sc_text : FnScope ["machine", "row", "rule"] ["machine"] (defScope s_text) := ⟨rfl, rfl, rfl, by decide +kernel, rfl, by decide +kernel, by decide +kernel⟩
theorem sum_le (b : Nat) : ∀ l : List Nat, (∀ x ∈ l, x ≤ b) → l.sum ≤ l.length * b
  | [], _ => Nat.zero_le _
  | x :: r, h => by
    have h1 := h x (List.mem_cons_self)
    have h2 := sum_le b r fun y hy => h y (List.mem_cons_of_mem _ hy)
    rw [List.sum_cons, List.length_cons, Nat.succ_mul]
    omega
def rJoin (K : PySem.W.Frag) : V → List V → Hp → VK → Prop := fun x xs H Q => ∃ a p, ∃ ys : List Str, x = .str a ∧ xs = [.ref p] ∧ (SqL K H p (ys.map V.str) ∨ SqT K H p (ys.map V.str)) ∧ (ys.map (·.length)).sum + ys.length * a.length ≤ 16777216 ∧ Q (.str (Txt.join a ys)) H
theorem pe_joinK {X : Cx} {o e : Expr} {to te : TE} {apos pos : Pos} (ho : PE X o to) (he : PE X e te) (hs : starEach [e] X.env = [(false, eval e X.env)] := by rfl) (hbase : attributeBase o "join" X.env (eval o X.env) = eval o X.env := by rfl) (hline : (apos.endLine == pos.line) = true := by rfl) :
    PE X (.Call (.Attribute o "join" apos) [e] [] pos) (tM1 (rJoin X.K) to te) := pe_m1 PySem.F.slot_str_join PySem.F.type_str_join mt_join ho he hs hbase hline
theorem ok_text (T : Txt w K mg) : Has P w K mg base CX0 2 ("text", none) ["machine"] (spText K) := by
  obtain ⟨fd, F⟩ := T.fd 4 (d := d_text) rfl rfl rfl
  obtain ⟨⟨fd1, G1, b1⟩, kp1⟩ := ok_rule_text (P := P) (base := base) T
  refine ⟨⟨fd, F.ok sc_text (fun vs H Q E h => ?_) (fun cdv A outer s H vs Q E hr h => ?_), F.bindsN fun _ _ _ _ _ _ us hl => match us, hl with | [_], _ => rfl⟩, F.kp⟩
  · obtain ⟨v, M, k, rfl, _⟩ := h
    rfl
  · obtain ⟨v, M, k, rfl, ⟨a, vs, rfl, ha, hp⟩, wf, hlen, q⟩ := h
    refine ⟨_, PSs.nox (pss_one (ps_ret (pe_joinK pe_str (pe_lc (own := [("row", 1)]) (g := gName 1) (te := tM1 (rJoin K) (tC (.str "")) (tLc (iTup K (tVar 1)) (gName 2) tYes (tCall (spRText K) [] E0 (tCons (tVar 2) tNil)) [2]))
      (by rfl) sc_text.nd (pi_tup (pv 0)) (blkOk_by (by kernel_rfl)) (fun _ _ _ _ _ => pg_name (i := 1) sc_text.nd rfl (Or.inl rfl)) (fun _ _ _ _ _ => pts_nil)
      (fun _ _ _ _ _ => by exact pe_joinK pe_str (pe_lc (own := [("rule", 2)]) (g := gName 2) (te := tCall (spRText K) [] E0 (tCons (tVar 2) tNil)) (by rfl) sc_text.nd (pi_tup (pv 1)) (blkOk_by (by kernel_rfl)) (fun _ _ _ _ _ => pg_name (i := 2) sc_text.nd rfl (Or.inl rfl)) (fun _ _ _ _ _ => pts_nil)
        (fun _ _ _ _ _ => by exact pe_call G1 hr (by rfl) T.g_rule_text kp1 b1 .nil pass0 (pa_cons (pv 2) pa_nil)))))))), ?_⟩
    have hw := wf.len
    have hk := wf.sym
    refine ⟨⟨_, rfl⟩, _, rfl, a, rfl, ⟨_, ha⟩, fun D nD => ?_⟩
    refine lc_pure (walk_tup (xs := vs)) (fun i acc _ => acc = ((M.take i).map rowS).map V.str) nD (fun H' s => (sm_imm s).sqt ha) (fun _ _ _ _ _ _ _ h => h) rfl (by rw [hp.length]; omega) (fun i acc H' e => ?_) ?_ ?_
    · rw [e, List.length_map, List.length_map, List.length_take]
      omega
    · rintro i x H' H'' acc hi s1 _ ea ⟨rfl, ex⟩ C N hC hN
      obtain ⟨row, er, b, us, rfl, hb, hq⟩ := prd_at' hp ex
      have hrm := List.mem_of_getElem? er
      have hrl := wf.rows row hrm
      have hb1 := (sm_imm s1).sqt hb
      refine ⟨rfl, yes_ ?_⟩
      refine ⟨⟨_, rfl⟩, _, rfl, b, rfl, ⟨_, hb1⟩, fun D2 nD2 => ?_⟩
      refine lc_pure (walk_tup (xs := us)) (fun i acc _ => acc = ((row.take i).map rtS).map V.str) nD2 (fun H' s => (sm_imm s).sqt hb1) (fun _ _ _ _ _ _ _ h => h) rfl (by rw [hq.length]; omega) (fun i acc H' e => ?_) ?_ ?_
      · rw [e, List.length_map, List.length_map, List.length_take]
        omega
      · rintro j y H3 H4 acc2 hj s3 _ ea2 ⟨rfl, ey⟩ C2 N2 hC2 hN2
        obtain ⟨r, er2, c, rfl, hc⟩ := prd_at' hq ey
        have hr0 := wf.rule row hrm r (List.mem_of_getElem? er2)
        refine ⟨rfl, yes_ ?_⟩
        refine ⟨_, rfl, _, r, rfl, ⟨c, rfl, (sm_imm (s1.trans s3)).sqt hc⟩, ⟨hr0.1, by omega, hr0.2.2.1, hr0.2.2.2.1, by omega⟩, ?_⟩
        refine hC2 _ _ (Same.refl _) ?_
        rw [ea2, take_snoc er2, List.map_append, List.map_append]
        rfl
      · intro H3 acc2 s3 eD2 ea2
        rw [hq.length, List.take_length] at ea2
        refine ⟨_, D2, row.map rtS, rfl, rfl, .inl (.of (by rw [eD2, ea2])), ?_, ?_⟩
        · have h1 := sum_le 3 ((row.map rtS).map (·.length)) fun x hx => by
            obtain ⟨y, hy, rfl⟩ := List.mem_map.mp hx
            obtain ⟨r, _, rfl⟩ := List.mem_map.mp hy
            exact Nat.le_refl 3
          rw [List.length_map, List.length_map] at h1
          rw [List.length_map, show (("" : Str)).length = 0 from rfl]
          omega
        · refine hC _ _ s3 ?_
          rw [ea, take_snoc er, List.map_append, List.map_append]
          rfl
    · intro H' acc s1 eD ea
      rw [hp.length, List.take_length] at ea
      refine ⟨_, D, M.map rowS, rfl, rfl, .inl (.of (by rw [eD, ea])), ?_, q H' s1⟩
      have h1 := sum_le 100 ((M.map rowS).map (·.length)) fun x hx => by
        obtain ⟨y, hy, rfl⟩ := List.mem_map.mp hx
        obtain ⟨l, hl, rfl⟩ := List.mem_map.mp hy
        exact hlen l hl
      rw [List.length_map, List.length_map] at h1
      rw [List.length_map, show (("_" : Str)).length = 1 from rfl]
      omega
theorem sc_parse_rule : FnScope ["word", "move", "state"] ["word"] (defScope s_parse_rule) := ⟨rfl, rfl, rfl, by decide +kernel, rfl, by decide +kernel, by decide +kernel⟩
theorem ok_parse_rule (T : Txt w K mg) : Has P w K mg base CX0 1 ("parse_rule", none) ["word"] (spPRule K) := by
  obtain ⟨fd, F⟩ := T.fd 5 (d := d_parse_rule) rfl rfl rfl
  obtain ⟨tS, gS⟩ := T.i_STOP
  obtain ⟨tL, gL⟩ := T.s_LETTERS
  obtain ⟨tD, gD⟩ := T.s_DIGITS
  refine ⟨⟨fd, F.ok sc_parse_rule (fun vs H Q E h => ?_) (fun cdv A outer s H vs Q E hr h => ?_), F.bindsN fun _ _ _ _ _ _ us hl => match us, hl with | [_], _ => rfl⟩, F.kp⟩
  · obtain ⟨r, rfl, _⟩ := h
    rfl
  · obtain ⟨r, rfl, ⟨h1, h2, h3, h4, h5⟩, q⟩ := h
    refine ⟨_, PSs.nox (pss_cons (ps_if (PW.pt (pw_or (pt_cmpR op_notIn_sign (pe_ix ix_str (pv 0) pe_int (fun _ _ => rfl)) (pe_glob (v := .str "0123") rfl gD ⟨_, rfl⟩) rfl)
        (pw_or (pt_cmpR op_notIn_sign (pe_ix ix_str (pv 0) pe_int (fun _ _ => rfl)) pe_str rfl)
          (pw_or1 (pt_cmpR op_notIn_sign (pe_ix ix_str (pv 0) pe_int (fun _ _ => rfl)) (pe_op op_add_str (pe_glob (v := .str "ABCD") rfl gL ⟨_, rfl⟩) pe_str) rfl))))) pss_never pss_nil)
      (pss_cons (ps_set (i := 1) sc_parse_rule.nd rfl (.inl rfl) pe_int)
      (pss_cons (ps_if (pt_cmpR op_eq (pe_ix ix_str (pv 0) pe_int (fun _ _ => rfl)) pe_str (nomark _)) (pss_one (ps_set (i := 1) sc_parse_rule.nd rfl (.inl rfl) (pe_un un_neg pe_int))) pss_nil)
      (pss_cons (ps_set (i := 2) sc_parse_rule.nd rfl (.inl rfl) (pe_glob (v := .int (-1)) rfl gS ⟨_, rfl⟩))
      (pss_cons (ps_if (pt_cmpR op_ne (pe_ix ix_str (pv 0) pe_int (fun _ _ => rfl)) pe_str (nomark _)) (pss_one (ps_set (i := 2) sc_parse_rule.nd rfl (.inl rfl) (pe_m1 PySem.F.slot_str_index PySem.F.type_str_index mt_sindex (pe_glob (v := .str "ABCD") rfl gL ⟨_, rfl⟩) (pe_ix ix_str (pv 0) pe_int (fun _ _ => rfl))))) pss_nil)
      (pss_one (ps_ret (pe_tup (pa_cons (pe_m1 PySem.F.slot_str_index PySem.F.type_str_index mt_sindex (pe_glob (v := .str "0123") rfl gD ⟨_, rfl⟩) (pe_ix ix_str (pv 0) pe_int (fun _ _ => rfl))) (pa_cons (pv 1) (pa_cons (pv 2) pa_nil))))))))))), ?_⟩
    have small : ∀ {n : Nat}, n ≤ 10 → n ≤ sizeLine := fun {n} h => Nat.le_trans h (by rw [sizeLine_eq]; decide)
    have l3 : (rtS r).length ≤ sizeLine := small (by show 3 ≤ 10; decide)
    have a0 : atI (rtS r).cps.toList 0 = some (48 + r.1.toNat) := rfl
    have a1 : atI (rtS r).cps.toList 1 = some (wyC r.2.1) := rfl
    have a2 : atI (rtS r).cps.toList 2 = some (ltC r.2.2) := rfl
    refine ⟨_, rfl, _, _, _, rfl, rfl, l3, a0, _, _, rfl, rfl, _, rfl, ?_⟩
    rw [dig_in h1 h2]
    refine iteF ⟨_, rfl, _, _, _, rfl, rfl, l3, a1, _, _, rfl, rfl, _, rfl, ?_⟩
    rw [way_in h3]
    refine iteF ⟨_, rfl, _, _, _, rfl, rfl, l3, a2, _, _, rfl, rfl, small (by decide), _, _, rfl, rfl, _, rfl, ?_⟩
    rw [lt_in h4 h5]
    refine iteF ?_
    -- the end
    have fin : ∀ mv st : Int, mv = r.2.1 → st = r.2.2 → tRet (tTup (tCons (tM1 (fun x xs H Q => ∃ a b i rest, x = V.str a ∧ xs = [V.str b] ∧ Builtin.Str.occurrences a b 0 a.length 1 = i :: rest ∧ Q (.int (i : Nat)) H) (tC (.str "0123")) (tOp rIxS (tVar 0) (tC (.int 0)))) (tCons (tVar 1) (tCons (tVar 2) tNil))))
        { nx := fun _ H' => Q .non H', rt := Q } [some (.str (rtS r)), some (.int mv), some (.int st)] H := fun mv st e1 e2 => by
      subst e1 e2
      refine ⟨⟨_, rfl⟩, _, rfl, _, _, _, rfl, rfl, l3, a0, _, _, _, _, rfl, rfl, dig_ix h1 h2, _, rfl, _, rfl, by show 3 ≤ sizeLine; decide, fun p np => ?_⟩
      refine q _ _ (sm_new np) ⟨p, rfl, ?_⟩
      rw [show ((r.1.toNat : Nat) : Int) = r.1 from Int.toNat_of_nonneg h1]
      exact .of upd_same
    have fin2 : ∀ mv : Int, mv = r.2.1 → tSeq (tAsg (tC (.int (-1))) (gName 2)) (tSeq (tIfS (tTest (tOp rNe (tOp rIxS (tVar 0) (tC (.int 2))) (tC (.str "Z")))) (tAsg (tM1 (fun x xs H Q => ∃ a b i rest, x = V.str a ∧ xs = [V.str b] ∧ Builtin.Str.occurrences a b 0 a.length 1 = i :: rest ∧ Q (.int (i : Nat)) H) (tC (.str "ABCD")) (tOp rIxS (tVar 0) (tC (.int 2)))) (gName 2)) tNext)
        (tRet (tTup (tCons (tM1 (fun x xs H Q => ∃ a b i rest, x = V.str a ∧ xs = [V.str b] ∧ Builtin.Str.occurrences a b 0 a.length 1 = i :: rest ∧ Q (.int (i : Nat)) H) (tC (.str "0123")) (tOp rIxS (tVar 0) (tC (.int 0)))) (tCons (tVar 1) (tCons (tVar 2) tNil))))))
        { nx := fun _ H' => Q .non H', rt := Q } [some (.str (rtS r)), some (.int mv), none] H := fun mv e1 => by
      refine ⟨_, rfl, _, _, _, rfl, rfl, l3, a2, rfl, _, rfl, ?_⟩
      rw [dec_str, sg_z h4 h5]
      by_cases z : r.2.2 = -1
      · rw [decide_eq_true z]
        exact iteF (fin mv (-1) e1 z.symm)
      · rw [decide_eq_false z]
        refine iteT ?_
        have h0 : 0 ≤ r.2.2 := by omega
        refine ⟨⟨_, rfl⟩, _, rfl, _, _, _, rfl, rfl, l3, a2, _, _, _, _, rfl, rfl, by rw [ltC_pos h0]; exact let_ix h0 h5, ?_⟩
        exact fin mv _ e1 (Int.toNat_of_nonneg h0)
    refine ⟨_, rfl, _, _, _, rfl, rfl, l3, a1, rfl, _, rfl, ?_⟩
    rw [dec_str, sg_l h3]
    by_cases z : r.2.1 = -1
    · rw [decide_eq_true z]
      exact iteT ⟨_, rfl, fin2 (-1) z.symm⟩
    · rw [decide_eq_false z]
      exact iteF (fin2 1 (by omega))
end
end K79

namespace K79
open PySem PySem.Spec PyProof.Rows L2
structure ParOk (M : Mach) (k : Nat) : Prop where
  len : (textM M).length ≤ 1000
  spl : Txt.split (textM M) "_" = M.map rowS
  row : ∀ l ∈ M, (rowS l).length = 3 * k
  cut : ∀ l ∈ M, ∀ (i : Nat) (r : Rule), l[i]? = some r → cutS (rowS l) (some (0 + (i : Int) * 3)) (some (0 + (i : Int) * 3 + 3)) = rtS r
def spParse (K : PySem.W.Frag) : Sp := fun vs H Q _ => ∃ (M : Mach) (k : Nat), vs = [.str (textM M)] ∧ Wf M k ∧ ParOk M k ∧ ∀ v H', Same H H' → MachAt K H' v M → Q v H'
theorem rg3 {k : Nat} (h : 2 ≤ k ∧ k ≤ 4) : RgC 0 ((3 * k : Nat) : Int) 3 k := by
  have : k = 2 ∨ k = 3 ∨ k = 4 := by omega
  rcases this with e | e | e <;> subst e <;> exact ⟨by decide, by decide, by decide +kernel, by decide +kernel⟩
theorem in69 {k : Nat} (h : 2 ≤ k ∧ k ≤ 4) : inV (V.int ((3 * k : Nat) : Int)) [V.int 6, V.int 9, V.int 12] = true := by
  have : k = 2 ∨ k = 3 ∨ k = 4 := by omega
  rcases this with e | e | e <;> subst e <;> decide +kernel
section
variable {P : Program} {w : World} {K : PySem.W.Frag} {mg : Str → Option Value} {base : Heap}
theorem sc_parse : FnScope ["line", "rows", "part", "machine", "at"] ["line"] (defScope s_parse) := ⟨rfl, rfl, rfl, by decide +kernel, rfl, by decide +kernel, by decide +kernel⟩
theorem ok_parse (T : Txt w K mg) : Has P w K mg base CX0 4 ("parse", none) ["line"] (spParse K) := by
  obtain ⟨fd, F⟩ := T.fd 6 (d := d_parse) rfl rfl rfl
  obtain ⟨⟨fd1, G1, b1⟩, kp1⟩ := ok_parse_rule (P := P) (base := base) T
  obtain ⟨⟨fd2, G2, b2⟩, kp2⟩ := ok_is_machine (P := P) (base := base) T
  refine ⟨⟨fd, F.ok sc_parse (fun vs H Q E h => ?_) (fun cdv A outer s H vs Q E hr h => ?_), F.bindsN fun _ _ _ _ _ _ us hl => match us, hl with | [_], _ => rfl⟩, F.kp⟩
  · obtain ⟨M, k, rfl, _⟩ := h
    rfl
  · obtain ⟨M, k, rfl, wf, pk, q⟩ := h
    have hr1 := hr.mono (by decide : 1 ≤ 3)
    refine ⟨_, PSs.nox (pss_cons (ps_set (i := 1) sc_parse.nd rfl (.inl rfl) (pe_lst pa_nil))
      (pss_cons (ps_for PassesOwn.never rfl (pi_list (pe_split (pv 0) pe_str)) (pg_name (i := 2) sc_parse.nd rfl (.inr rfl))
        (pss_cons (ps_if (pt_cmpR op_notIn_seq (pe_callB call_len_str (by rfl) T.z_len (by decide +kernel) (pa_cons (pv 2) pa_nil)) (pe_tup (pa_cons pe_int (pa_cons pe_int (pa_cons pe_int pa_nil)))) rfl) pss_never pss_nil)
        (pss_one (ps_expr (pe_bm PySem.F.plainAttrs_list PySem.F.slot_list_append PySem.F.type_list_append mt_append (pv 1) (pa_cons (pe_callTy call_tup (by rfl) T.z_tuple (by decide +kernel) (pa_cons (pe_lc (own := [("at", 4)]) (g := gName 4)
          (te := tCall (spPRule K) [] E0 (tCons (tSl rSlS (tVar 2) (tPart (tVar 4)) (tPart (tOp (rI0 fun i j => .int (i + j)) (tVar 4) (tC (.int 3))))) tNil)) (by rfl) sc_parse.nd
          (pi_range3 (by rfl) T.z_range (pa_cons pe_int (pa_cons (pe_callB call_len_str (by rfl) T.z_len (by decide +kernel) (pa_cons (pv 2) pa_nil)) (pa_cons pe_int pa_nil)))) (blkOk_by (by kernel_rfl)) (fun _ _ _ _ _ => pg_name (i := 4) sc_parse.nd rfl (Or.inl rfl)) (fun _ _ _ _ _ => pts_nil)
          (fun _ _ _ _ _ => by exact pe_call G1 hr1 (by rfl) T.g_parse_rule kp1 b1 .nil pass0 (pa_cons (pe_slice sl_str (pv 2) (po_some (pv 4)) (po_some (pe_op op_add (pv 4) pe_int))) pa_nil))) pa_nil)) pa_nil))))))
      (pss_cons (ps_set (i := 3) sc_parse.nd rfl (.inl rfl) (pe_callTy call_tup (by rfl) T.z_tuple (by decide +kernel) (pa_cons (pv 1) pa_nil)))
      (pss_cons (ps_if (pt_not (pt_val (pe_call G2 hr (by rfl) T.g_is_machine kp2 b2 .nil pass0 (pa_cons (pv 3) pa_nil)))) pss_never pss_nil)
      (pss_one (ps_ret (pv 3))))))), ?_⟩
    have hw := wf.len
    have hk := wf.sym
    have small : ∀ {n : Nat}, n ≤ 2000 → n ≤ sizeLine := fun {n} h => Nat.le_trans h (by rw [sizeLine_eq]; decide)
    refine ⟨Nat.zero_le _, fun rL nrL => ?_⟩
    have s1 : Same H (upd H rL (.lst [])) := sm_new nrL
    have e1 : (upd H rL (.lst [])) rL = some (.lst []) := upd_same
    generalize upd H rL (.lst []) = H1 at s1 e1 ⊢
    refine ⟨_, rfl, ⟨_, rfl⟩, _, _, rfl, rfl, by decide +kernel, small (by have := pk.len; omega), fun pL npL => ?_⟩
    rw [pk.spl]
    have nrp : rL ≠ pL := ne_of_none e1 npL
    have s2 : Same H (upd H1 pL (.lst ((M.map rowS).map V.str))) := s1.trans (sm_new npL)
    have e2 : (upd H1 pL (.lst ((M.map rowS).map V.str))) rL = some (.lst []) := (upd_ne nrp).trans e1
    have p2 : (upd H1 pL (.lst ((M.map rowS).map V.str))) pL = some (.lst ((M.map rowS).map V.str)) := upd_same
    generalize upd H1 pL (.lst ((M.map rowS).map V.str)) = H2 at s2 e2 p2 ⊢
    refine ⟨pL, rfl, ⟨_, .of p2⟩, ?_⟩
    refine for_list (xs := (M.map rowS).map V.str) (fun i σ H' => ∃ y2 us, σ = [some (.str (textM M)), some (.ref rL), y2, none, none] ∧ H' rL = some (.lst us) ∧ Paired (RowAt K H') us (M.take i) ∧ Fr [rL] H2 H') ⟨none, [], rfl, e2, .nil, Fr.refl _⟩
      (fun i σ H' _ ⟨_, _, _, _, _, f⟩ => .of (f _ _ p2 (by simp [nrp.symm]))) ?_ ?_
    · rintro i x σ H3 ex ⟨y2, us, rfl, e3, pp, f3⟩
      rw [List.getElem?_map, List.getElem?_map] at ex
      obtain ⟨z, ez, rfl⟩ := Option.map_eq_some_iff.mp ex
      obtain ⟨row, er, rfl⟩ := Option.map_eq_some_iff.mp ez
      have hrm := List.mem_of_getElem? er
      have hrl := wf.rows row hrm
      have hl3 := pk.row row hrm
      have hil : i < M.length := (List.getElem?_eq_some_iff.mp er).1
      refine ⟨_, rfl, _, rfl, small (by omega), by show 3 ≤ sizeLine; exact small (by decide), fun p np => ?_⟩
      refine ⟨p, _, rfl, .inr (.of upd_same), rfl, rfl, _, rfl, ?_⟩
      rw [hl3]
      show (if (!inV (V.int ((3 * k : Nat) : Int)) [V.int 6, V.int 9, V.int 12]) = true then _ else _)
      rw [in69 hk]
      refine iteF ?_
      have s4 : Same H3 (upd H3 p (.tup [V.int 6, .int 9, .int 12])) := sm_new np
      have e4 := s4 _ _ e3
      generalize upd H3 p (.tup [V.int 6, .int 9, .int 12]) = H4 at s4 e4 ⊢
      refine ⟨_, rfl, .inl ⟨rfl, _, .of e4⟩, ?_⟩
      refine ⟨_, rfl, _, rfl, small (by omega), 0, ((3 * k : Nat) : Int), 3, k, by rw [hl3], rg3 hk, fun D nD => ?_⟩
      refine lc_pure (walk_rangeC (lo := 0) (c := 3) (n := k)) (fun j acc H' => Paired (RuleAt K H') acc (row.take j)) nD (fun _ _ => trivial) (fun i acc H4 H5 l e f z => ?_) .nil (by omega) (fun j acc H' z => ?_) ?_ ?_
      · have i : Imm H4 H5 := f.imm fun p hp => by
          rw [List.mem_singleton.mp hp, e]
          trivial
        exact z.mono fun _ _ => RuleAt.imm i
      · rw [z.length, List.length_take]
        omega
      · rintro j y H5 H6 acc hj s5 eD z ⟨rfl, rfl⟩ C N hC hN
        have hj2 : j < row.length := by omega
        have er2 : row[j]? = some row[j] := List.getElem?_eq_getElem hj2
        have hru := wf.rule row hrm _ (List.getElem_mem hj2)
        refine ⟨rfl, yes_ ?_⟩
        refine ⟨_, rfl, _, rfl, _, rfl, _, rfl, _, _, rfl, rfl, _, rfl, _, rfl, small (by omega), ?_⟩
        refine ⟨row[j], ?_, ⟨hru.1, by omega, hru.2.2.1, hru.2.2.2.1, by omega⟩, fun v H7 s7 hv => ?_⟩
        · rw [← pk.cut row hrm j _ er2]
          rfl
        · refine hC _ _ s7 ?_
          rw [take_snoc er2]
          exact (z.mono fun _ _ => RuleAt.imm (sm_imm s7)).snoc hv
      · intro H5 acc s5 eD z
        rw [← hrl, List.take_length] at z
        refine ⟨D, acc, rfl, .inl ⟨.of eD, fun l nl => ?_⟩⟩
        have s6 := s5.trans (sm_new (o := .tup acc) nl)
        have e6 := s6 _ _ e4
        refine ⟨rL, us, _, rfl, rfl, e6, ?_, ?_⟩
        · rw [pp.length, List.length_take]
          exact Nat.lt_of_le_of_lt (show _ ≤ 1000 by omega) (by rw [sizeLine_eq]; decide)
        have tl : (upd H5 l (.tup acc)) l = some (.tup acc) := upd_same
        have z6 := z.mono fun _ _ => RuleAt.imm (sm_imm (sm_new (o := .tup acc) nl))
        generalize upd H5 l (.tup acc) = H6 at s6 e6 tl z6 ⊢
        have i7 : Imm H6 (upd H6 rL (.lst (us ++ [.ref l]))) := (Fr.set (S := [rL]) (by simp)).imm fun p hp => by
          rw [List.mem_singleton.mp hp, e6]
          trivial
        refine ⟨_, us ++ [.ref l], rfl, upd_same, ?_, f3.trans ((sm_fr (s4.trans s6)).trans (Fr.set (by simp)))⟩
        rw [take_snoc er]
        exact (pp.mono fun _ _ h => RowAt.imm ((sm_imm (s4.trans s6)).trans i7) h).snoc ⟨l, acc, rfl, i7.sqt (.of tl), z6.mono fun _ _ => RuleAt.imm i7⟩
    · rintro σ H3 ⟨y2, us, rfl, e3, pp, f3⟩
      rw [List.length_map, List.length_map, List.take_length] at pp
      have s3 : Same H H3 := sm_drop s2 f3 (by simp [nrL])
      refine ⟨_, rfl, rL, us, rfl, .inl ⟨.of e3, fun m nm => ?_⟩⟩
      have hm : MachAt K (upd H3 m (.tup us)) (.ref m) M := ⟨m, us, rfl, .of upd_same, pp.mono fun _ _ => RowAt.imm (sm_imm (sm_new nm))⟩
      refine ⟨_, rfl, _, M, k, rfl, hm, wf, fun H5 s5 => ⟨_, rfl, iteF ⟨_, rfl, ?_⟩⟩⟩
      exact q _ _ ((s3.trans (sm_new nm)).trans s5) (hm.imm (sm_imm s5))
end
end K79

namespace K79
open PySem PySem.Spec PyProof.Rows L2
structure Cn where
  st : Int
  en : Int
  bs : Int × Str
  bo : Int × Str
def oneM (M : Mach) (n : Int) : Int := ((nzk (cf M n.toNat).t).length : Nat)
def cntE (c : Cn) (M : Mach) : Evd → Cn
  | .stop n => if shStop M n = true then ⟨c.st + 1, c.en, if c.bs.1 < n then (n, textM M) else c.bs, if c.bo.1 < oneM M n then (oneM M n, textM M) else c.bo⟩ else c
  | .loop a b r => if shLoop M a b r = true then ⟨c.st, c.en + 1, c.bs, c.bo⟩ else c
def cnt0 : Cn := ⟨0, 0, (0, ""), (-1, "")⟩
def cntL (Ms : List Mach) (es : List Evd) : Cn := (Ms.zip es).foldl (fun c p => cntE c p.1 p.2) cnt0
def resV (n : Nat) (c : Cn) : List V := [.int (n : Int), .int c.st, .int c.en, .int ((n : Int) - c.st - c.en), .int c.bs.1, .int (if c.bo.1 > 0 then c.bo.1 else 0), .str c.bs.2, .str c.bo.2]
def spCount (K : PySem.W.Frag) : Sp := fun vs H Q _ => ∃ (a b : Addr) (xs ys : List V) (Ms : List Mach) (es : List Evd) (k : Nat), vs = [.ref a, .ref b] ∧ SqL K H a xs ∧ Paired (MachAt K H) xs Ms ∧ SqL K H b ys ∧ Paired (fun v e => EvAt K H v (some e)) ys es ∧ Ms.length = es.length ∧ (∀ M ∈ Ms, Wf M k) ∧ (∀ M ∈ Ms, ∀ l ∈ M, (rowS l).length ≤ 100) ∧ (∀ e ∈ es, EvOk e) ∧
  ∀ t H', Same H H' → SqT K H' t (resV Ms.length (cntL Ms es)) → Q (.ref t) H'
theorem cntL_take {Ms : List Mach} {es : List Evd} {i : Nat} {M : Mach} {e : Evd} (h1 : Ms[i]? = some M) (h2 : es[i]? = some e) : cntL (Ms.take (i + 1)) (es.take (i + 1)) = cntE (cntL (Ms.take i) (es.take i)) M e := by
  unfold cntL
  rw [take_snoc h1, take_snoc h2, List.zip_append (by
    have a1 := (List.getElem?_eq_some_iff.mp h1).1
    have a2 := (List.getElem?_eq_some_iff.mp h2).1
    rw [List.length_take, List.length_take]
    omega), List.foldl_append]
  rfl
/-- if n > best[0]: best = (n, text(machine)) -/
theorem best_turn {K : PySem.W.Frag} {D : Ends} {σ : L2.St} {H : Hp} {s : Nat} {tn : TE} {n : Int} {b : Int × Str} {t : Addr} {x : V} {M : Mach} {k : Nat} (hn : ∀ (H' : Hp) (Q : VK), Imm H H' → Q (.int n) H' → tn σ H' Q) (hs : σ[s]? = some (some (.ref t))) (hset : σ.set s (some (.ref t)) = σ) (ht : SqT K H t [.int b.1, .str b.2])
    (h6 : σ[6]? = some (some x)) (hm : MachAt K H x M) (wf : Wf M k) (htx : ∀ l ∈ M, (rowS l).length ≤ 100) (go : ∀ t' H', Same H H' → SqT K H' t' [.int (if b.1 < n then (n, textM M) else b).1, .str (if b.1 < n then (n, textM M) else b).2] → D.nx (σ.set s (some (.ref t'))) H') :
    tIfS (tTest (tOp (rI0 fun i j => .bl (decide (j < i))) tn (tOp (rIxT K) (tVar s) (tC (.int 0))))) (tAsg (tTup (tCons tn (tCons (tCall (spText K) [] E0 (tCons (tVar 6) tNil)) tNil))) (gName s)) tNext D σ H := by
  refine hn H _ (Imm.refl H) ?_
  refine ⟨_, hs, t, _, 0, _, rfl, rfl, ht, rfl, _, _, rfl, rfl, _, rfl, ?_⟩
  by_cases z : b.1 < n
  · rw [if_pos z] at go
    rw [decide_eq_true z]
    refine iteT ?_
    refine hn H _ (Imm.refl H) ?_
    refine ⟨_, h6, x, M, k, rfl, hm, wf, htx, fun H1 s1 => ⟨by show 2 ≤ sizeLine; decide, fun p np => ?_⟩⟩
    exact go p _ (s1.trans (sm_new np)) (.of upd_same)
  · rw [if_neg z] at go
    rw [decide_eq_false z]
    refine iteF ?_
    have := go t H (Same.refl H) ht
    rw [hset] at this
    exact this
section
variable {P : Program} {w : World} {K : PySem.W.Frag} {mg : Str → Option Value} {base : Heap}
theorem sc_count : FnScope ["machines", "evidences", "stopped", "endless", "best_steps", "best_ones", "machine", "evidence", "shown", "runner", "ones", "others", "place"] ["machines", "evidences"] (defScope s_count_all) := ⟨rfl, rfl, rfl, by decide +kernel, rfl, by decide +kernel, by decide +kernel⟩
theorem ok_count (T : Txt w K mg) : Has P w K mg base CX0 7 ("count_all", none) ["machines", "evidences"] (spCount K) := by
  obtain ⟨fd, F⟩ := T.fd 36 (d := d_count_all) rfl rfl rfl
  obtain ⟨⟨fd1, G1, b1⟩, kp1⟩ := ok_shows (P := P) (base := base) T
  obtain ⟨⟨fd2, G2, b2⟩, kp2⟩ := ok_r_init (P := P) (base := base) T
  obtain ⟨⟨fd3, G3, b3⟩, kp3⟩ := ok_r_run (P := P) (base := base) T
  obtain ⟨⟨fd4, G4, b4⟩, kp4⟩ := ok_text (P := P) (base := base) T
  refine ⟨⟨fd, F.ok sc_count (fun vs H Q E h => ?_) (fun cdv A outer s H vs Q E hr h => ?_), F.bindsN fun _ _ _ _ _ _ us hl => match us, hl with | [_, _], _ => rfl⟩, F.kp⟩
  · obtain ⟨a, b, xs, ys, Ms, es, k, rfl, _⟩ := h
    rfl
  · obtain ⟨a, b, xs, ys, Ms, es, k, rfl, ha, hp, hb, hq, hlen, wf, htx, hev, q⟩ := h
    have hu := hu_of hr
    have hr2 := hr.mono (by decide : 2 ≤ 6)
    have hr3 := hr.mono (by decide : 3 ≤ 6)
    refine ⟨_, PSs.nox (pss_cons (ps_set (i := 2) sc_count.nd rfl (.inl rfl) pe_int)
      (pss_cons (ps_set (i := 3) sc_count.nd rfl (.inl rfl) pe_int)
      (pss_cons (ps_set (i := 4) sc_count.nd rfl (.inl rfl) (pe_tup (pa_cons pe_int (pa_cons pe_str pa_nil))))
      (pss_cons (ps_set (i := 5) sc_count.nd rfl (.inl rfl) (pe_tup (pa_cons (pe_un un_neg pe_int) (pa_cons pe_str pa_nil))))
      (pss_cons (ps_for PassesOwn.never rfl (RZ.pi_zipA (by rfl) T.z_zip (pa_cons (pv 0) (pa_cons (pv 1) pa_nil))) (pg_tup rfl (pgs_cons (pg_name (i := 6) sc_count.nd rfl (.inl rfl)) (pgs_cons (pg_name (i := 7) sc_count.nd rfl (.inl rfl)) pgs_nil)))
        (pss_cons (ps_set (i := 8) sc_count.nd rfl (.inl rfl) pe_str)
        (pss_cons (ps_if (pt_cmpR op_notN1 (pv 7) pe_non (nomark _)) (pss_one (ps_set (i := 8) sc_count.nd rfl (.inl rfl) (pe_call G1 hr (by rfl) T.g_shows kp1 b1 .nil pass0 (pa_cons (pv 6) (pa_cons (pv 7) pa_nil))))) pss_nil)
        (pss_one (ps_if (pt_cmpR op_eq (pv 8) pe_str (nomark _)) (pss_one (ps_aug (i := 3) sc_count.nd rfl (.inl rfl) pe_int ip_add))
          (pss_one (ps_if (pt_cmpR op_eq (pv 8) pe_str (nomark _))
            (pss_cons (ps_aug (i := 2) sc_count.nd rfl (.inl rfl) pe_int ip_add)
            (pss_cons (ps_set (i := 9) sc_count.nd rfl (.inr rfl) (pe_make T.k_Runner G2 hr2 (by rfl) T.g_Runner b2 .nil pass0 (pa_cons (pv 6) pa_nil)))
            (pss_cons (ps_expr (pe_meth (pv 9) T.c_Runner T.m_Runner_run G3 hr3 b3 .nil pass0 (pa_cons (pe_ix ix_tup (pv 7) pe_int (fun _ _ => rfl)) pa_nil)))
            (pss_cons (ps_set (i := 10) sc_count.nd rfl (.inl rfl) (pe_callB call_len_seq (by rfl) T.z_len (by decide +kernel) (pa_cons (pe_lock (pe_lc (own := [("place", 12)]) (g := gName 12) (tt := tTest (tOp rNe (tDGet (tFld K (tVar 9) "tape") (tVar 12)) (tC (.int 0)))) (by rfl) sc_count.nd (pi_keys (pe_fld (pv 9) rfl)) (blkOk_by (own := [("place", 12)]) (N := ["machines", "evidences", "stopped", "endless", "best_steps", "best_ones", "machine", "evidence", "shown", "runner", "ones", "others", "place"]) (sc := defScope s_count_all) (by decide +kernel))
              (fun _ _ _ _ _ => pg_name (i := 12) sc_count.nd rfl (Or.inl rfl)) (fun _ _ _ _ _ => by exact pts_one (pt_cmpR op_ne (pe_dget hu (pe_fld (pv 9) rfl) (pv 12) (fun _ _ => rfl)) pe_int (nomark _))) (fun _ _ _ _ _ => pv 12))) pa_nil)))
            (pss_cons (ps_if (pt_cmpR op_gt (pe_ix ix_tup (pv 7) pe_int (fun _ _ => rfl)) (pe_ix ix_tup (pv 4) pe_int (fun _ _ => rfl)) (nomark _)) (pss_one (ps_set (i := 4) sc_count.nd rfl (.inl rfl) (pe_tup (pa_cons (pe_ix ix_tup (pv 7) pe_int (fun _ _ => rfl)) (pa_cons (pe_call G4 hr2 (by rfl) T.g_text kp4 b4 .nil pass0 (pa_cons (pv 6) pa_nil)) pa_nil))))) pss_nil)
            (pss_one (ps_if (pt_cmpR op_gt (pv 10) (pe_ix ix_tup (pv 5) pe_int (fun _ _ => rfl)) (nomark _)) (pss_one (ps_set (i := 5) sc_count.nd rfl (.inl rfl) (pe_tup (pa_cons (pv 10) (pa_cons (pe_call G4 hr2 (by rfl) T.g_text kp4 b4 .nil pass0 (pa_cons (pv 6) pa_nil)) pa_nil))))) pss_nil))))))) pss_nil)))))))
      (pss_cons (ps_set (i := 11) sc_count.nd rfl (.inl rfl) (pe_op op_sub (pe_op op_sub (pe_callB call_len_seq (by rfl) T.z_len (by decide +kernel) (pa_cons (pv 0) pa_nil)) (pv 2)) (pv 3)))
      (pss_one (ps_ret (pe_tup (pa_cons (pe_callB call_len_seq (by rfl) T.z_len (by decide +kernel) (pa_cons (pv 0) pa_nil)) (pa_cons (pv 2) (pa_cons (pv 3) (pa_cons (pv 11) (pa_cons (pe_ix ix_tup (pv 4) pe_int (fun _ _ => rfl))
        (pa_cons (pe_callB (call_max2 rfl) (by rfl) T.z_max (by decide +kernel) (pa_cons pe_int (pa_cons (pe_ix ix_tup (pv 5) pe_int (fun _ _ => rfl)) pa_nil))) (pa_cons (pe_ix ix_tup (pv 4) pe_int (fun _ _ => rfl)) (pa_cons (pe_ix ix_tup (pv 5) pe_int (fun _ _ => rfl)) pa_nil))))))))))))))))), ?_⟩
    have hxl : xs.length = ys.length := by
      have h1 := hp.length
      have h2 := hq.length
      omega
    refine ⟨by show 2 ≤ sizeLine; decide, fun t4 n4 => ?_⟩
    refine ⟨_, rfl, by show 2 ≤ sizeLine; decide, fun t5 n5 => ?_⟩
    have s0 := (sm_new (o := .tup [.int 0, .str ""]) n4).trans (sm_new (o := .tup [.int (-1), .str ""]) n5)
    have e4 : SqT K (upd (upd H t4 (.tup [.int 0, .str ""])) t5 (.tup [.int (-1), .str ""])) t4 [.int 0, .str ""] := .of (sm_new (o := .tup [.int (-1), .str ""]) n5 _ _ upd_same)
    have e5 : SqT K (upd (upd H t4 (.tup [.int 0, .str ""])) t5 (.tup [.int (-1), .str ""])) t5 [.int (-1), .str ""] := .of upd_same
    generalize upd (upd H t4 (.tup [.int 0, .str ""])) t5 (.tup [.int (-1), .str ""]) = H0 at s0 e4 e5 ⊢
    refine ⟨_, rfl, _, rfl, a, b, xs, ys, rfl, .inl ⟨s0.seq ha, s0.seq hb, ?_⟩⟩
    refine RZ.for_zipL hxl (fun i σ H' => ∃ (t4 t5 : Addr) (y6 y7 y8 y9 y10 : Option V), σ = [some (.ref a), some (.ref b), some (.int (cntL (Ms.take i) (es.take i)).st), some (.int (cntL (Ms.take i) (es.take i)).en), some (.ref t4), some (.ref t5), y6, y7, y8, y9, y10, none, none] ∧
      SqT K H' t4 [.int (cntL (Ms.take i) (es.take i)).bs.1, .str (cntL (Ms.take i) (es.take i)).bs.2] ∧ SqT K H' t5 [.int (cntL (Ms.take i) (es.take i)).bo.1, .str (cntL (Ms.take i) (es.take i)).bo.2] ∧ Same H H')
      ⟨t4, t5, none, none, none, none, none, rfl, e4, e5, s0⟩ (fun i σ H' ⟨_, _, _, _, _, _, _, _, _, _, s⟩ => ⟨s.seq ha, s.seq hb⟩) ?_ ?_
    · rintro i x y TT σ H1 ex ey ⟨t4, t5, y6, y7, y8, y9, y10, rfl, e4, e5, s1⟩ nT
      obtain ⟨M, eM, hm⟩ := prd_at' hp ex
      obtain ⟨e, ee, hv⟩ := prd_at' hq ey
      have hMm := List.mem_of_getElem? eM
      have hwf := wf M hMm
      have hok := hev e (List.mem_of_getElem? ee)
      have hct := cntL_take eM ee
      generalize hc : cntL (Ms.take i) (es.take i) = c at hct e4 e5 ⊢
      rw [hct]
      have s2 := s1.trans (sm_new (o := .tup [x, y]) nT)
      have e4 := (sm_imm (sm_new (o := .tup [x, y]) nT)).sqt e4
      have e5 := (sm_imm (sm_new (o := .tup [x, y]) nT)).sqt e5
      have eT : SqT K (upd H1 TT (.tup [x, y])) TT [x, y] := .of upd_same
      generalize upd H1 TT (.tup [x, y]) = H2 at s2 e4 e5 eT ⊢
      have hm := hm.imm (sm_imm s2)
      have hv := hv.imm (sm_imm s2)
      refine ⟨TT, _, rfl, eT, rfl, _, _, rfl, _, _, rfl, rfl, ?_⟩
      cases e with
      | loop ea eb er =>
        obtain ⟨t, rfl, ht⟩ := id hv
        refine ⟨_, rfl, rfl, _, rfl, iteT ?_⟩
        refine ⟨_, rfl, _, rfl, x, M, k, .ref t, _, rfl, hm, hwf, hv, hok, fun H3 s3 => ?_⟩
        have s13 := s2.trans s3
        have e4 := (sm_imm s3).sqt e4
        have e5 := (sm_imm s3).sqt e5
        have esh : showsM M (.loop ea eb er) = if shLoop M ea eb er = true then ("runs" : Str) else ("" : Str) := rfl
        have ecn : cntE c M (.loop ea eb er) = if shLoop M ea eb er = true then ⟨c.st, c.en + 1, c.bs, c.bo⟩ else c := rfl
        rw [ecn]
        cases hs : shLoop M ea eb er with
        | true =>
          rw [hs, if_pos rfl] at esh
          rw [esh, if_pos rfl]
          refine ⟨_, rfl, rfl, _, rfl, ?_⟩
          rw [dec_str, show decide (("runs" : Str) = ("runs" : Str)) = true from decide_eq_true rfl]
          refine iteT ⟨_, rfl, _, _, rfl, rfl, ?_⟩
          exact ⟨t4, t5, _, _, _, _, _, rfl, e4, e5, s13⟩
        | false =>
          rw [hs, if_neg Bool.false_ne_true] at esh
          rw [esh, if_neg Bool.false_ne_true]
          refine ⟨_, rfl, rfl, _, rfl, ?_⟩
          rw [dec_str, show decide (("" : Str) = ("runs" : Str)) = false by decide +kernel]
          refine iteF ⟨_, rfl, rfl, _, rfl, ?_⟩
          rw [dec_str, show decide (("" : Str) = ("stops" : Str)) = false by decide +kernel]
          exact iteF ⟨t4, t5, _, _, _, _, _, rfl, e4, e5, s13⟩
      | stop n =>
        obtain ⟨t, rfl, ht⟩ := id hv
        refine ⟨_, rfl, rfl, _, rfl, iteT ?_⟩
        refine ⟨_, rfl, _, rfl, x, M, k, .ref t, _, rfl, hm, hwf, hv, hok, fun H3 s3 => ?_⟩
        have s13 := s2.trans s3
        have e4 := (sm_imm s3).sqt e4
        have e5 := (sm_imm s3).sqt e5
        have hm := hm.imm (sm_imm s3)
        have ht := (sm_imm s3).sqt ht
        have esh : showsM M (.stop n) = if shStop M n = true then ("stops" : Str) else ("" : Str) := rfl
        have ecn : cntE c M (.stop n) = if shStop M n = true then ⟨c.st + 1, c.en, if c.bs.1 < n then (n, textM M) else c.bs, if c.bo.1 < oneM M n then (oneM M n, textM M) else c.bo⟩ else c := rfl
        rw [ecn]
        cases hs : shStop M n with
        | false =>
          rw [hs, if_neg Bool.false_ne_true] at esh
          rw [esh, if_neg Bool.false_ne_true]
          refine ⟨_, rfl, rfl, _, rfl, ?_⟩
          rw [dec_str, show decide (("" : Str) = ("runs" : Str)) = false by decide +kernel]
          refine iteF ⟨_, rfl, rfl, _, rfl, ?_⟩
          rw [dec_str, show decide (("" : Str) = ("stops" : Str)) = false by decide +kernel]
          exact iteF ⟨t4, t5, _, _, _, _, _, rfl, e4, e5, s13⟩
        | true =>
          rw [hs, if_pos rfl] at esh
          rw [esh, if_pos rfl]
          refine ⟨_, rfl, rfl, _, rfl, ?_⟩
          rw [dec_str, show decide (("stops" : Str) = ("runs" : Str)) = false by decide +kernel]
          refine iteF ⟨_, rfl, rfl, _, rfl, ?_⟩
          rw [dec_str, show decide (("stops" : Str) = ("stops" : Str)) = true from decide_eq_true rfl]
          refine iteT ⟨_, rfl, _, _, rfl, rfl, ?_⟩
          obtain ⟨n0, n1⟩ := hok
          -- runner = Runner(machine)
          refine ⟨_, rfl, fun p dx np ndx nepd => ?_⟩
          have sA : Same H3 (upd (upd H3 dx (.own p)) p (.ins (He.ga K "Runner") dx [])) := (sm_new ndx).trans (sm_new ((upd_ne nepd.symm).trans np))
          refine ⟨p, dx, x, M, rfl, upd_same, hm.imm (sm_imm sA), fun d H4 nd r4 f4 => ⟨rfl, ?_⟩⟩
          have s4 : Same H3 H4 := (Fr.drop (S := []) (sm_fr sA) f4 np).same
          have nd0 := sA.free nd
          refine ⟨_, rfl, p, dx, _, rfl, r4.o, m_r_run, _, rfl, t, _, 1, .int n, rfl, rfl, (sm_imm s4).sqt ht, rfl, p, dx, d, x, M, k, ini, n, rfl, r4, Ok.ini hwf, n0, n1, by show 0 ≤ 10000; decide, fun H5 r5 f5 => ?_⟩
          have s5 : Same H3 H5 := sm_drop s4 f5 (by simp [np, nd0])
          have hcl : (cf M n.toNat).t.length ≤ 10000 := Nat.le_trans (cf_len M n.toNat) (by omega)
          have npd := r5.ne
          -- ones
          refine ⟨d, _, r5.d, trivial, fun od => ⟨_, rfl, p, _, dx, _, _, rfl, (upd_ne npd).trans r5.o, T.c_Runner, T.n_Runner_tape, l_r_tape, d, od, rfl, .inl ⟨_, upd_same, fun D nD => ?_⟩⟩⟩
          have nDd : D ≠ d := fun z => by
            rw [z, upd_same] at nD
            cases nD
          refine lc_pure walk_keys (fun i acc _ => acc = (((cf M n.toNat).t.take i).filter fun p => !decide (lk (cf M n.toNat).t p.1 = 0)).map fun p => V.int p.1) nD (fun H' s => s _ _ upd_same) (fun _ _ _ _ _ _ _ h => h) rfl (by rw [kv_len]; exact Nat.le_trans hcl (by decide)) (fun i acc H' e => ?_) ?_ ?_
          · rw [e, List.length_map]
            exact Nat.le_trans (List.length_filter_le _ _) (by rw [List.length_take]; exact Nat.min_le_left _ _)
          · rintro i x H' H'' acc hi s1 _ ea ⟨rfl, k, v, ek, rfl⟩ C N hC hN
            obtain ⟨pp, ep, rfl, rfl⟩ := kv_at ek
            have em := List.mem_of_getElem? ep
            refine ⟨rfl, _, rfl, p, _, dx, _, _, rfl, s1 _ _ ((upd_ne npd).trans r5.o), T.c_Runner, T.n_Runner_tape, l_r_tape, _, rfl, d, .int (lk (cf M n.toNat).t pp.1), rfl, ?_, rfl, _, rfl, ?_⟩
            · refine .inl ⟨_, Sum.inl pp.1, .inr ⟨od, s1 _ _ upd_same⟩, rfl, ?_⟩
              rw [valV_kv, lkO_some em]
              rfl
            · rw [dec_int]
              cases hz : !decide (lk (cf M n.toNat).t pp.1 = 0) with
              | true =>
                refine iteT ⟨_, rfl, hC _ _ (Same.refl _) ?_⟩
                rw [ea, take_snoc ep, List.filter_append, List.map_append, List.filter_cons_of_pos (by exact hz)]
                rfl
              | false =>
                refine iteF (hN _ (Same.refl _) ?_)
                rw [ea, take_snoc ep, List.filter_append, List.map_append, List.filter_cons_of_neg (by rw [hz]; exact Bool.false_ne_true)]
                exact (List.append_nil _).symm
          · intro H6 acc s6 eD ea
            rw [kv_len, List.take_length] at ea
            have ela : (acc.length : Int) = oneM M n := by
              rw [ea, List.length_map]
              unfold oneM nzk
              rw [List.length_map]
            have s7 : Same H5 (upd H6 d (.dK (kv (cf M n.toNat).t))) := fun b o e => by
              by_cases z : b = d
              · rw [z, r5.d] at e
                rw [z, upd_same]
                exact e
              · rw [upd_ne z]
                exact s6 _ _ ((upd_ne z).trans e)
            refine ⟨s6 _ _ upd_same, D, acc, rfl, .inl (.of ((upd_ne nDd).trans eD)), ?_⟩
            rw [ela]
            have s37 := s5.trans s7
            have e4 := (sm_imm s37).sqt e4
            have e5 := (sm_imm s37).sqt e5
            have hm := hm.imm (sm_imm s37)
            have ht := (sm_imm s37).sqt ht
            have s17 := s13.trans s37
            refine best_turn (σ := [some (.ref a), some (.ref b), some (.int (c.st + 1)), some (.int c.en), some (.ref t4), some (.ref t5), some x, some (.ref t), some (.str "stops"), some (.ref p), some (.int (oneM M n)), none, none]) (tn := tOp (rIxT K) (tVar 7) (tC (.int 1))) (s := 4) (n := n) (b := c.bs) (fun H' Q i hq => ⟨_, rfl, t, _, 1, .int n, rfl, rfl, i.sqt ht, rfl, hq⟩) rfl rfl e4 rfl hm hwf (htx M hMm) fun t4' H8 s8 e4' => ?_
            refine best_turn (σ := [some (.ref a), some (.ref b), some (.int (c.st + 1)), some (.int c.en), some (.ref t4'), some (.ref t5), some x, some (.ref t), some (.str "stops"), some (.ref p), some (.int (oneM M n)), none, none]) (tn := tVar 10) (s := 5) (n := oneM M n) (b := c.bo) (fun H' Q i hq => ⟨_, rfl, hq⟩) rfl rfl ((sm_imm s8).sqt e5) rfl (hm.imm (sm_imm s8)) hwf (htx M hMm) fun t5' H9 s9 e5' => ?_
            exact ⟨t4', t5', _, _, _, _, _, rfl, (sm_imm s9).sqt e4', e5', s17.trans (s8.trans s9)⟩
    · rintro σ H1 ⟨t4, t5, y6, y7, y8, y9, y10, rfl, e4, e5, s1⟩
      have l1 : xs.length = Ms.length := hp.length
      rw [l1, List.take_length, hlen, List.take_length] at e4 e5 ⊢
      refine ⟨_, rfl, a, xs, rfl, .inl (s1.seq ha), _, rfl, _, _, rfl, rfl, _, rfl, _, _, rfl, rfl, ?_⟩
      refine ⟨_, rfl, a, xs, rfl, .inl (s1.seq ha), _, rfl, _, rfl, _, rfl, _, rfl, t4, _, 0, _, rfl, rfl, e4, rfl, _, rfl, t5, _, 0, _, rfl, rfl, e5, rfl, _, _, rfl, _, rfl, t4, _, 1, _, rfl, rfl, e4, rfl, _, rfl, t5, _, 1, _, rfl, rfl, e5, rfl, by show 8 ≤ sizeLine; decide, fun p np => ?_⟩
      refine q p _ (s1.trans (sm_new np)) (.of ?_)
      rw [upd_same, l1]
      rfl
end
end K79

namespace K79
open PySem PySem.Spec PyProof.Rows L2
/-- what is known of a tree's machines -/
structure LOk (L : List Mach) (es : List Evd) (k : Nat) : Prop where
  dec : L.map decM = es.map some
  wf : ∀ M ∈ L, Wf M k
  tx : ∀ M ∈ L, ∀ l ∈ M, (rowS l).length ≤ 100
  ev : ∀ e ∈ es, EvOk e
theorem LOk.at {L : List Mach} {es : List Evd} {k i : Nat} {M : Mach} (h : LOk L es k) (e : L[i]? = some M) : ∃ ev, es[i]? = some ev ∧ decM M = some ev := by
  have h1 : (L.map decM)[i]? = some (decM M) := by
    rw [List.getElem?_map, e]
    rfl
  rw [h.dec, List.getElem?_map] at h1
  obtain ⟨ev, h2, h3⟩ := Option.map_eq_some_iff.mp h1
  exact ⟨ev, h2, h3.symm⟩
theorem LOk.len {L : List Mach} {es : List Evd} {k : Nat} (h : LOk L es k) : L.length = es.length := by
  have := congrArg List.length h.dec
  rw [List.length_map, List.length_map] at this
  exact this
def spCensus (K : PySem.W.Frag) : Sp := fun vs H Q E => ∃ (n k cnt most F : Nat) (L : List Mach) (es : List Evd), vs = [.int (n : Int), .int (k : Int), .int (cnt : Int), .int (most : Int)] ∧ Wf (rootM n k) k ∧ n ≤ 4 ∧ k ≤ 4 ∧ cnt ≤ 1000 ∧ trD cnt F [rootM n k] = some L ∧ L.length ≤ 1000 ∧ LOk L es k ∧
  (L.length ≤ most → ∀ t H', Same H H' → SqT K H' t (resV L.length (cntL L es)) → Q (.ref t) H') ∧ (most < L.length → ∀ H', Same H H' → E (.ref (He.ga K "TooLarge")) none H')
section
variable {P : Program} {w : World} {K : PySem.W.Frag} {mg : Str → Option Value} {base : Heap}
/-- [decide(machine) for machine in machines] -/
theorem decides {K : PySem.W.Frag} {σ : L2.St} {i j : Nat} {H : Hp} {a : Addr} {xs : List V} {L : List Mach} {es : List Evd} {k : Nat} (hw : ∀ v, wipe ((wipe σ [j]).set j v) [j] = wipe σ [j]) (hg : ∀ v, ((wipe σ [j]).set j (some v))[j]? = some (some v)) (hi : σ[i]? = some (some (.ref a))) (ha : H a = some (.lst xs)) (hp : Paired (MachAt K H) xs L) (ok : LOk L es k) (hl : L.length ≤ 1000) {Q : VK}
    (q : ∀ D ys H', Same H H' → H' D = some (.lst ys) → Paired (fun v e => EvAt K H' v (some e)) ys es → Q (.ref D) H') :
    tLc (iList K (tVar i)) (gName j) tYes (tCall (spDecide K) [] E0 (tCons (tVar j) tNil)) [j] σ H Q := by
  refine ⟨_, hi, a, rfl, ⟨_, .of ha⟩, fun D nD => ?_⟩
  refine lc_pure (walk_list (xs := xs)) (fun i acc H' => Paired (fun v e => EvAt K H' v (some e)) acc (es.take i)) nD (fun H' s => .of (s _ _ ha)) (fun i acc H4 H5 l e f z => ?_) .nil (by rw [hp.length]; omega) (fun i acc H' z => ?_) ?_ ?_
  · have i : Imm H4 H5 := f.imm fun p hp => by
      rw [List.mem_singleton.mp hp, e]
      trivial
    exact z.mono fun _ _ => EvAt.imm i
  · rw [z.length, List.length_take]
    omega
  · rintro i x H' H'' acc hi s1 eD z ⟨rfl, ex⟩ C N hC hN
    obtain ⟨M, eM, hm⟩ := prd_at' hp ex
    obtain ⟨ev, ee, ed⟩ := ok.at eM
    refine ⟨hw _, yes_ ?_⟩
    refine ⟨x, hg x, x, M, k, ev, rfl, hm.imm (sm_imm s1), ok.wf M (List.mem_of_getElem? eM), ed, fun v H3 s3 hv => ?_⟩
    · refine hC _ _ s3 ?_
      rw [take_snoc ee]
      exact (z.mono fun _ _ => EvAt.imm (sm_imm s3)).snoc hv
  · intro H' acc s1 eD z
    rw [hp.length, ok.len, List.take_length] at z
    exact q D acc H' s1 eD z
theorem sc_census : FnScope ["states", "symbols", "count", "most", "machines", "machine"] ["states", "symbols", "count", "most"] (defScope s_tree_census) := ⟨rfl, rfl, rfl, by decide +kernel, rfl, by decide +kernel, by decide +kernel⟩
theorem ok_census (T : Txt w K mg) : Has P w K mg base (L2.CX P w) 8 ("tree_census", none) ["states", "symbols", "count", "most"] (spCensus K) := by
  obtain ⟨fd, F⟩ := T.fd 37 (d := d_tree_census) rfl rfl rfl
  obtain ⟨⟨fd1, G1, b1⟩, kp1⟩ := ok_tree (P := P) (base := base) T
  obtain ⟨⟨fd2, G2, b2⟩, kp2⟩ := ok_count (P := P) (base := base) T
  obtain ⟨⟨fd3, G3, b3⟩, kp3⟩ := ok_decide (P := P) (base := base) T
  refine ⟨⟨fd, F.ok sc_census (fun vs H Q E h => ?_) (fun cdv A outer s H vs Q E hr h => ?_), F.bindsN fun _ _ _ _ _ _ us hl => match us, hl with | [_, _, _, _], _ => rfl⟩, F.kp⟩
  · obtain ⟨n, k, cnt, most, F', L, es, rfl, _⟩ := h
    rfl
  · obtain ⟨n, k, cnt, most, F', L, es, rfl, wf, hn, hk, hcnt, htr, hL, ok, q, qe⟩ := h
    have hr5 := hr.mono (by decide : 5 ≤ 7)
    refine ⟨_, (pss_cons (ps_set (i := 4) sc_census.nd rfl (.inl rfl) (pe_call G1 hr5 (by rfl) T.g_tree kp1 b1 .nil (passes_call (takes_of rfl rfl rfl rfl) (fun _ _ _ _ h => h)) (pa_cons (pv 0) (pa_cons (pv 1) (pa_cons (pv 2) (pa_cons (pv 3) pa_nil))))))
      (pss_one (ps_ret (pe_call G2 hr (by rfl) T.g_count_all kp2 b2 .nil pass0 (pa_cons (pv 4) (pa_cons (pe_lc (own := [("machine", 5)]) (g := gName 5) (te := tCall (spDecide K) [] E0 (tCons (tVar 5) tNil)) (by rfl) sc_census.nd (pi_list (pv 4)) (blkOk_by (by kernel_rfl)) (fun _ _ _ _ _ => pg_name (i := 5) sc_census.nd rfl (Or.inl rfl)) (fun _ _ _ _ _ => pts_nil)
        (fun _ _ _ _ _ => by exact pe_call G3 hr (by rfl) T.g_decide kp3 b3 .nil pass0 (pa_cons (pv 5) pa_nil))) pa_nil)))))), ?_⟩
    refine ⟨_, rfl, _, rfl, _, rfl, _, rfl, n, k, cnt, most, F', L, rfl, wf, hn, hk, hcnt, htr, hL, fun hm v H1 s1 ⟨a, xs, ev, ha, hp⟩ => ?_, fun hm H' s' => qe hm H' s'⟩
    subst ev
    refine ⟨_, rfl, ?_⟩
    refine decides (fun _ => rfl) (fun _ => rfl) rfl ha hp ok hL fun D ys H2 s2 hD hq => ?_
    exact ⟨a, D, xs, ys, L, es, k, rfl, .of (s2 _ _ ha), hp.mono fun _ _ => MachAt.imm (sm_imm s2), .of hD, hq, ok.len, ok.wf, ok.tx, ok.ev, fun t H3 s3 ht => q hm t H3 (s1.trans (s2.trans s3)) ht⟩
end
end K79

namespace K79
open PySem PySem.Spec PyProof.Rows L2
/-! ### the law's own defs -/
structure StAt (H : Hp) (p q : Addr) (ns : List Int) : Prop where
  sp : ∃ x i mx : Int, H p = some (.lst [.ref q, .int x, .int i, .int mx]) ∧ 0 ≤ i
  sq : H q = some (.lst (ns.map V.int))
  ne : p ≠ q
def spStream (K : PySem.W.Frag) : Sp := fun vs H Q _ => ∃ (a : Addr) (ns : List Int), vs = [.ref a] ∧ SqL K H a (ns.map V.int) ∧ ns.length ≤ 1000 ∧ ∀ p q H', H p = none → Same H H' → StAt H' p q ns → Q (.ref p) H'
def spDraw (K : PySem.W.Frag) : Sp := fun vs H Q _ => ∃ (p q : Addr) (ns : List Int) (m : Nat), vs = [.ref p, .int (m : Int)] ∧ StAt H p q ns ∧ 1 ≤ m ∧ m ≤ 1000 ∧ ∀ (v : Nat) H', v < m → StAt H' p q ns → Fr [p] H H' → Q (.int (v : Int)) H'
def outV (M : Mach) (n : Nat) : V := if (cf M n).s = -1 then .int (cf M n).n else .non
def RunAt (K : PySem.W.Frag) (H : Hp) (v : V) (M : Mach) (n : Nat) : Prop := ∃ t d, v = .ref t ∧ SqT K H t [outV M n, .ref d] ∧ H d = some (.dK (kv (cf M n).t))
def spLRun (K : PySem.W.Frag) : Sp := fun vs H Q _ => ∃ (m : V) (M : Mach) (k n : Nat), vs = [m, .int (n : Int)] ∧ MachAt K H m M ∧ Wf M k ∧ n ≤ 1000 ∧ ∀ v H', Same H H' → RunAt K H' v M n → Q v H'
def spOnes (K : PySem.W.Frag) : Sp := fun vs H Q _ => ∃ (d : Addr) (t : Tp), vs = [.ref d] ∧ H d = some (.dK (kv t)) ∧ t.length ≤ 10000 ∧ ∀ H', Same H H' → Q (.int ((nzk t).length : Nat)) H'
section
variable {P : Program} {w : World} {K : PySem.W.Frag} {mg : Str → Option Value} {base : Heap}
theorem sc_stream : FnScope ["_law_script", "_law_mixed", "_law_cell"] ["_law_script"] (defScope s_law_stream) := ⟨rfl, rfl, rfl, by decide +kernel, rfl, by decide +kernel, by decide +kernel⟩
theorem ok_stream (T : Txt w K mg) : Has P w K mg base CX0 1 ("_law_stream", none) ["_law_script"] (spStream K) := by
  obtain ⟨fd, F⟩ := T.fd 38 (d := d_law_stream) rfl rfl rfl
  refine ⟨⟨fd, F.ok sc_stream (fun vs H Q E h => ?_) (fun cdv A outer s H vs Q E hr h => ?_), F.bindsN fun _ _ _ _ _ _ us hl => match us, hl with | [_], _ => rfl⟩, F.kp⟩
  · obtain ⟨a, ns, rfl, _⟩ := h
    rfl
  · obtain ⟨a, ns, rfl, ha, hn, q⟩ := h
    refine ⟨_, PSs.nox (pss_cons (ps_set (i := 1) sc_stream.nd rfl (.inl rfl) pe_int)
      (pss_cons (ps_for PassesOwn.never rfl (pi_list (pv 0)) (pg_name (i := 2) sc_stream.nd rfl (.inl rfl))
        (pss_one (ps_set (i := 1) sc_stream.nd rfl (.inl rfl) (pe_op op_mod (pe_callTy call_int1 (by rfl) T.z_int (by decide +kernel) (pa_cons (pe_op op_add (pe_op op_add (pe_op op_mul (pv 1) pe_int) (pe_op op_mod (pe_callTy call_int1 (by rfl) T.z_int (by decide +kernel) (pa_cons (pv 2) pa_nil)) pe_int)) pe_int) pa_nil)) pe_int))))
      (pss_one (ps_ret (pe_lst (pa_cons (pe_callTy call_list_of (by rfl) T.z_list (by decide +kernel) (pa_cons (pv 0) pa_nil)) (pa_cons pe_int (pa_cons pe_int (pa_cons (pv 1) pa_nil))))))))), ?_⟩
    refine ⟨_, rfl, a, rfl, ⟨_, ha⟩, ?_⟩
    refine for_list (xs := ns.map V.int) (fun i σ H' => ∃ (mx : Int) (y2 : Option V), σ = [some (.ref a), some (.int mx), y2] ∧ H' = H) ⟨17, none, rfl, rfl⟩ (fun i σ H' _ ⟨_, _, _, e⟩ => by rw [e]; exact ha) ?_ ?_
    · rintro i x σ H' ex ⟨mx, y2, rfl, rfl⟩
      rw [List.getElem?_map] at ex
      obtain ⟨z, ez, rfl⟩ := Option.map_eq_some_iff.mp ex
      refine ⟨_, rfl, _, _, rfl, rfl, .inr (by decide), ?_⟩
      refine ⟨_, rfl, .inl ⟨_, rfl, _, _, rfl, rfl, by show (0 : Int) < 65521; decide, _, _, rfl, rfl, _, _, rfl, rfl, .inl ⟨_, rfl, _, _, rfl, rfl, by show (0 : Int) < 2147483647; decide, ?_⟩⟩⟩
      exact ⟨_, _, rfl, rfl⟩
    · rintro σ H' ⟨mx, y2, rfl, rfl⟩
      refine ⟨_, rfl, a, _, rfl, .inl ha, fun l nl => ?_⟩
      refine ⟨_, rfl, by show 4 ≤ sizeLine; decide, fun p np => ?_⟩
      have hlp : l ≠ p := ne_of_none (show (upd H' l (.lst (ns.map V.int))) l = some _ from upd_same) np
      refine q p l _ ((sm_new nl).free np) ((sm_new nl).trans (sm_new np)) ⟨⟨_, _, _, upd_same, Int.le_refl 0⟩, (upd_ne hlp).trans upd_same, hlp.symm⟩
theorem sc_draw : FnScope ["_law_stream_here", "_law_many", "_law_value"] ["_law_stream_here", "_law_many"] (defScope s_law_draw) := ⟨rfl, rfl, rfl, by decide +kernel, rfl, by decide +kernel, by decide +kernel⟩
theorem emod_nat (x : Int) {m : Nat} (h : 1 ≤ m) : ∃ v : Nat, x % (m : Int) = (v : Int) ∧ v < m := by
  have h1 := Int.emod_nonneg x (show (m : Int) ≠ 0 by omega)
  have h2 := Int.emod_lt_of_pos x (show (0 : Int) < (m : Int) by omega)
  exact ⟨(x % (m : Int)).toNat, (Int.toNat_of_nonneg h1).symm, by omega⟩
theorem ok_draw (T : Txt w K mg) : Has P w K mg base CX0 1 ("_law_draw", none) ["_law_stream_here", "_law_many"] (spDraw K) := by
  obtain ⟨fd, F⟩ := T.fd 39 (d := d_law_draw) rfl rfl rfl
  refine ⟨⟨fd, F.ok sc_draw (fun vs H Q E h => ?_) (fun cdv A outer s H vs Q E hr h => ?_), F.bindsN fun _ _ _ _ _ _ us hl => match us, hl with | [_, _], _ => rfl⟩, F.kp⟩
  · obtain ⟨p, q, ns, m, rfl, _⟩ := h
    rfl
  · obtain ⟨p, q0, ns, m, rfl, st, hm1, hm2, q⟩ := h
    refine ⟨_, PSs.nox (pss_cons (ps_if (PW.pt (pw_and (pt_cmpR op_eq (pe_ix ix_list (pv 0) pe_int (fun _ _ => rfl)) pe_int (nomark _)) (pw_and1 (pt_cmpR op_lt (pe_ix ix_list (pv 0) pe_int (fun _ _ => rfl)) (pe_callB call_len_seq (by rfl) T.z_len (by decide +kernel) (pa_cons (pe_ix ix_list (pv 0) pe_int (fun _ _ => rfl)) pa_nil)) (nomark _)))))
        (pss_cons (ps_asg (pe_callB call_abs (by rfl) T.z_abs (by decide +kernel) (pa_cons (pe_callTy call_int1 (by rfl) T.z_int (by decide +kernel) (pa_cons (pe_ix ix_list (pe_ix ix_list (pv 0) pe_int (fun _ _ => rfl)) (pe_ix ix_list (pv 0) pe_int (fun _ _ => rfl)) (fun _ _ => rfl)) pa_nil)) pa_nil)) (pg_sub (pv 0) pe_int set_list))
        (pss_one (ps_asg (pe_op op_add (pe_ix ix_list (pv 0) pe_int (fun _ _ => rfl)) pe_int) (pg_sub (pv 0) pe_int set_list)))) pss_nil)
      (pss_cons (ps_if (pt_cmpR op_eq (pe_ix ix_list (pv 0) pe_int (fun _ _ => rfl)) pe_int (nomark _))
        (pss_cons (ps_asg (pe_op op_mod (pe_callTy call_int1 (by rfl) T.z_int (by decide +kernel) (pa_cons (pe_op op_add (pe_op op_mul (pe_ix ix_list (pv 0) pe_int (fun _ _ => rfl)) pe_int) pe_int) pa_nil)) pe_int) (pg_sub (pv 0) pe_int set_list))
        (pss_one (ps_ret (pe_op op_mod (pe_callTy call_int1 (by rfl) T.z_int (by decide +kernel) (pa_cons (pe_op op_fdivN (pe_ix ix_list (pv 0) pe_int (fun _ _ => rfl)) pe_int) pa_nil)) (pv 1))))) pss_nil)
      (pss_cons (ps_set (i := 2) sc_draw.nd rfl (.inl rfl) (pe_op op_mod (pe_callTy call_int1 (by rfl) T.z_int (by decide +kernel) (pa_cons (pe_ix ix_list (pv 0) pe_int (fun _ _ => rfl)) pa_nil)) (pv 1)))
      (pss_cons (ps_asg (pe_op op_fdivN (pe_ix ix_list (pv 0) pe_int (fun _ _ => rfl)) (pv 1)) (pg_sub (pv 0) pe_int set_list))
      (pss_one (ps_ret (pv 2))))))), ?_⟩
    obtain ⟨⟨x, i, mx, hp, hi⟩, hq, npq⟩ := st
    have fin : ∀ (D : Ends) (x i mx : Int) (H1 : Hp), D.rt = Q → H1 p = some (.lst [.ref q0, .int x, .int i, .int mx]) → 0 ≤ i → Fr [p] H H1 →
        tSeq (tIfS (tTest (tOp rEq (tOp (rIxL K) (tVar 0) (tC (.int 1))) (tC (.int 0))))
          (tSeq (tAsg (tOp (rI (fun _ j => 0 < j) fun i j => .int (i % j)) (tCB (fun xs H Q => (∃ i, xs = [V.int i] ∧ Q (.int i) H) ∨ ∃ k, xs = [V.bl k] ∧ Q (.int (if k then 1 else 0)) H) (tCons (tOp (rI0 fun i j => .int (i + j)) (tOp (rI CMul fun i j => .int (i * j)) (tOp (rIxL K) (tVar 0) (tC (.int 3))) (tC (.int 48271))) (tC (.int 11))) tNil)) (tC (.int 2147483647))) (gSub (tVar 0) (tC (.int 3)) rSetL))
            (tRet (tOp (rI (fun _ j => 0 < j) fun i j => .int (i % j)) (tCB (fun xs H Q => (∃ i, xs = [V.int i] ∧ Q (.int i) H) ∨ ∃ k, xs = [V.bl k] ∧ Q (.int (if k then 1 else 0)) H) (tCons (tOp (rI CDivN fun i j => .int (i.fdiv j)) (tOp (rIxL K) (tVar 0) (tC (.int 3))) (tC (.int 97))) tNil)) (tVar 1)))) tNext)
        (tSeq (tAsg (tOp (rI (fun _ j => 0 < j) fun i j => .int (i % j)) (tCB (fun xs H Q => (∃ i, xs = [V.int i] ∧ Q (.int i) H) ∨ ∃ k, xs = [V.bl k] ∧ Q (.int (if k then 1 else 0)) H) (tCons (tOp (rIxL K) (tVar 0) (tC (.int 1))) tNil)) (tVar 1)) (gName 2))
        (tSeq (tAsg (tOp (rI CDivN fun i j => .int (i.fdiv j)) (tOp (rIxL K) (tVar 0) (tC (.int 1))) (tVar 1)) (gSub (tVar 0) (tC (.int 1)) rSetL)) (tRet (tVar 2)))) D [some (.ref p), some (.int (m : Int)), none] H1 := fun D x i mx H1 eD hp1 hi1 f1 => by
      have hq1 := f1 _ _ hq (by simp [npq.symm])
      refine ⟨_, rfl, p, _, 1, _, rfl, rfl, .of hp1, rfl, rfl, _, rfl, ?_⟩
      refine ite2 (fun _ => ?_) (fun _ => ?_)
      · refine ⟨_, rfl, p, _, 3, _, rfl, rfl, .of hp1, rfl, _, _, rfl, rfl, .inr (by decide), _, _, rfl, rfl, .inl ⟨_, rfl, _, _, rfl, rfl, by show (0 : Int) < 2147483647; decide, ?_⟩⟩
        refine ⟨_, rfl, p, _, 3, 3, rfl, rfl, hp1, rfl, ?_⟩
        have hp2 : (upd H1 p (.lst ([V.ref q0, .int x, .int i, .int mx].set 3 (.int ((mx * 48271 + 11) % 2147483647))))) p = some (.lst [.ref q0, .int x, .int i, .int ((mx * 48271 + 11) % 2147483647)]) := upd_same
        refine ⟨_, rfl, p, _, 3, _, rfl, rfl, .of hp2, rfl, _, _, rfl, rfl, ⟨by decide, by decide⟩, .inl ⟨_, rfl, _, rfl, _, _, rfl, rfl, by omega, ?_⟩⟩
        obtain ⟨v, ev, hv⟩ := emod_nat (((mx * 48271 + 11) % 2147483647).fdiv 97) hm1
        show D.rt (.int (((mx * 48271 + 11) % 2147483647).fdiv 97 % (m : Int))) _
        rw [ev, eD]
        exact q v _ hv ⟨⟨_, _, _, hp2, hi1⟩, (upd_ne npq.symm).trans hq1, npq⟩ (f1.trans (Fr.set (by simp)))
      · refine ⟨_, rfl, p, _, 1, _, rfl, rfl, .of hp1, rfl, .inl ⟨_, rfl, _, rfl, _, _, rfl, rfl, by omega, ?_⟩⟩
        obtain ⟨v, ev, hv⟩ := emod_nat x hm1
        show gName 2 (.int (x % (m : Int))) _ _ _
        rw [ev]
        refine ⟨_, rfl, p, _, 1, _, rfl, rfl, .of hp1, rfl, _, rfl, _, _, rfl, rfl, ⟨by omega, by omega⟩, ?_⟩
        refine ⟨_, rfl, p, _, 1, 1, rfl, rfl, hp1, rfl, _, rfl, ?_⟩
        rw [eD]
        exact q v _ hv ⟨⟨_, _, _, upd_same, hi1⟩, (upd_ne npq.symm).trans hq1, npq⟩ (f1.trans (Fr.set (by simp)))
    refine ⟨_, rfl, p, _, 1, _, rfl, rfl, .of hp, rfl, rfl, _, rfl, ?_⟩
    refine ite2 (fun _ => ?_) (fun _ => iteF (fin _ x i mx H rfl hp hi (Fr.refl H)))
    refine ⟨_, rfl, p, _, 2, _, rfl, rfl, .of hp, rfl, _, rfl, p, _, 0, _, rfl, rfl, .of hp, rfl, q0, _, rfl, .inl (.of hq), _, _, rfl, rfl, _, rfl, ?_⟩
    rw [List.length_map]
    by_cases hlt : i < (ns.length : Int)
    · rw [decide_eq_true hlt]
      refine iteT ?_
      have hil : i.toNat < ns.length := by omega
      refine ⟨_, rfl, p, _, 0, _, rfl, rfl, .of hp, rfl, _, rfl, p, _, 2, _, rfl, rfl, .of hp, rfl, q0, _, i, .int ns[i.toNat], rfl, rfl, .of hq, atI_int hi (by rw [List.getElem?_map, List.getElem?_eq_getElem hil]; rfl), .inl ⟨_, rfl, _, rfl, ?_⟩⟩
      refine ⟨_, rfl, p, _, 1, 1, rfl, rfl, hp, rfl, ?_⟩
      generalize (if ns[i.toNat] < 0 then -ns[i.toNat] else ns[i.toNat]) = x2
      have hp2 : (upd H p (.lst ([V.ref q0, .int x, .int i, .int mx].set 1 (.int x2)))) p = some (.lst [.ref q0, .int x2, .int i, .int mx]) := upd_same
      refine ⟨_, rfl, p, _, 2, _, rfl, rfl, .of hp2, rfl, _, _, rfl, rfl, ?_⟩
      refine ⟨_, rfl, p, _, 2, 2, rfl, rfl, hp2, rfl, ?_⟩
      exact fin _ x2 (i + 1) mx _ rfl upd_same (by omega) ((Fr.set (by simp)).trans (Fr.set (by simp)))
    · rw [decide_eq_false hlt]
      exact iteF (fin _ x i mx H rfl hp hi (Fr.refl H))
theorem sc_lrun : FnScope ["_law_machine_here", "_law_count", "_law_tape", "_law_place", "_law_state", "_law_k", "_law_symbol", "_law_rule"] ["_law_machine_here", "_law_count"] (defScope s_law_run) := ⟨rfl, rfl, rfl, by decide +kernel, rfl, by decide +kernel, by decide +kernel⟩
theorem ok_lrun (T : Txt w K mg) : Has P w K mg base CX0 1 ("_law_run", none) ["_law_machine_here", "_law_count"] (spLRun K) := by
  obtain ⟨fd, F⟩ := T.fd 40 (d := d_law_run) rfl rfl rfl
  refine ⟨⟨fd, F.ok sc_lrun (fun vs H Q E h => ?_) (fun cdv A outer s H vs Q E hr h => ?_), F.bindsN fun _ _ _ _ _ _ us hl => match us, hl with | [_, _], _ => rfl⟩, F.kp⟩
  · obtain ⟨m, M, k, n, rfl, _⟩ := h
    rfl
  · obtain ⟨m, M, k, n, rfl, hm, wf, hn, q⟩ := h
    have hu := hu_of hr
    refine ⟨_, PSs.nox (pss_cons (ps_set (i := 2) sc_lrun.nd rfl (.inl rfl) pe_dnewK)
      (pss_cons (ps_set (i := 3) sc_lrun.nd rfl (.inl rfl) pe_int)
      (pss_cons (ps_set (i := 4) sc_lrun.nd rfl (.inl rfl) pe_int)
      (pss_cons (ps_for PassesOwn.never rfl (pi_range1 rfl T.z_range (pa_cons (pv 1) pa_nil)) (pg_name (i := 5) sc_lrun.nd rfl (.inl rfl))
        (pss_cons (ps_if (pt_cmpR op_lt (pv 4) pe_int (nomark _)) (pss_one (ps_ret (pe_tup (pa_cons (pv 5) (pa_cons (pv 2) pa_nil))))) pss_nil)
        (pss_cons (ps_set (i := 6) sc_lrun.nd rfl (.inl rfl) (pe_dget2 hu (pv 2) (pv 3) pe_int ⟨rfl, rfl, rfl, rfl⟩))
        (pss_cons (ps_set (i := 7) sc_lrun.nd rfl (.inl rfl) (pe_ix ix_tup (pe_ix ix_tup (pv 0) (pv 4) (fun _ _ => rfl)) (pv 6) (fun _ _ => rfl)))
        (pss_cons (ps_dput hu (pv 2) (pv 3) (pe_ix ix_tup (pv 7) pe_int (fun _ _ => rfl)) rfl)
        (pss_cons (ps_set (i := 3) sc_lrun.nd rfl (.inl rfl) (pe_op op_add (pv 3) (pe_ix ix_tup (pv 7) pe_int (fun _ _ => rfl))))
        (pss_one (ps_set (i := 4) sc_lrun.nd rfl (.inl rfl) (pe_ix ix_tup (pv 7) pe_int (fun _ _ => rfl))))))))))
      (pss_cons (ps_if (pt_cmpR op_lt (pv 4) pe_int (nomark _)) (pss_one (ps_ret (pe_tup (pa_cons (pv 1) (pa_cons (pv 2) pa_nil))))) pss_nil)
      (pss_one (ps_ret (pe_tup (pa_cons pe_non (pa_cons (pv 2) pa_nil)))))))))), ?_⟩
    intro d nd
    have sD : Same H (upd H d (.dK [])) := sm_new nd
    have eD0 : (upd H d (.dK [])) d = some (.dK []) := upd_same
    generalize upd H d (.dK []) = H1 at sD eD0 ⊢
    refine ⟨_, rfl, (n : Int), rfl, by omega, by omega, ?_⟩
    rw [Int.toNat_natCast]
    have out : ∀ (D : Ends) (σ : L2.St) (H2 : Hp) (o : V), D.rt = Q → o = outV M n → H2 d = some (.dK (kv (cf M n).t)) → Same H H2 → ∀ p, H2 p = none → D.rt (.ref p) (upd H2 p (.tup [o, .ref d])) := fun D σ H2 o eD eo hd s2 p np => by
      rw [eD]
      refine q _ _ (s2.trans (sm_new np)) ⟨p, d, rfl, .of ?_, (upd_ne (ne_of_none hd np)).trans hd⟩
      rw [upd_same, eo]
    refine for_range (lo := 0) (n := n) (fun i σ H' => ∃ y5 y6 y7, σ = [some m, some (.int (n : Int)), some (.ref d), some (.int (cf M i).x), some (.int (cf M i).s), y5, y6, y7] ∧ H' d = some (.dK (kv (cf M i).t)) ∧ Fr [d] H1 H' ∧ (cf M i).n = i) ⟨none, none, none, rfl, eD0, Fr.refl _, rfl⟩ ?_ ?_
    · rintro i σ H2 hi ⟨y5, y6, y7, rfl, hd, f2, hcn⟩
      have s2 : Same H H2 := sm_drop sD f2 (by simp [nd])
      have ok := cf_ok wf i
      refine ⟨_, rfl, _, _, rfl, rfl, _, rfl, ?_⟩
      by_cases e : (cf M i).s < 0
      · rw [decide_eq_true e]
        have e1 : (cf M i).s = -1 := by
          have := ok.st.1
          omega
        have ef : cf M n = cf M i := runc_done (Nat.le_of_lt hi) e1
        refine iteT ⟨_, rfl, _, rfl, by show 2 ≤ sizeLine; decide, fun p np => ?_⟩
        refine out _ [] H2 _ rfl ?_ (by rw [ef]; exact hd) s2 p np
        unfold outV
        rw [ef, if_pos e1, hcn, Int.zero_add]
      · rw [decide_eq_false e]
        refine iteF ?_
        have h0 : 0 ≤ (cf M i).s := by omega
        have hy := ok.sym (cf M i).x
        obtain ⟨a, ws, b, us, cc, em, ha, e1, hb, e2, hc⟩ := (hm.imm (sm_imm s2)).rule wf h0 ok.st.2 hy.1 hy.2
        subst em
        refine ⟨_, rfl, d, rfl, .inl ⟨_, .inl hd⟩, _, rfl, _, DGet.k (k := Sum.inl (cf M i).x) hd, ?_⟩
        rw [getD_kv]
        refine ⟨_, rfl, _, rfl, a, ws, (cf M i).s, _, rfl, rfl, ha, e1, _, rfl, b, us, _, _, rfl, rfl, hb, e2, ?_⟩
        have hlen : (cf M i).t.length ≤ 10000 := Nat.le_trans (cf_len M i) (by omega)
        refine ⟨_, rfl, cc, _, 0, _, rfl, rfl, hc, rfl, _, rfl, _, rfl, d, _, rfl, DPut.k (k := Sum.inl (cf M i).x) hd (by rw [kv_len]; exact Nat.lt_of_le_of_lt hlen (by decide)), ?_⟩
        rw [putK_kv]
        have i3 : Imm H2 (upd H2 d (.dK (kv (pt (cf M i).t (cf M i).x (rul M (cf M i).s (lk (cf M i).t (cf M i).x)).1)))) := (Fr.set (S := [d]) (by simp)).imm fun z hz => by
          rw [List.mem_singleton.mp hz, hd]
          trivial
        have es : cf M (i + 1) = stp M (cf M i) := by
          show runc M (i + 1) ini = _
          rw [runc_succ, if_neg (by show ¬ (cf M i).s = -1; omega)]
        refine ⟨_, rfl, _, rfl, cc, _, 1, _, rfl, rfl, i3.sqt hc, rfl, _, _, rfl, rfl, ?_⟩
        refine ⟨_, rfl, cc, _, 2, _, rfl, rfl, i3.sqt hc, rfl, ?_⟩
        rw [es]
        refine ⟨_, _, _, rfl, upd_same, f2.trans (Fr.set (by simp)), ?_⟩
        show (cf M i).n + 1 = _
        rw [hcn]
        rfl
    · rintro σ H2 ⟨y5, y6, y7, rfl, hd, f2, hcn⟩
      have s2 : Same H H2 := sm_drop sD f2 (by simp [nd])
      have ok := cf_ok wf n
      refine ⟨_, rfl, _, _, rfl, rfl, _, rfl, ?_⟩
      by_cases e : (cf M n).s < 0
      · rw [decide_eq_true e]
        have e1 : (cf M n).s = -1 := by
          have := ok.st.1
          omega
        refine iteT ⟨_, rfl, _, rfl, by show 2 ≤ sizeLine; decide, fun p np => ?_⟩
        refine out _ [] H2 _ rfl ?_ hd s2 p np
        unfold outV
        rw [if_pos e1, hcn]
      · rw [decide_eq_false e]
        refine iteF ⟨_, rfl, by show 2 ≤ sizeLine; decide, fun p np => ?_⟩
        refine out _ [] H2 _ rfl ?_ hd s2 p np
        unfold outV
        rw [if_neg (by omega)]
theorem sc_ones : FnScope ["_law_tape", "_law_place"] ["_law_tape"] (defScope s_law_ones) := ⟨rfl, rfl, rfl, by decide +kernel, rfl, by decide +kernel, by decide +kernel⟩
theorem ok_ones (T : Txt w K mg) : Has P w K mg base CX0 1 ("_law_ones", none) ["_law_tape"] (spOnes K) := by
  obtain ⟨fd, F⟩ := T.fd 41 (d := d_law_ones) rfl rfl rfl
  refine ⟨⟨fd, F.ok sc_ones (fun vs H Q E h => ?_) (fun cdv A outer s H vs Q E hr h => ?_), F.bindsN fun _ _ _ _ _ _ us hl => match us, hl with | [_], _ => rfl⟩, F.kp⟩
  · obtain ⟨d, t, rfl, _⟩ := h
    rfl
  · obtain ⟨d, t, rfl, hd, hl, q⟩ := h
    have hu := hu_of hr
    refine ⟨_, PSs.nox (pss_one (ps_ret (pe_callB call_len_seq (by rfl) T.z_len (by decide +kernel) (pa_cons (pe_lock (pe_lc (own := [("_law_place", 1)]) (g := gName 1) (tt := tTest (tOp rNe (tDGet (tVar 0) (tVar 1)) (tC (.int 0)))) (by rfl) sc_ones.nd (pi_keys (pv 0)) (blkOk_by (own := [("_law_place", 1)]) (N := ["_law_tape", "_law_place"]) (sc := defScope s_law_ones) (by decide +kernel))
        (fun _ _ _ _ _ => pg_name (i := 1) sc_ones.nd rfl (Or.inl rfl)) (fun _ _ _ _ _ => by exact pts_one (pt_cmpR op_ne (pe_dget hu (pv 0) (pv 1) (fun _ _ => rfl)) pe_int (nomark _))) (fun _ _ _ _ _ => pv 1))) pa_nil)))), ?_⟩
    refine ⟨d, _, hd, trivial, fun od => ⟨_, rfl, d, od, rfl, .inl ⟨_, upd_same, fun D nD => ?_⟩⟩⟩
    have nDd : D ≠ d := fun z => by
      rw [z, upd_same] at nD
      cases nD
    refine lc_pure walk_keys (fun i acc _ => acc = ((t.take i).filter fun p => !decide (lk t p.1 = 0)).map fun p => V.int p.1) nD (fun H' s => s _ _ upd_same) (fun _ _ _ _ _ _ _ h => h) rfl (by rw [kv_len]; exact Nat.le_trans hl (by decide)) (fun i acc H' e => ?_) ?_ ?_
    · rw [e, List.length_map]
      exact Nat.le_trans (List.length_filter_le _ _) (by rw [List.length_take]; exact Nat.min_le_left _ _)
    · rintro i x H' H'' acc hi s1 _ ea ⟨rfl, k, v, ek, rfl⟩ C N hC hN
      obtain ⟨pp, ep, rfl, rfl⟩ := kv_at ek
      have em := List.mem_of_getElem? ep
      refine ⟨rfl, _, rfl, _, rfl, d, .int (lk t pp.1), rfl, ?_, rfl, _, rfl, ?_⟩
      · refine .inl ⟨_, Sum.inl pp.1, .inr ⟨od, s1 _ _ upd_same⟩, rfl, ?_⟩
        rw [valV_kv, lkO_some em]
        rfl
      · rw [dec_int]
        cases hz : !decide (lk t pp.1 = 0) with
        | true =>
          refine iteT ⟨_, rfl, hC _ _ (Same.refl _) ?_⟩
          rw [ea, take_snoc ep, List.filter_append, List.map_append, List.filter_cons_of_pos (by exact hz)]
          rfl
        | false =>
          refine iteF (hN _ (Same.refl _) ?_)
          rw [ea, take_snoc ep, List.filter_append, List.map_append, List.filter_cons_of_neg (by rw [hz]; exact Bool.false_ne_true)]
          exact (List.append_nil _).symm
    · intro H6 acc s6 eD ea
      rw [kv_len, List.take_length] at ea
      have ela : acc.length = (nzk t).length := by
        rw [ea, List.length_map]
        unfold nzk
        rw [List.length_map]
      have s7 : Same H (upd H6 d (.dK (kv t))) := fun b o e => by
        by_cases z : b = d
        · rw [z, hd] at e
          rw [z, upd_same]
          exact e
        · rw [upd_ne z]
          exact s6 _ _ ((upd_ne z).trans e)
      refine ⟨s6 _ _ upd_same, D, acc, rfl, .inl (.of ((upd_ne nDd).trans eD)), ?_⟩
      rw [ela]
      exact q _ s7
end
end K79

namespace K79
open PySem PySem.Spec PyProof.Rows L2
def spRefused (K : PySem.W.Frag) : Sp := fun vs H Q _ => ∃ (k cnt most F : Nat) (L : List Mach) (es : List Evd), vs = [.int (k : Int), .int (cnt : Int), .int (most : Int)] ∧ Wf (rootM 1 k) k ∧ k ≤ 4 ∧ cnt ≤ 1000 ∧ trD cnt F [rootM 1 k] = some L ∧ L.length ≤ 1000 ∧ LOk L es k ∧ most < L.length ∧ ∀ H', Same H H' → Q (.bl true) H'
section
variable {P : Program} {w : World} {K : PySem.W.Frag} {mg : Str → Option Value} {base : Heap}
theorem sc_refused : FnScope ["_law_symbols", "_law_count", "_law_most"] ["_law_symbols", "_law_count", "_law_most"] (defScope s_law_refused) := ⟨rfl, rfl, rfl, by decide +kernel, rfl, by decide +kernel, by decide +kernel⟩
theorem ok_refused (T : Txt w K mg) : Has P w K mg base CX0 9 ("_law_refused", none) ["_law_symbols", "_law_count", "_law_most"] (spRefused K) := by
  obtain ⟨fd, F⟩ := T.fd 42 (d := d_law_refused) rfl rfl rfl
  obtain ⟨⟨fd1, G1, b1⟩, kp1⟩ := ok_census (P := P) (base := base) T
  refine ⟨⟨fd, F.ok sc_refused (fun vs H Q E h => ?_) (fun cdv A outer s H vs Q E hr h => ?_), F.bindsN fun _ _ _ _ _ _ us hl => match us, hl with | [_, _, _], _ => rfl⟩, F.kp⟩
  · obtain ⟨k, cnt, most, F', L, es, rfl, _⟩ := h
    rfl
  · obtain ⟨k, cnt, most, F', L, es, rfl, wf, hk, hcnt, htr, hL, ok, hlt, q⟩ := h
    refine ⟨_, PSs.nox (pss_cons (ps_try_only (tb := fun W => tDrop (tCallS (spCensus K) (WE W) (tCons (tC (.int 1)) (tCons (tVar 0) (tCons (tVar 1) (tCons (tVar 2) tNil)))))) (ts := fun _ _ _ => tRet (tC (.bl true))) (Wout := fun _ _ _ _ => False) rfl rfl ⟨rfl, by decide, Or.inl T.g_TooLarge⟩ takes0
        (fun W pn xe tk _ => pss_one (ps_expr (pe_callS G1 hr rfl T.g_tree_census kp1 b1 (fun σ => passAt tk σ) (by exact (pa_cons pe_int (pa_cons (pv 0) (pa_cons (pv 1) (pa_cons (pv 2) pa_nil))))))))
        (fun _ _ _ _ _ _ _ => pss_one (ps_ret pe_bl))) (pss_one (ps_ret pe_bl))), ?_⟩
    refine ⟨_, rfl, _, rfl, _, rfl, 1, k, cnt, most, F', L, es, rfl, wf, by decide, hk, hcnt, htr, hL, ok, fun hm => absurd hm (by omega), fun _ H' s' => ?_⟩
    exact ⟨true, T.e_TooLarge, fun _ a0 _ => q H' s', fun q => Bool.noConfusion q⟩
end
end K79

namespace K79
open PySem PySem.Spec PyProof.Rows L2
def stpL (L : List Mach) : List Mach := L.filter fun M => decide ((cf M 50).s = -1)
def onesI (M : Mach) : Int := ((nzk (cf M 50).t).length : Nat)
def boC (c : Cn) : Int := if c.bo.1 > 0 then c.bo.1 else 0
structure LawC (k : Nat) (L : List Mach) (c : Cn) (M1 M2 : Mach) : Prop where
  st : c.st = (stpL L).length
  en : c.en = (L.length : Int) - (stpL L).length
  s1 : c.bs.1 ∈ (stpL L).map fun M => (cf M 50).n
  s2 : ∀ y ∈ (stpL L).map fun M => (cf M 50).n, y ≤ c.bs.1
  o1 : boC c ∈ (stpL L).map onesI
  o2 : ∀ y ∈ (stpL L).map onesI, y ≤ boC c
  t1 : c.bs.2 = textM M1
  w1 : Wf M1 k
  p1 : ParOk M1 k
  e1 : (cf M1 50).s = -1 ∧ (cf M1 50).n = c.bs.1
  t2 : c.bo.2 = textM M2
  w2 : Wf M2 k
  p2 : ParOk M2 k
  e2 : onesI M2 = boC c
  k1 : (PyData.str c.bs.2).canLay0 = true
  k2 : (PyData.str c.bo.2).canLay0 = true
def LawOk (n k cnt : Nat) : Prop := ∃ (F : Nat) (L : List Mach) (es : List Evd) (M1 M2 : Mach), Wf (rootM n k) k ∧ trD cnt F [rootM n k] = some L ∧ L.length ≤ 1000 ∧ 1 ≤ L.length ∧ LOk L es k ∧ LawC k L (cntL L es) M1 M2
def Dom (n k : Nat) : Prop := n = 2 ∧ k = 2 ∨ n = 1 ∧ 2 ≤ k ∧ k ≤ 4
def spLaw (K : PySem.W.Frag) : Sp := fun vs H Q _ => ∃ (a : Addr) (ns : List Int), vs = [.ref a] ∧ SqL K H a (ns.map V.int) ∧ ns.length ≤ 1000 ∧ ∀ H', Q (.bl true) H'
theorem sym_turn {K : PySem.W.Frag} {D : Ends} {σ : L2.St} {H : Hp} {p q : Addr} {ns : List Int} {n : Nat} (h1 : σ[1]? = some (some (.ref p))) (h2 : σ[2]? = some (some (.int (n : Int)))) (hset : σ.set 3 (some (.int ((2 : Nat) : Int))) = σ) (st : StAt H p q ns) (hn : n = 1 ∨ n = 2)
    (go : ∀ (k : Nat) H', Dom n k → StAt H' p q ns → Fr [p] H H' → D.nx (σ.set 3 (some (.int (k : Int)))) H') :
    tIfS (tTest (tOp rEq (tVar 2) (tC (.int 1)))) (tAsg (tOp (rI0 fun i j => .int (i + j)) (tC (.int 2)) (tCall (spDraw K) [] E0 (tCons (tVar 1) (tCons (tC (.int 3)) tNil)))) (gName 3)) tNext D σ H := by
  refine ⟨_, h2, rfl, _, rfl, ?_⟩
  rw [dec_int]
  rcases hn with e | e
  · subst e
    rw [decide_eq_true (show ((1 : Nat) : Int) = 1 from rfl)]
    refine iteT ⟨_, h1, p, q, ns, 3, rfl, st, by decide, by decide, fun v H' hv st' f => ⟨2, _, rfl, rfl, ?_⟩⟩
    have := go (2 + v) H' (.inr ⟨rfl, by omega, by omega⟩) st' f
    rw [show ((2 + v : Nat) : Int) = 2 + (v : Int) by omega] at this
    exact this
  · subst e
    rw [decide_eq_false (show ¬ ((2 : Nat) : Int) = 1 by decide)]
    refine iteF ?_
    have := go 2 H (.inl ⟨rfl, rfl⟩) st (Fr.refl H)
    rw [hset] at this
    exact this
theorem cnt_turn {K : PySem.W.Frag} {D : Ends} {σ : L2.St} {H : Hp} {p q : Addr} {ns : List Int} {c : Nat} (h1 : σ[1]? = some (some (.ref p))) (hset : σ.set 4 (some (.int (c : Int))) = σ) (hc : c ≤ 50) (st : StAt H p q ns)
    (go : ∀ (c : Nat) H', c ≤ 50 → StAt H' p q ns → Fr [p] H H' → D.nx (σ.set 4 (some (.int (c : Int)))) H') :
    tIfS (tTest (tOp rEq (tCall (spDraw K) [] E0 (tCons (tVar 1) (tCons (tC (.int 3)) tNil))) (tC (.int 0)))) (tAsg (tCall (spDraw K) [] E0 (tCons (tVar 1) (tCons (tC (.int 7)) tNil))) (gName 4)) tNext D σ H := by
  refine ⟨_, h1, p, q, ns, 3, rfl, st, by decide, by decide, fun v H' hv st' f => ⟨rfl, _, rfl, ?_⟩⟩
  rw [dec_int]
  refine ite2 (fun _ => ?_) (fun _ => ?_)
  · refine ⟨_, h1, p, q, ns, 7, rfl, st', by decide, by decide, fun v2 H2 hv2 st2 f2 => ?_⟩
    exact go v2 H2 (by omega) st2 (f.trans f2)
  · have := go c H' hc st' f
    rw [hset] at this
    exact this
theorem RunAt.same {K : PySem.W.Frag} {H H' : Hp} {v : V} {M : Mach} {n : Nat} (r : RunAt K H v M n) (s : Same H H') : RunAt K H' v M n := by
  obtain ⟨t, d, e, ht, hd⟩ := r
  exact ⟨t, d, e, (sm_imm s).sqt ht, s _ _ hd⟩
theorem RunAt.fr {K : PySem.W.Frag} {H H' : Hp} {v : V} {M : Mach} {n : Nat} {D : Addr} {l : List V} (r : RunAt K H v M n) (hD : H D = some (.lst l)) (f : Fr [D] H H') : RunAt K H' v M n := by
  obtain ⟨t, d, e, ht, hd⟩ := r
  have i : Imm H H' := f.imm fun p hp => by
    rw [List.mem_singleton.mp hp, hD]
    trivial
  have nd : d ≠ D := ne_of hd hD (fun z => by cases z)
  exact ⟨t, d, e, i.sqt ht, f _ _ hd (by simp [nd])⟩
def resD (n : Nat) (c : Cn) : List PyData := [.int (n : Int), .int c.st, .int c.en, .int ((n : Int) - c.st - c.en), .int c.bs.1, .int (if c.bo.1 > 0 then c.bo.1 else 0), .str c.bs.2, .str c.bo.2]
theorem dp_res {K : PySem.W.Frag} {H : Hp} (n : Nat) (c : Cn) : DpAll K H (resV n c) (resD n c) :=
  .cons (.int _) (.cons (.int _) (.cons (.int _) (.cons (.int _) (.cons (.int _) (.cons (.int _) (.cons (.str _) (.cons (.str _) .nil)))))))
theorem lay_res {n : Nat} {c : Cn} (h1 : (PyData.str c.bs.2).canLay0 = true) (h2 : (PyData.str c.bo.2).canLay0 = true) : (PyData.tuple (resD n c)).canLay0 = true := by
  show (true && (true && (true && (true && (true && (true && ((PyData.str c.bs.2).canLay0 && ((PyData.str c.bo.2).canLay0 && true)))))))) = true
  rw [h1, h2]
  rfl
theorem shaped_res {n : Nat} {c : Cn} (h1 : (PyData.str c.bs.2).canLay0 = true) (h2 : (PyData.str c.bo.2).canLay0 = true) : SeqAt.shaped (PyData.tuple (resD n c)) = true := by
  show ((PyData.tuple (resD n c)).canLay0 && decide ((PyData.tuple (resD n c)).depth ≤ 64)) = true
  rw [lay_res h1 h2]
  rfl
theorem ne_res {K : PySem.W.Frag} {H : Hp} {a b : Addr} {n : Nat} {c : Cn} {Q : VK} (h1 : (PyData.str c.bs.2).canLay0 = true) (h2 : (PyData.str c.bo.2).canLay0 = true) (ha : SqT K H a (resV n c)) (hb : SqT K H b (resV n c)) (q : Q (.bl false) H) : rNeD K (.ref a) (.ref b) H Q := by
  refine ⟨_, _, .tup ha (dp_res n c), .tup hb (dp_res n c), shaped_res h1 h2, shaped_res h1 h2, ?_⟩
  rw [SeqAt.eqv_refl _ (lay_res h1 h2)]
  exact q
theorem ne_ints {K : PySem.W.Frag} {H : Hp} {x y : V} {xs : List Int} {Q : VK} (hx : IntsAt K H x xs) (hy : IntsAt K H y xs) (q : Q (.bl false) H) : rNeD K x y H Q := by
  obtain ⟨a, rfl, ha⟩ := hx
  obtain ⟨b, rfl, hb⟩ := hy
  refine ⟨_, _, .tup ha (dp_ints xs), .tup hb (dp_ints xs), shaped_ints _, shaped_ints _, ?_⟩
  show Q (.bl (!PyData.eqvAll (xs.map .int) (xs.map .int))) H
  rw [eqv_ints, decide_eq_true rfl]
  exact q
/-- a comprehension over the runs that stopped, by their number -/
theorem runs_lc {K : PySem.W.Frag} {σ : L2.St} {H : Hp} {a : Addr} {zs : List V} {L : List Mach} (f : Mach → Int) (te : TE) (hw : ∀ v, wipe ((wipe σ [12]).set 12 v) [12] = wipe σ [12]) (hi : σ[8]? = some (some (.ref a))) (hz : H a = some (.lst zs)) (hp : Paired (fun v M => RunAt K H v M 50) zs L) (hl : L.length ≤ 1000)
    (hte : ∀ M ∈ L, ∀ v H' (Q' : VK), RunAt K H' v M 50 → (∀ H2, Same H' H2 → Q' (.int (f M)) H2) → te ((wipe σ [12]).set 12 (some v)) H' Q') {Q : VK} (q : ∀ D H', Same H H' → H' D = some (.lst ((L.map f).map V.int)) → rMax K [.ref D] H' Q) : tCB (rMax K) (tCons (tLc (iList K (tVar 8)) (gName 12) tYes te [12]) tNil) σ H Q := by
  refine ⟨_, hi, a, rfl, ⟨_, .of hz⟩, fun D nD => ?_⟩
  refine lc_pure (walk_list (xs := zs)) (fun i acc _ => acc = ((L.take i).map f).map V.int) nD (fun H' s => .of (s _ _ hz)) (fun _ _ _ _ _ _ _ h => h) rfl (by rw [hp.length]; omega) (fun i acc H' e => ?_) ?_ ?_
  · rw [e, List.length_map, List.length_map, List.length_take]
    omega
  · rintro i x H' H'' acc hi s1 eD ea ⟨rfl, ex⟩ C N hC hN
    obtain ⟨M, eM, hm⟩ := prd_at' hp ex
    refine ⟨hw _, yes_ ?_⟩
    refine hte M (List.mem_of_getElem? eM) x H'' _ (hm.same s1) fun H2 s2 => hC _ _ s2 ?_
    rw [ea, take_snoc eM, List.map_append, List.map_append]
    rfl
  · intro H' acc s1 eD ea
    rw [hp.length, List.take_length] at ea
    subst ea
    exact q D H' s1 eD
theorem stp_take {L : List Mach} {i : Nat} {M : Mach} (e : L[i]? = some M) : stpL (L.take (i + 1)) = stpL (L.take i) ++ (if (cf M 50).s = -1 then [M] else []) := by
  unfold stpL
  rw [take_snoc e, List.filter_append]
  congr 1
  by_cases z : (cf M 50).s = -1
  · rw [if_pos z, List.filter_cons_of_pos (by exact decide_eq_true z)]
    rfl
  · rw [if_neg z, List.filter_cons_of_neg (by simp [z])]
    rfl
section
variable {P : Program} {w : World} {K : PySem.W.Frag} {mg : Str → Option Value} {base : Heap}
theorem sc_law : FnScope ["_law_script", "_law_stream_here", "_law_states", "_law_symbols", "_law_count", "_law_machines", "_law_actual", "_law_runs", "_law_stopped", "_law_one", "_law_two", "_law_machine_here", "_law_run_here"] ["_law_script"] (defScope s_law) := ⟨rfl, rfl, rfl, by decide +kernel, rfl, by decide +kernel, by decide +kernel⟩
theorem ok_law (PL : ∀ n k cnt, Dom n k → cnt ≤ 50 → LawOk n k cnt) (T : Txt w K mg) : ∃ fd : FuncData, (∀ (s : Shared) (v : Value), BindsTo s fd ⟨[v], []⟩ [("_law_script", v)]) ∧ ∀ base : Heap, FnOk P w K mg base CX0 10 (He.fAd K ("law", none)) fd ["_law_script"] (spLaw K) := by
  obtain ⟨fd, F⟩ := T.fd 43 (d := d_law) rfl rfl rfl
  have bb := FunD.bindsA (ps := ["_law_script"]) F fun _ _ _ _ _ _ us hl => match us, hl with | [_], _ => rfl
  refine ⟨fd, fun s v => bb s [v] rfl, fun base => ?_⟩
  obtain ⟨⟨fd1, G1, b1⟩, kp1⟩ := ok_stream (P := P) (base := base) T
  obtain ⟨⟨fd2, G2, b2⟩, kp2⟩ := ok_draw (P := P) (base := base) T
  obtain ⟨⟨fd3, G3, b3⟩, kp3⟩ := ok_tree (P := P) (base := base) T
  obtain ⟨⟨fd4, G4, b4⟩, kp4⟩ := ok_census (P := P) (base := base) T
  obtain ⟨⟨fd5, G5, b5⟩, kp5⟩ := ok_count (P := P) (base := base) T
  obtain ⟨⟨fd6, G6, b6⟩, kp6⟩ := ok_decide (P := P) (base := base) T
  obtain ⟨⟨fd7, G7, b7⟩, kp7⟩ := ok_lrun (P := P) (base := base) T
  obtain ⟨⟨fd8, G8, b8⟩, kp8⟩ := ok_ones (P := P) (base := base) T
  obtain ⟨⟨fd9, G9, b9⟩, kp9⟩ := ok_parse (P := P) (base := base) T
  obtain ⟨⟨fd0, G0, b0⟩, kp0⟩ := ok_refused (P := P) (base := base) T
  refine F.ok sc_law (fun vs H Q E h => ?_) (fun cdv A outer s H vs Q E hr h => ?_)
  · obtain ⟨a, ns, rfl, _⟩ := h
    rfl
  · obtain ⟨a, ns, rfl, ha, hns, q⟩ := h
    have hr1 := hr.mono (by decide : 1 ≤ 9)
    have hr4 := hr.mono (by decide : 4 ≤ 9)
    have hr5 := hr.mono (by decide : 5 ≤ 9)
    have hr7 := hr.mono (by decide : 7 ≤ 9)
    have hr8 := hr.mono (by decide : 8 ≤ 9)
    refine ⟨_, PSs.nox (pss_cons (ps_set (i := 1) sc_law.nd rfl (.inl rfl) (pe_call G1 hr1 (by rfl) T.g_law_stream kp1 b1 .nil pass0 (pa_cons (pv 0) pa_nil)))
      (pss_cons (ps_set (i := 2) sc_law.nd rfl (.inl rfl) (pe_op op_add pe_int (pe_callTy call_int1 (by rfl) T.z_int (by decide +kernel) (pa_cons (pe_cmpR op_eq (pe_call G2 hr1 (by rfl) T.g_law_draw kp2 b2 .nil pass0 (pa_cons (pv 1) (pa_cons pe_int pa_nil))) pe_int (nomark _)) pa_nil))))
      (pss_cons (ps_set (i := 3) sc_law.nd rfl (.inl rfl) pe_int)
      (pss_cons (ps_if (pt_cmpR op_eq (pv 2) pe_int (nomark _)) (pss_one (ps_set (i := 3) sc_law.nd rfl (.inl rfl) (pe_op op_add pe_int (pe_call G2 hr1 (by rfl) T.g_law_draw kp2 b2 .nil pass0 (pa_cons (pv 1) (pa_cons pe_int pa_nil)))))) pss_nil)
      (pss_cons (ps_set (i := 4) sc_law.nd rfl (.inl rfl) (pe_call G2 hr1 (by rfl) T.g_law_draw kp2 b2 .nil pass0 (pa_cons (pv 1) (pa_cons pe_int pa_nil))))
      (pss_cons (ps_if (pt_cmpR op_eq (pe_call G2 hr1 (by rfl) T.g_law_draw kp2 b2 .nil pass0 (pa_cons (pv 1) (pa_cons pe_int pa_nil))) pe_int (nomark _)) (pss_one (ps_set (i := 4) sc_law.nd rfl (.inl rfl) (pe_call G2 hr1 (by rfl) T.g_law_draw kp2 b2 .nil pass0 (pa_cons (pv 1) (pa_cons pe_int pa_nil))))) pss_nil)
      (pss_cons (ps_set (i := 5) sc_law.nd rfl (.inl rfl) (pe_call G3 hr5 (by rfl) T.g_tree kp3 b3 .nil (passes_call (E := fun _ _ _ => False) takes0 (fun _ _ _ _ h => h)) (pa_cons (pv 2) (pa_cons (pv 3) (pa_cons (pv 4) (pa_cons pe_int pa_nil))))))
      (pss_cons (ps_set (i := 6) sc_law.nd rfl (.inl rfl) (pe_call G4 hr8 (by rfl) T.g_tree_census kp4 b4 .nil (passes_call (E := fun _ _ _ => False) takes0 (fun _ _ _ _ h => h)) (pa_cons (pv 2) (pa_cons (pv 3) (pa_cons (pv 4) (pa_cons (pe_callB call_len_seq (by rfl) T.z_len (by decide +kernel) (pa_cons (pv 5) pa_nil)) pa_nil))))))
      (pss_cons (ps_if (pt_cmpR (op_neD hr.units) (pv 6) (pe_call G5 hr7 (by rfl) T.g_count_all kp5 b5 .nil pass0 (pa_cons (pv 5) (pa_cons (pe_lc (own := [("_law_machine_here", 11)]) (g := gName 11) (te := tCall (spDecide K) [] E0 (tCons (tVar 11) tNil)) (by rfl) sc_law.nd (pi_list (pv 5)) (blkOk_by (by kernel_rfl)) (fun _ _ _ _ _ => pg_name (i := 11) sc_law.nd rfl (Or.inl rfl)) (fun _ _ _ _ _ => pts_nil)
          (fun _ _ _ _ _ => by exact pe_call G6 hr7 (by rfl) T.g_decide kp6 b6 .nil pass0 (pa_cons (pv 11) pa_nil))) pa_nil))) (nomark _)) (pss_one (ps_ret pe_bl)) pss_nil)
      (pss_cons (ps_setLc (i := 7) (own := [("_law_machine_here", 11)]) (g := gName 11) (te := tCall (spLRun K) [] E0 (tCons (tVar 11) (tCons (tC (.int 50)) tNil))) (by rfl) sc_law.nd rfl rfl rfl (pi_list (pv 5)) (blkOk_by (by kernel_rfl)) (fun _ _ _ _ _ => pg_name (i := 11) sc_law.nd rfl (Or.inl rfl)) (fun _ _ _ _ _ => pts_nil)
          (fun _ _ _ _ _ => by exact pe_call G7 hr1 (by rfl) T.g_law_run kp7 b7 .nil pass0 (pa_cons (pv 11) (pa_cons pe_int pa_nil))))
      (pss_cons (ps_setLc (i := 8) (own := [("_law_run_here", 12)]) (g := gName 12) (tt := tTest (tOp rNotN (tOp (rIxT K) (tVar 12) (tC (.int 0))) (tC .non))) (by rfl) sc_law.nd rfl rfl rfl (pi_list (pv 7)) (blkOk_by (by kernel_rfl)) (fun _ _ _ _ _ => pg_name (i := 12) sc_law.nd rfl (Or.inl rfl)) (fun _ _ _ _ _ => by exact pts_one (pt_cmpR op_notN1 (pe_ix ix_tup (pv 12) pe_int (fun _ _ => rfl)) pe_non (nomark _)))
          (fun _ _ _ _ _ => pv 12))
      (pss_cons (ps_if (pt_cmpR (op_neD hr.units) (pe_slice sl_tupA (pv 6) po_none (po_some pe_int)) (pe_tup (pa_cons (pe_callB call_len_seq (by rfl) T.z_len (by decide +kernel) (pa_cons (pv 5) pa_nil)) (pa_cons (pe_callB call_len_seq (by rfl) T.z_len (by decide +kernel) (pa_cons (pv 8) pa_nil)) (pa_cons (pe_op op_sub (pe_callB call_len_seq (by rfl) T.z_len (by decide +kernel) (pa_cons (pv 5) pa_nil)) (pe_callB call_len_seq (by rfl) T.z_len (by decide +kernel) (pa_cons (pv 8) pa_nil))) (pa_cons pe_int pa_nil))))) (nomark _)) (pss_one (ps_ret pe_bl)) pss_nil)
      (pss_cons (ps_if (PW.pt (pw_or (pt_cmpR op_ne (pe_ix ix_tup (pv 6) pe_int (fun _ _ => rfl)) (pe_callB (cr_max (by rfl)) (by rfl) T.z_max (by decide +kernel) (pa_cons (pe_lc (own := [("_law_run_here", 12)]) (g := gName 12) (te := tOp (rIxT K) (tVar 12) (tC (.int 0))) (by rfl) sc_law.nd (pi_list (pv 8)) (blkOk_by (by kernel_rfl)) (fun _ _ _ _ _ => pg_name (i := 12) sc_law.nd rfl (Or.inl rfl)) (fun _ _ _ _ _ => pts_nil)
            (fun _ _ _ _ _ => by exact pe_ix ix_tup (pv 12) pe_int (fun _ _ => rfl))) pa_nil)) (nomark _))
          (pw_or1 (pt_cmpR op_ne (pe_ix ix_tup (pv 6) pe_int (fun _ _ => rfl)) (pe_callB (cr_max (by rfl)) (by rfl) T.z_max (by decide +kernel) (pa_cons (pe_lc (own := [("_law_run_here", 12)]) (g := gName 12) (te := tCall (spOnes K) [] E0 (tCons (tOp (rIxT K) (tVar 12) (tC (.int 1))) tNil)) (by rfl) sc_law.nd (pi_list (pv 8)) (blkOk_by (by kernel_rfl)) (fun _ _ _ _ _ => pg_name (i := 12) sc_law.nd rfl (Or.inl rfl)) (fun _ _ _ _ _ => pts_nil)
            (fun _ _ _ _ _ => by exact pe_call G8 hr1 (by rfl) T.g_law_ones kp8 b8 .nil pass0 (pa_cons (pe_ix ix_tup (pv 12) pe_int (fun _ _ => rfl)) pa_nil))) pa_nil)) (nomark _))))) (pss_one (ps_ret pe_bl)) pss_nil)
      (pss_cons (ps_set (i := 9) sc_law.nd rfl (.inl rfl) (pe_call G7 hr1 (by rfl) T.g_law_run kp7 b7 .nil pass0 (pa_cons (pe_call G9 hr4 (by rfl) T.g_parse kp9 b9 .nil pass0 (pa_cons (pe_ix ix_tup (pv 6) pe_int (fun _ _ => rfl)) pa_nil)) (pa_cons pe_int pa_nil))))
      (pss_cons (ps_set (i := 10) sc_law.nd rfl (.inl rfl) (pe_call G7 hr1 (by rfl) T.g_law_run kp7 b7 .nil pass0 (pa_cons (pe_call G9 hr4 (by rfl) T.g_parse kp9 b9 .nil pass0 (pa_cons (pe_ix ix_tup (pv 6) pe_int (fun _ _ => rfl)) pa_nil)) (pa_cons pe_int pa_nil))))
      (pss_cons (ps_if (PW.pt (pw_or (pt_cmpR op_ne (pe_ix ix_tup (pv 9) pe_int (fun _ _ => rfl)) (pe_ix ix_tup (pv 6) pe_int (fun _ _ => rfl)) (nomark _))
          (pw_or1 (pt_cmpR op_ne (pe_call G8 hr1 (by rfl) T.g_law_ones kp8 b8 .nil pass0 (pa_cons (pe_ix ix_tup (pv 10) pe_int (fun _ _ => rfl)) pa_nil)) (pe_ix ix_tup (pv 6) pe_int (fun _ _ => rfl)) (nomark _))))) (pss_one (ps_ret pe_bl)) pss_nil)
      (pss_one (ps_ret (pe_or (pe_cmpR op_eq (pv 2) pe_int (nomark _)) (pe_or (pe_cmpR op_eq (pe_callB call_len_seq (by rfl) T.z_len (by decide +kernel) (pa_cons (pv 5) pa_nil)) pe_int (nomark _)) (pe_one (pe_call G0 hr (by rfl) T.g_law_refused kp0 b0 .nil pass0 (pa_cons (pv 3) (pa_cons (pv 4) (pa_cons (pe_op op_sub (pe_callB call_len_seq (by rfl) T.z_len (by decide +kernel) (pa_cons (pv 5) pa_nil)) pe_int) pa_nil))))))))))))))))))))))))), ?_⟩
    -- the stream
    refine ⟨_, rfl, a, ns, rfl, ha, hns, fun p q0 H1 np s1 st1 => ?_⟩
    refine ⟨_, rfl, p, q0, ns, 40, rfl, st1, by decide, by decide, fun v H2 hv st2 f2 => ⟨rfl, .inr ⟨_, rfl, _, _, rfl, rfl, ?_⟩⟩⟩
    obtain ⟨n, hn, en⟩ : ∃ n : Nat, (n = 1 ∨ n = 2) ∧ ((1 : Int) + (if decide (V.int (v : Int) = V.int 0) = true then (1 : Int) else 0)) = (n : Int) := by
      by_cases z : decide (V.int (v : Int) = V.int 0) = true
      · exact ⟨2, .inr rfl, by rw [if_pos z]; rfl⟩
      · exact ⟨1, .inl rfl, by rw [if_neg z]; rfl⟩
    show gName 2 (.int ((1 : Int) + (if decide (V.int (v : Int) = V.int 0) = true then (1 : Int) else 0))) _ _ _
    rw [en]
    refine sym_turn (K := K) (σ := [some (.ref a), some (.ref p), some (.int (n : Int)), some (.int ((2 : Nat) : Int)), none, none, none, none, none, none, none, none, none]) (n := n) (p := p) (q := q0) (ns := ns) rfl rfl rfl st2 hn fun k H3 dom st3 f3 => ?_
    refine ⟨_, rfl, p, q0, ns, 51, rfl, st3, by decide, by decide, fun c H4 hc st4 f4 => ?_⟩
    refine cnt_turn (K := K) (σ := [some (.ref a), some (.ref p), some (.int (n : Int)), some (.int (k : Int)), some (.int (c : Int)), none, none, none, none, none, none, none, none]) (c := c) (p := p) (q := q0) (ns := ns) rfl rfl (by omega) st4 fun cnt H5 hcnt st5 f5 => ?_
    obtain ⟨F', L, es, M1, M2, wf, htr, hL, hL1, ok, lc⟩ := PL n k cnt dom hcnt
    have hn4 : n ≤ 4 := by omega
    have hk4 : k ≤ 4 := by
      rcases dom with z | z <;> omega
    -- machines
    refine ⟨_, rfl, _, rfl, _, rfl, n, k, cnt, 1000, F', L, rfl, wf, hn4, hk4, by omega, htr, hL, fun _ v H6 s6 ⟨aL, xs, ev, hxs, pxs⟩ => ?_, fun hm H' s' => absurd hm (by omega)⟩
    subst ev
    have exl : xs.length = L.length := pxs.length
    -- actual
    refine ⟨_, rfl, _, rfl, _, rfl, _, rfl, aL, xs, rfl, .inl (.of hxs), ?_⟩
    rw [exl]
    refine ⟨n, k, cnt, L.length, F', L, es, rfl, wf, hn4, hk4, by omega, htr, hL, ok, fun _ t H7 s7 ht => ?_, fun hm H' s' => absurd hm (Nat.lt_irrefl _)⟩
    generalize ecn : cntL L es = cn at lc ht
    have hxs7 := s7 _ _ hxs
    have pxs7 := pxs.mono fun _ _ => MachAt.imm (sm_imm s7)
    -- the same once more
    refine ⟨_, rfl, _, rfl, ?_⟩
    refine decides (fun _ => rfl) (fun _ => rfl) rfl hxs7 pxs7 ok hL fun D ys H8 s8 hD hq => ?_
    refine ⟨aL, D, xs, ys, L, es, k, rfl, .of (s8 _ _ hxs7), pxs7.mono fun _ _ => MachAt.imm (sm_imm s8), .of hD, hq, ok.len, ok.wf, ok.tx, ok.ev, fun t2 H9 s9 ht2 => ?_⟩
    rw [ecn] at ht2
    have s79 := s8.trans s9
    have ht := (sm_imm s79).sqt ht
    have hxs9 := s79 _ _ hxs7
    have pxs9 := pxs7.mono fun _ _ => MachAt.imm (sm_imm s79)
    refine ne_res lc.k1 lc.k2 ht ht2 ⟨_, rfl, iteF ?_⟩
    -- runs
    refine ⟨_, rfl, aL, rfl, ⟨_, .of hxs9⟩, fun D2 nD2 => ?_⟩
    refine lc_pure (walk_list (xs := xs)) (fun i acc H' => Paired (fun v M => RunAt K H' v M 50) acc (L.take i)) nD2 (fun H' s => .of (s _ _ hxs9)) (fun i acc H4 H5 l e f z => z.mono fun _ _ h => RunAt.fr h e f) .nil (by rw [exl]; omega) (fun i acc H' z => ?_) ?_ ?_
    · rw [z.length, List.length_take]
      omega
    · rintro i x H' H'' acc hi sx eD z ⟨rfl, ex⟩ C N hC hN
      obtain ⟨M, eM, hm⟩ := prd_at' pxs9 ex
      refine ⟨rfl, yes_ ?_⟩
      refine ⟨_, rfl, x, M, k, 50, rfl, hm.imm (sm_imm sx), ok.wf M (List.mem_of_getElem? eM), by decide, fun v2 Hy sy hrun => ?_⟩
      refine hC _ _ sy ?_
      rw [take_snoc eM]
      exact (z.mono fun _ _ h => RunAt.same h sy).snoc hrun
    · intro H10 rs s10 hrs prs
      rw [exl, List.take_length] at prs
      -- stopped
      refine ⟨_, rfl, D2, rfl, ⟨_, .of hrs⟩, fun D3 nD3 => ?_⟩
      refine lc_pure (walk_list (xs := rs)) (fun i acc H' => Paired (fun v M => RunAt K H' v M 50) acc (stpL (L.take i))) nD3 (fun H' s => .of (s _ _ hrs)) (fun i acc H4 H5 l e f z => z.mono fun _ _ h => RunAt.fr h e f) .nil (by rw [prs.length]; omega) (fun i acc H' z => ?_) ?_ ?_
      · rw [z.length]
        refine Nat.le_trans (List.length_filter_le _ _) ?_
        rw [List.length_take]
        omega
      · rintro i x H' H'' acc hi sx eD z ⟨rfl, ex⟩ C N hC hN
        obtain ⟨M, eM, hrun⟩ := prd_at' prs ex
        have hrun' := hrun.same sx
        obtain ⟨rt, rd, rfl, hrt, hrd⟩ := id hrun'
        refine ⟨rfl, _, rfl, rt, _, 0, _, rfl, rfl, hrt, rfl, ?_⟩
        have est := stp_take eM
        by_cases z1 : (cf M 50).s = -1
        · rw [if_pos z1] at est
          rw [show outV M 50 = .int (cf M 50).n by unfold outV; rw [if_pos z1]]
          refine ⟨rfl, _, rfl, iteT ⟨_, rfl, hC _ _ (Same.refl _) ?_⟩⟩
          rw [est]
          exact z.snoc hrun'
        · rw [if_neg z1, List.append_nil] at est
          rw [show outV M 50 = .non by unfold outV; rw [if_neg z1]]
          refine ⟨rfl, _, rfl, iteF (hN _ (Same.refl _) ?_)⟩
          rw [est]
          exact z
      · intro H11 zs s11 hzs pzs
        rw [prs.length, List.take_length] at pzs
        have hsl : (stpL L).length ≤ 1000 := Nat.le_trans (List.length_filter_le _ _) hL
        have s911 := s10.trans s11
        have ht := (sm_imm s911).sqt ht
        have hxs11 := s911 _ _ hxs9
        -- actual[:4]
        refine ⟨_, rfl, 4, rfl, t, _, rfl, ht, fun hw => absurd hw.2 (by show ¬ HT.sIx 8 8 (some 4) = 8; decide), fun _ p4 np4 => ?_⟩
        have hp4 : (upd H11 p4 (.tup (cutV (resV L.length cn) none (some 4)))) p4 = some (.tup (([(L.length : Int), cn.st, cn.en, (L.length : Int) - cn.st - cn.en]).map V.int)) := upd_same
        have s12 : Same H11 (upd H11 p4 (.tup (cutV (resV L.length cn) none (some 4)))) := sm_new np4
        generalize upd H11 p4 (.tup (cutV (resV L.length cn) none (some 4))) = H12 at hp4 s12 ⊢
        have hx12 := s12 _ _ hxs11
        have hz12 := s12 _ _ hzs
        refine ⟨_, rfl, aL, xs, rfl, .inl (.of hx12), _, rfl, D3, zs, rfl, .inl (.of hz12), _, rfl, aL, xs, rfl, .inl (.of hx12), _, rfl, D3, zs, rfl, .inl (.of hz12), _, _, rfl, rfl, by show 4 ≤ sizeLine; decide, fun p5 np5 => ?_⟩
        have e4 : [(L.length : Int), cn.st, cn.en, (L.length : Int) - cn.st - cn.en] = [(xs.length : Int), (zs.length : Int), (xs.length : Int) - (zs.length : Int), 0] := by
          rw [exl, pzs.length, lc.st, lc.en]
          congr 4
          omega
        rw [e4] at hp4
        refine ne_ints ⟨p4, rfl, .of (sm_new np5 _ _ hp4)⟩ ⟨p5, rfl, .of upd_same⟩ ⟨_, rfl, iteF ?_⟩
        have s13 := s12.trans (sm_new (o := .tup [.int (xs.length : Int), .int (zs.length : Int), .int ((xs.length : Int) - (zs.length : Int)), .int 0]) np5)
        have ht := (sm_imm s13).sqt ht
        have hz13 := s13 _ _ hzs
        have pz13 := pzs.mono fun _ _ h => RunAt.same h s13
        have hx13 := s13 _ _ hxs11
        generalize upd H12 p5 (.tup [.int (xs.length : Int), .int (zs.length : Int), .int ((xs.length : Int) - (zs.length : Int)), .int 0]) = H13 at ht hz13 pz13 hx13 ⊢
        have hstp : ∀ M ∈ stpL L, (cf M 50).s = -1 := fun M hM => of_decide_eq_true (List.mem_filter.mp hM).2
        -- actual[4]
        refine ⟨_, rfl, t, _, 4, _, rfl, rfl, ht, rfl, ?_⟩
        refine runs_lc (σ := [some (.ref a), some (.ref p), some (.int (n : Int)), some (.int (k : Int)), some (.int (cnt : Int)), some (.ref aL), some (.ref t), some (.ref D2), some (.ref D3), none, none, none, none]) (L := stpL L) (fun M => (cf M 50).n) (tOp (rIxT K) (tVar 12) (tC (.int 0))) (fun _ => rfl) rfl hz13 pz13 hsl (fun M hM v H' Q' hrun hq' => ?_) fun D4 H14 s14 hD4 => ?_
        · obtain ⟨rt, rd, rfl, hrt, hrd⟩ := hrun
          refine ⟨_, rfl, rt, _, 0, _, rfl, rfl, hrt, rfl, ?_⟩
          rw [show outV M 50 = .int (cf M 50).n by unfold outV; rw [if_pos (hstp M hM)]]
          exact hq' _ (Same.refl _)
        refine ⟨D4, _, rfl, .of hD4, List.length_pos_of_mem lc.s1, fun m hm hmx => ⟨rfl, _, rfl, ?_⟩⟩
        have em : m = cn.bs.1 := Int.le_antisymm (lc.s2 m hm) (hmx _ lc.s1)
        subst em
        rw [decide_eq_true rfl]
        refine iteF ?_
        -- actual[5]
        have ht := (sm_imm s14).sqt ht
        refine ⟨_, rfl, t, _, 5, _, rfl, rfl, ht, rfl, ?_⟩
        refine runs_lc (σ := [some (.ref a), some (.ref p), some (.int (n : Int)), some (.int (k : Int)), some (.int (cnt : Int)), some (.ref aL), some (.ref t), some (.ref D2), some (.ref D3), none, none, none, none]) (L := stpL L) onesI (tCall (spOnes K) [] E0 (tCons (tOp (rIxT K) (tVar 12) (tC (.int 1))) tNil)) (fun _ => rfl) rfl (s14 _ _ hz13) (pz13.mono fun _ _ h => RunAt.same h s14) hsl (fun M hM v H' Q' hrun hq' => ?_) fun D5 H15 s15 hD5 => ?_
        · obtain ⟨rt, rd, rfl, hrt, hrd⟩ := hrun
          refine ⟨_, rfl, rt, _, 1, _, rfl, rfl, hrt, rfl, rd, (cf M 50).t, rfl, hrd, Nat.le_trans (cf_len M 50) (by decide), fun H2 s2 => hq' H2 s2⟩
        refine ⟨D5, _, rfl, .of hD5, List.length_pos_of_mem lc.o1, fun m hm hmx => ⟨rfl, _, rfl, ?_⟩⟩
        have em : m = boC cn := Int.le_antisymm (lc.o2 m hm) (hmx _ lc.o1)
        subst em
        rw [show decide (V.int (if cn.bo.1 > 0 then cn.bo.1 else 0) = V.int (boC cn)) = true from decide_eq_true rfl]
        refine iteF ?_
        -- one
        have ht := (sm_imm s15).sqt ht
        refine ⟨_, rfl, t, _, 6, _, rfl, rfl, ht, rfl, M1, k, by rw [← lc.t1]; rfl, lc.w1, lc.p1, fun v1 H16 s16 hm1 => ⟨v1, M1, k, 50, rfl, hm1, lc.w1, by decide, fun r1 H17 s17 hr1 => ?_⟩⟩
        have ht := (sm_imm (s16.trans s17)).sqt ht
        refine ⟨_, rfl, t, _, 7, _, rfl, rfl, ht, rfl, M2, k, by rw [← lc.t2]; rfl, lc.w2, lc.p2, fun v2 H18 s18 hm2 => ⟨v2, M2, k, 50, rfl, hm2, lc.w2, by decide, fun r2 H19 s19 hr2 => ?_⟩⟩
        have ht := (sm_imm (s18.trans s19)).sqt ht
        have hr1 := hr1.same (s18.trans s19)
        obtain ⟨a1, d1, rfl, ha1, hd1⟩ := hr1
        obtain ⟨a2, d2, rfl, ha2, hd2⟩ := hr2
        rw [show outV M1 50 = .int cn.bs.1 by unfold outV; rw [if_pos lc.e1.1, lc.e1.2]] at ha1
        refine ⟨_, rfl, a1, _, 0, _, rfl, rfl, ha1, rfl, _, rfl, t, _, 4, _, rfl, rfl, ht, rfl, rfl, _, rfl, ?_⟩
        rw [decide_eq_true rfl]
        refine iteF ⟨_, rfl, a2, _, 1, _, rfl, rfl, ha2, rfl, d2, (cf M2 50).t, rfl, hd2, Nat.le_trans (cf_len M2 50) (by decide), fun H20 s20 => ?_⟩
        refine ⟨_, rfl, t, _, 5, _, rfl, rfl, (sm_imm s20).sqt ht, rfl, rfl, _, rfl, ?_⟩
        rw [show decide (V.int ((nzk (cf M2 50).t).length : Nat) = V.int (if cn.bo.1 > 0 then cn.bo.1 else 0)) = true from decide_eq_true (congrArg V.int lc.e2)]
        refine iteF ?_
        have hx20 : H20 aL = some (.lst xs) := s20 _ _ (s19 _ _ (s18 _ _ (s17 _ _ (s16 _ _ (s15 _ _ (s14 _ _ hx13))))))
        -- the answer
        refine ⟨_, rfl, rfl, _, rfl, ?_⟩
        rw [dec_int]
        refine ite2 (fun _ => q _) (fun e => ?_)
        have n1 : n = 1 := by
          have e : ¬ (n : Int) = 2 := fun z => e (decide_eq_true z)
          omega
        subst n1
        refine ⟨_, rfl, aL, xs, rfl, .inl (.of hx20), rfl, _, rfl, ?_⟩
        refine ite2 (fun _ => q _) (fun e2 => ?_)
        refine ⟨_, rfl, _, rfl, _, rfl, aL, xs, rfl, .inl (.of hx20), _, _, rfl, rfl, ?_⟩
        rw [exl]
        refine ⟨k, cnt, L.length - 1, F', L, es, ?_, wf, hk4, by omega, htr, hL, ok, by omega, fun H' _ => q _⟩
        rw [show ((L.length - 1 : Nat) : Int) = (L.length : Int) - 1 by omega]
        rfl
end
end K79

namespace K79
open PySem PySem.Spec PyProof.Rows L2
/-! ### a quick run: a tape of two lists -/
structure Zp where
  l : List Int
  h : Int
  r : List Int
  s : Int
def zst (M : Mach) (z : Zp) : Zp := match rul M z.s z.h with
  | (w, mv, s2) => if mv = 1 then ⟨w :: z.l, z.r.headD 0, z.r.tail, s2⟩ else ⟨z.l.tail, z.l.headD 0, w :: z.r, s2⟩
def zrun (M : Mach) : Nat → Zp → Zp
  | 0, z => z
  | n + 1, z => if z.s = -1 then z else zrun M n (zst M z)
def zini : Zp := ⟨[], 0, [], 0⟩
def zwk (M : Mach) : Nat → Zp → Option (Int × Int)
  | 0, _ => none
  | f + 1, z => if (rul M z.s z.h).2.2 = -1 then some (z.s, z.h) else zwk M f (zst M z)
def zat (z : Zp) (i : Int) : Int := if i = 0 then z.h else if 0 < i then z.r.getD (i.toNat - 1) 0 else z.l.getD ((-i).toNat - 1) 0
structure Rel (z : Zp) (c : Cf) : Prop where
  s : z.s = c.s
  t : ∀ i, lk c.t (c.x + i) = zat z i
theorem lkO_app (x y x' : Int) : ∀ t : Tp, lkO (t ++ [(x, y)]) x' = match lkO t x' with
    | some v => some v
    | none => if x = x' then some y else none
  | [] => by
    show lkO [(x, y)] x' = if x = x' then some y else none
    by_cases e : x = x'
    · rw [if_pos e]
      exact lkO_pos (p := (x, y)) e
    · rw [if_neg e]
      exact lkO_neg (p := (x, y)) e
  | p :: r => by
    have ih := lkO_app x y x' r
    show lkO (p :: (r ++ [(x, y)])) x' = _
    by_cases e : p.1 = x'
    · rw [lkO_pos e, lkO_pos e]
    · rw [lkO_neg e, lkO_neg e, ih]
theorem lkO_map (x y x' : Int) : ∀ t : Tp, lkO (t.map fun p => if p.1 = x then (p.1, y) else p) x' = if x' = x then (lkO t x').map (fun _ => y) else lkO t x'
  | [] => by
    show (none : Option Int) = if x' = x then none else none
    split <;> rfl
  | p :: r => by
    have ih := lkO_map x y x' r
    show lkO ((if p.1 = x then (p.1, y) else p) :: r.map fun p => if p.1 = x then (p.1, y) else p) x' = _
    by_cases e : p.1 = x'
    · by_cases z : p.1 = x
      · have z2 : x' = x := e.symm.trans z
        rw [if_pos z, if_pos z2, lkO_pos (p := (p.1, y)) e, lkO_pos e]
        rfl
      · have z2 : ¬ x' = x := fun q => z (e.trans q)
        rw [if_neg z, if_neg z2, lkO_pos e, lkO_pos e]
    · by_cases z : p.1 = x
      · rw [if_pos z, lkO_neg (p := (p.1, y)) e, ih, lkO_neg e]
      · rw [if_neg z, lkO_neg e, ih, lkO_neg e]
theorem any_lkO (x : Int) : ∀ t : Tp, (t.any fun p => decide (p.1 = x)) = (lkO t x).isSome
  | [] => rfl
  | p :: r => by
    rw [List.any_cons, any_lkO x r]
    by_cases e : p.1 = x
    · rw [lkO_pos e, decide_eq_true e]
      rfl
    · rw [lkO_neg e, decide_eq_false e]
      rfl
theorem lk_pt (t : Tp) (x y x' : Int) : lk (pt t x y) x' = if x' = x then y else lk t x' := by
  unfold lk pt
  rw [any_lkO]
  by_cases h : (lkO t x).isSome = true
  · rw [if_pos h, lkO_map]
    by_cases e : x' = x
    · rw [if_pos e, if_pos e, e]
      obtain ⟨v, hv⟩ := Option.isSome_iff_exists.mp h
      rw [hv]
      rfl
    · rw [if_neg e, if_neg e]
  · rw [if_neg h, lkO_app]
    have h2 : lkO t x = none := by
      cases q : lkO t x with
      | none => rfl
      | some v =>
        rw [q] at h
        exact absurd rfl h
    by_cases e : x' = x
    · rw [if_pos e, e, h2, if_pos rfl]
      rfl
    · rw [if_neg e]
      cases q : lkO t x' with
      | none =>
        rw [if_neg (fun z => e z.symm)]
      | some v => rfl
theorem getD_tail (l : List Int) (n : Nat) : l.tail.getD n 0 = l.getD (n + 1) 0 := by
  cases l <;> rfl
theorem headD_getD (l : List Int) : l.headD 0 = l.getD 0 0 := by
  cases l <;> rfl
theorem Rel.stp {M : Mach} {k : Nat} {z : Zp} {c : Cf} (r : Rel z c) (o : Ok M k c) (h : 0 ≤ c.s) : Rel (zst M z) (stp M c) := by
  have hy := o.sym c.x
  have hr := rul_ok o.wf h o.st.2 hy.1 hy.2
  have h0 : z.h = lk c.t c.x := by
    have := r.t 0
    rw [Int.add_zero] at this
    exact this.symm
  have er : rul M z.s z.h = rul M c.s (lk c.t c.x) := by rw [r.s, h0]
  have ez : zst M z = if (rul M c.s (lk c.t c.x)).2.1 = 1 then ⟨(rul M c.s (lk c.t c.x)).1 :: z.l, z.r.headD 0, z.r.tail, (rul M c.s (lk c.t c.x)).2.2⟩ else ⟨z.l.tail, z.l.headD 0, (rul M c.s (lk c.t c.x)).1 :: z.r, (rul M c.s (lk c.t c.x)).2.2⟩ := by
    unfold zst
    rw [er]
  have et : ∀ p, lk (K79.stp M c).t p = if p = c.x then (rul M c.s (lk c.t c.x)).1 else lk c.t p := fun p => lk_pt _ _ _ _
  have ex : (K79.stp M c).x = c.x + (rul M c.s (lk c.t c.x)).2.1 := rfl
  have es : (K79.stp M c).s = (rul M c.s (lk c.t c.x)).2.2 := rfl
  generalize rul M c.s (lk c.t c.x) = ru at *
  rw [ez]
  have hmv := hr.2.2.1
  by_cases e : ru.2.1 = 1
  · rw [if_pos e]
    refine ⟨es.symm, fun i => ?_⟩
    rw [et, ex, e]
    by_cases i1 : i = -1
    · subst i1
      rw [if_pos (by omega)]
      rfl
    · rw [if_neg (by omega), show c.x + 1 + i = c.x + (i + 1) by omega, r.t]
      unfold zat
      by_cases i0 : i = 0
      · subst i0
        rw [if_neg (by decide), if_pos (by decide), if_pos rfl, headD_getD]
        rfl
      · by_cases ip : 0 < i
        · rw [if_neg (by omega), if_pos (by omega), if_neg i0, if_pos ip, getD_tail]
          congr 1
          omega
        · rw [if_neg (by omega), if_neg (by omega), if_neg i0, if_neg ip, show (-i).toNat - 1 = ((-(i + 1)).toNat - 1) + 1 by omega]
          rfl
  · have e : ru.2.1 = -1 := by omega
    rw [if_neg (by omega)]
    refine ⟨es.symm, fun i => ?_⟩
    rw [et, ex, e]
    by_cases i1 : i = 1
    · subst i1
      rw [if_pos (by omega)]
      rfl
    · rw [if_neg (by omega), show c.x + -1 + i = c.x + (i - 1) by omega, r.t]
      unfold zat
      by_cases i0 : i = 0
      · subst i0
        rw [if_neg (by decide), if_neg (by decide), if_pos rfl, headD_getD]
        rfl
      · by_cases ip : 0 < i
        · rw [if_neg (by omega), if_pos (by omega), if_neg i0, if_pos ip, show i.toNat - 1 = ((i - 1).toNat - 1) + 1 by omega]
          rfl
        · rw [if_neg (by omega), if_neg (by omega), if_neg i0, if_neg ip, getD_tail]
          congr 1
          omega
theorem Rel.ini : Rel zini ini := ⟨rfl, fun i => by
  show (0 : Int) = zat zini i
  unfold zat
  split
  · rfl
  · split <;> rfl⟩
theorem Rel.run {M : Mach} {k : Nat} : ∀ (n : Nat) {z : Zp} {c : Cf}, Rel z c → Ok M k c → Rel (zrun M n z) (runc M n c)
  | 0, _, _, r, _ => r
  | n + 1, z, c, r, o => by
    unfold zrun runc
    rw [r.s]
    by_cases h : c.s = -1
    · rw [if_pos h, if_pos h]
      exact r
    · rw [if_neg h, if_neg h]
      exact Rel.run n (r.stp o (o.go h)) (o.stp (o.go h))
theorem wk_zwk {M : Mach} {k : Nat} : ∀ (n : Nat) {z : Zp} {c : Cf}, Rel z c → Ok M k c → 0 ≤ c.s → wk M n c = zwk M n z
  | 0, _, _, _, _, _ => rfl
  | n + 1, z, c, r, o, h => by
    have h0 : z.h = lk c.t c.x := by
      have := r.t 0
      rw [Int.add_zero] at this
      exact this.symm
    unfold wk zwk
    rw [r.s, h0]
    by_cases e : (rul M c.s (lk c.t c.x)).2.2 = -1
    · rw [if_pos e, if_pos e]
    · rw [if_neg e, if_neg e]
      have hy := o.sym c.x
      have hr := rul_ok o.wf h o.st.2 hy.1 hy.2
      exact wk_zwk n (r.stp o h) (o.stp h) (by show 0 ≤ (rul M c.s (lk c.t c.x)).2.2; omega)
theorem wk_ini {M : Mach} {k : Nat} (wf : Wf M k) (n : Nat) : wk M n ini = zwk M n zini := wk_zwk n Rel.ini (Ok.ini wf) (Int.le_refl 0)
theorem cf_s {M : Mach} {k : Nat} (wf : Wf M k) (n : Nat) : (cf M n).s = (zrun M n zini).s := (Rel.run n Rel.ini (Ok.ini wf)).s.symm
end K79

namespace K79
open PySem PySem.Spec PyProof.Rows L2
/-! ### the tree, by the quick run -/
def zch (M : Mach) (n : Nat) : List Mach := match zwk M n zini with
  | none => []
  | some q => if ((M.length : Nat) : Int) * ((M.headD []).length : Nat) - (goM M).length < 2 then [] else (List.range (symM M + 1).toNat).flatMap (ch3 M q)
theorem zch_eq {M : Mach} {k : Nat} (wf : Wf M k) (n : Nat) : chM M n = zch M n := by
  have e := wk_ini wf n
  unfold chM zch
  generalize wk M n ini = a at e ⊢
  subst e
  cases zwk M n zini <;> rfl
def ztr (cnt : Nat) : Nat → List Mach → Option (List Mach)
  | _, [] => some []
  | 0, _ :: _ => none
  | f + 1, M :: r => (ztr cnt f (zch M cnt ++ r)).map (M :: ·)
theorem ztr_eq {cnt k : Nat} : ∀ (f : Nat) (st : List Mach), (∀ M ∈ st, Wf M k) → trD cnt f st = ztr cnt f st
  | 0, [], _ => rfl
  | 0, _ :: _, _ => rfl
  | _ + 1, [], _ => rfl
  | f + 1, M :: r, h => by
    have wf := h M (List.mem_cons_self)
    show (trD cnt f (chM M cnt ++ r)).map (M :: ·) = (ztr cnt f (zch M cnt ++ r)).map (M :: ·)
    have hw : ∀ M2 ∈ zch M cnt ++ r, Wf M2 k := fun M2 h2 => by
      rcases List.mem_append.mp h2 with z | z
      · rw [← zch_eq wf] at z
        exact chM_wf wf z
      · exact h M2 (List.mem_cons_of_mem _ z)
    rw [zch_eq wf, ztr_eq f _ hw]
/-- the same tree for another count -/
def extB (c0 : Nat) (M : Mach) : Bool := decide (((M.length : Nat) : Int) * ((M.headD []).length : Nat) - (goM M).length < 2) || decide (zwk M c0 zini = zwk M 50 zini)
theorem zwk_more {M : Mach} {q : Int × Int} : ∀ (n j : Nat) {z : Zp}, zwk M n z = some q → zwk M (n + j) z = some q
  | 0, _, _, e => by cases e
  | n + 1, j, z, e => by
    rw [Nat.add_right_comm]
    unfold zwk at e ⊢
    by_cases h : (rul M z.s z.h).2.2 = -1
    · rw [if_pos h] at e ⊢
      exact e
    · rw [if_neg h] at e ⊢
      exact zwk_more n j e
theorem zch_ext {M : Mach} {c0 cnt : Nat} (h : extB c0 M = true) (h1 : c0 ≤ cnt) (h2 : cnt ≤ 50) : zch M cnt = zch M 50 := by
  unfold extB at h
  rcases (Bool.or_eq_true _ _).mp h with z | z
  · have z := of_decide_eq_true z
    have : ∀ n, zch M n = [] := fun n => by
      unfold zch
      cases zwk M n zini with
      | none => rfl
      | some q => exact if_pos z
    rw [this, this]
  · have z := of_decide_eq_true z
    have e : zwk M cnt zini = zwk M 50 zini := by
      cases q : zwk M 50 zini with
      | none =>
        cases q2 : zwk M cnt zini with
        | none => rfl
        | some v =>
          have := zwk_more cnt (50 - cnt) q2
          rw [show cnt + (50 - cnt) = 50 by omega, q] at this
          cases this
      | some v =>
        rw [q] at z
        have := zwk_more c0 (cnt - c0) z
        rw [show c0 + (cnt - c0) = cnt by omega] at this
        exact this
    unfold zch
    rw [e]
theorem ztr_ext {c0 cnt : Nat} (h1 : c0 ≤ cnt) (h2 : cnt ≤ 50) : ∀ (f : Nat) {st L : List Mach}, ztr 50 f st = some L → L.all (extB c0) = true → ztr cnt f st = some L
  | 0, [], _, e, _ => e
  | 0, _ :: _, _, e, _ => by cases e
  | _ + 1, [], _, e, _ => e
  | f + 1, M :: r, L, e, h => by
    obtain ⟨L2, e2, rfl⟩ := Option.map_eq_some_iff.mp (show (ztr 50 f (zch M 50 ++ r)).map (M :: ·) = some L from e)
    rw [List.all_cons] at h
    obtain ⟨ha, hb⟩ := He.ba h
    show (ztr cnt f (zch M cnt ++ r)).map (M :: ·) = some (M :: L2)
    rw [zch_ext ha h1 h2, ztr_ext h1 h2 f e2 hb]
    rfl
/-! ### one machine's checks -/
def okM (M : Mach) : Bool := decide ((cf M 6).s = -1) || (decide (¬ (zrun M 500 zini).s = -1) && (loopM M 40).isSome)
def evM (M : Mach) : Evd := if (cf M 6).s = -1 then .stop (cf M 6).n else (loopM M 40).getD (.stop 0)
theorem cf_done {M : Mach} {n : Nat} (h : (cf M 6).s = -1) (hn : 6 ≤ n) : cf M n = cf M 6 := runc_done hn h
theorem okM_dec {M : Mach} {k : Nat} (wf : Wf M k) (h : okM M = true) : decM M = some (evM M) := by
  unfold decM evM stopM
  by_cases z : (cf M 6).s = -1
  · rw [if_pos z, cf_done z (by decide), if_pos z]
  · unfold okM at h
    rw [decide_eq_false z, Bool.false_or] at h
    obtain ⟨h1, h2⟩ := He.ba h
    have h1 := of_decide_eq_true h1
    rw [if_neg z, if_neg (by rw [cf_s wf]; exact h1)]
    obtain ⟨e, he⟩ := Option.isSome_iff_exists.mp h2
    rw [he]
    rfl
theorem okM_50 {M : Mach} {k : Nat} (wf : Wf M k) (h : okM M = true) : decide ((cf M 50).s = -1) = decide ((cf M 6).s = -1) := by
  by_cases z : (cf M 6).s = -1
  · rw [cf_done z (by decide)]
  · unfold okM at h
    rw [decide_eq_false z, Bool.false_or] at h
    obtain ⟨h1, _⟩ := He.ba h
    have h1 := of_decide_eq_true h1
    rw [decide_eq_false z, decide_eq_false fun q => h1 ?_]
    rw [← cf_s wf]
    show (cf M 500).s = -1
    rw [show cf M 500 = cf M 50 from runc_done (by decide) q]
    exact q
def evB : Evd → Bool
  | .stop n => decide (0 ≤ n) && decide (n ≤ 10000)
  | .loop _ b _ => decide (b ≤ 100)
theorem evB_ok {e : Evd} (h : evB e = true) : EvOk e := by
  cases e with
  | stop n =>
    obtain ⟨h1, h2⟩ := He.ba h
    exact ⟨of_decide_eq_true h1, of_decide_eq_true h2⟩
  | loop a b r =>
    have h : decide (b ≤ 100) = true := h
    exact (of_decide_eq_true h : b ≤ 100)
def ruB (r : Rule) (s k : Nat) : Bool := decide (0 ≤ r.1) && (decide (r.1 < k) && ((decide (r.2.1 = 1) || decide (r.2.1 = -1)) && (decide (-1 ≤ r.2.2) && decide (r.2.2 < s))))
theorem ruB_ok {r : Rule} {s k : Nat} (h : ruB r s k = true) : 0 ≤ r.1 ∧ r.1 < k ∧ (r.2.1 = 1 ∨ r.2.1 = -1) ∧ -1 ≤ r.2.2 ∧ r.2.2 < s := by
  obtain ⟨h1, h⟩ := He.ba h
  obtain ⟨h2, h⟩ := He.ba h
  obtain ⟨h3, h⟩ := He.ba h
  obtain ⟨h4, h5⟩ := He.ba h
  refine ⟨of_decide_eq_true h1, of_decide_eq_true h2, ?_, of_decide_eq_true h4, of_decide_eq_true h5⟩
  rcases (Bool.or_eq_true _ _).mp h3 with z | z
  · exact .inl (of_decide_eq_true z)
  · exact .inr (of_decide_eq_true z)
def wfB (k : Nat) (M : Mach) : Bool := decide (1 ≤ M.length) && (decide (M.length ≤ 4) && (decide (2 ≤ k) && (decide (k ≤ 4) && (M.all (fun l => decide (l.length = k)) && M.all fun l => l.all fun r => ruB r M.length k))))
theorem wfB_ok {k : Nat} {M : Mach} (h : wfB k M = true) : Wf M k := by
  obtain ⟨h1, h⟩ := He.ba h
  obtain ⟨h2, h⟩ := He.ba h
  obtain ⟨h3, h⟩ := He.ba h
  obtain ⟨h4, h⟩ := He.ba h
  obtain ⟨h5, h6⟩ := He.ba h
  exact ⟨⟨of_decide_eq_true h1, of_decide_eq_true h2⟩, ⟨of_decide_eq_true h3, of_decide_eq_true h4⟩, fun l hl => of_decide_eq_true (List.all_eq_true.mp h5 l hl), fun l hl r hr => ruB_ok (List.all_eq_true.mp (List.all_eq_true.mp h6 l hl) r hr)⟩
def txB (M : Mach) : Bool := M.all fun l => decide ((rowS l).length ≤ 100)
def cutB (l : List Rule) (i : Nat) : Bool := decide (cutS (rowS l) (some (0 + (i : Int) * 3)) (some (0 + (i : Int) * 3 + 3)) = rtS (l.getD i (0, 0, 0)))
def parB (k : Nat) (M : Mach) : Bool := decide ((textM M).length ≤ 1000) && (decide (Txt.split (textM M) "_" = M.map rowS) && (M.all (fun l => decide ((rowS l).length = 3 * k)) && M.all fun l => (List.range l.length).all (cutB l)))
theorem parB_ok {k : Nat} {M : Mach} (h : parB k M = true) : ParOk M k := by
  obtain ⟨h1, h⟩ := He.ba h
  obtain ⟨h2, h⟩ := He.ba h
  obtain ⟨h3, h4⟩ := He.ba h
  refine ⟨of_decide_eq_true h1, of_decide_eq_true h2, fun l hl => of_decide_eq_true (List.all_eq_true.mp h3 l hl), fun l hl i r e => ?_⟩
  have hi := (List.getElem?_eq_some_iff.mp e).1
  have := of_decide_eq_true (List.all_eq_true.mp (List.all_eq_true.mp h4 l hl) i (List.mem_range.mpr hi))
  rw [this, List.getD_eq_getElem?_getD, e]
  rfl
/-! ### a tree's checks -/
def st6 (L : List Mach) : List Mach := L.filter fun M => decide ((cf M 6).s = -1)
def on6 (M : Mach) : Int := ((nzk (cf M 6).t).length : Nat)
def bestB (k : Nat) (x : Str) (M : Mach) : Bool := decide (x = textM M) && (wfB k M && (parB k M && (decide ((cf M 6).s = -1) && (PyData.str x).canLay0)))
def pick (L : List Mach) (x : Str) : Mach := (L.find? fun M => decide (x = textM M)).getD []
def lawB (k : Nat) (L : List Mach) (c : Cn) : Bool := decide (c.st = ((st6 L).length : Nat)) && (decide (c.en = (L.length : Int) - ((st6 L).length : Nat)) && (decide (c.bs.1 ∈ (st6 L).map fun M => (cf M 6).n) && (((st6 L).map fun M => (cf M 6).n).all (fun y => decide (y ≤ c.bs.1)) &&
  (decide (boC c ∈ (st6 L).map on6) && (((st6 L).map on6).all (fun y => decide (y ≤ boC c)) && (bestB k c.bs.2 (pick L c.bs.2) && (bestB k c.bo.2 (pick L c.bo.2) && (decide ((cf (pick L c.bs.2) 6).n = c.bs.1) && decide (on6 (pick L c.bo.2) = boC c)))))))))
theorem lawB_ok {k : Nat} {L : List Mach} {c : Cn} (wf : ∀ M ∈ L, Wf M k) (ok : ∀ M ∈ L, okM M = true) (h : lawB k L c = true) : LawC k L c (pick L c.bs.2) (pick L c.bo.2) := by
  obtain ⟨h1, h⟩ := He.ba h
  obtain ⟨h2, h⟩ := He.ba h
  obtain ⟨h3, h⟩ := He.ba h
  obtain ⟨h4, h⟩ := He.ba h
  obtain ⟨h5, h⟩ := He.ba h
  obtain ⟨h6, h⟩ := He.ba h
  obtain ⟨h7, h⟩ := He.ba h
  obtain ⟨h8, h⟩ := He.ba h
  obtain ⟨h9, h10⟩ := He.ba h
  obtain ⟨a1, h7⟩ := He.ba h7
  obtain ⟨a2, h7⟩ := He.ba h7
  obtain ⟨a3, h7⟩ := He.ba h7
  obtain ⟨a4, a5⟩ := He.ba h7
  obtain ⟨b1, h8⟩ := He.ba h8
  obtain ⟨b2, h8⟩ := He.ba h8
  obtain ⟨b3, h8⟩ := He.ba h8
  obtain ⟨b4, b5⟩ := He.ba h8
  have e6 : stpL L = st6 L := List.filter_congr fun M hM => okM_50 (wf M hM) (ok M hM)
  have done : ∀ M ∈ st6 L, cf M 50 = cf M 6 := fun M hM => cf_done (of_decide_eq_true (List.mem_filter.mp hM).2) (by decide)
  have m1 : (stpL L).map (fun M => (cf M 50).n) = (st6 L).map fun M => (cf M 6).n := by
    rw [e6]
    exact List.map_congr_left fun M hM => by rw [done M hM]
  have m2 : (stpL L).map onesI = (st6 L).map on6 := by
    rw [e6]
    refine List.map_congr_left fun M hM => ?_
    unfold onesI on6
    rw [done M hM]
  have a4 := of_decide_eq_true a4
  have b4 := of_decide_eq_true b4
  refine ⟨by rw [e6]; exact of_decide_eq_true h1, by rw [e6]; exact of_decide_eq_true h2, by rw [m1]; exact of_decide_eq_true h3, fun y hy => ?_, by rw [m2]; exact of_decide_eq_true h5, fun y hy => ?_,
    of_decide_eq_true a1, wfB_ok a2, parB_ok a3, ?_, of_decide_eq_true b1, wfB_ok b2, parB_ok b3, ?_, a5, b5⟩
  · rw [m1] at hy
    exact of_decide_eq_true (List.all_eq_true.mp h4 y hy)
  · rw [m2] at hy
    exact of_decide_eq_true (List.all_eq_true.mp h6 y hy)
  · rw [cf_done a4 (by decide)]
    exact ⟨a4, of_decide_eq_true h9⟩
  · unfold onesI
    rw [cf_done b4 (by decide)]
    exact of_decide_eq_true h10
def treeB (k : Nat) (L : List Mach) : Bool := decide (L.length ≤ 1000) && (decide (1 ≤ L.length) && (L.all (wfB k) && (L.all okM && (L.all txB && ((L.map evM).all evB && lawB k L (cntL L (L.map evM)))))))
def allB (n k cnt c0 : Nat) : Bool := wfB k (rootM n k) && match ztr cnt 200 [rootM n k] with
  | none => false
  | some L => L.all (extB c0) && treeB k L
theorem treeB_ok {n k cnt F : Nat} {L : List Mach} (wf : Wf (rootM n k) k) (e : trD cnt F [rootM n k] = some L) (h : treeB k L = true) : LawOk n k cnt := by
  obtain ⟨h1, h⟩ := He.ba h
  obtain ⟨h2, h⟩ := He.ba h
  obtain ⟨h3, h⟩ := He.ba h
  obtain ⟨h4, h⟩ := He.ba h
  obtain ⟨h5, h⟩ := He.ba h
  obtain ⟨h6, h7⟩ := He.ba h
  have hw : ∀ M ∈ L, Wf M k := fun M hM => wfB_ok (List.all_eq_true.mp h3 M hM)
  have ho : ∀ M ∈ L, okM M = true := fun M hM => List.all_eq_true.mp h4 M hM
  refine ⟨F, L, L.map evM, _, _, wf, e, of_decide_eq_true h1, of_decide_eq_true h2, ⟨?_, hw, fun M hM l hl => of_decide_eq_true (List.all_eq_true.mp (List.all_eq_true.mp h5 M hM) l hl), fun ev hev => evB_ok (List.all_eq_true.mp h6 ev hev)⟩, lawB_ok hw ho h7⟩
  rw [List.map_map]
  exact List.map_congr_left fun M hM => okM_dec (hw M hM) (ho M hM)
theorem allB_1 {n k cnt : Nat} (h : allB n k cnt 0 = true ∨ True) (h2 : wfB k (rootM n k) = true) {L : List Mach} (e : ztr cnt 200 [rootM n k] = some L) (h3 : treeB k L = true) : LawOk n k cnt := by
  have wf := wfB_ok h2
  refine treeB_ok (F := 200) wf ?_ h3
  rw [ztr_eq (k := k) 200 _ fun M hM => by rw [List.mem_singleton.mp hM]; exact wf]
  exact e
/-- one count -/
def oneB (n k cnt : Nat) : Bool := wfB k (rootM n k) && match ztr cnt 200 [rootM n k] with
  | none => false
  | some L => treeB k L
theorem oneB_ok {n k cnt : Nat} (h : oneB n k cnt = true) : LawOk n k cnt := by
  obtain ⟨h1, h⟩ := He.ba h
  cases e : ztr cnt 200 [rootM n k] with
  | none =>
    rw [e] at h
    cases h
  | some L =>
    rw [e] at h
    exact allB_1 (.inr trivial) h1 e h
/-- from c0 on -/
theorem allB_ok {n k c0 cnt : Nat} (h : allB n k 50 c0 = true) (h1 : c0 ≤ cnt) (h2 : cnt ≤ 50) : LawOk n k cnt := by
  obtain ⟨ha, h⟩ := He.ba h
  cases e : ztr 50 200 [rootM n k] with
  | none =>
    rw [e] at h
    cases h
  | some L =>
    rw [e] at h
    obtain ⟨hb, hc⟩ := He.ba h
    exact allB_1 (.inr trivial) ha (ztr_ext h1 h2 200 e hb) hc
end K79

namespace K79
open PySem PySem.Spec PyProof.Rows L2
theorem p_12_0 : oneB 1 2 0 = true := by decide +kernel
theorem p_12_1 : allB 1 2 50 1 = true := by decide +kernel
theorem p_13_0 : oneB 1 3 0 = true := by decide +kernel
theorem p_13_1 : allB 1 3 50 1 = true := by decide +kernel
theorem p_14_0 : oneB 1 4 0 = true := by decide +kernel
theorem p_14_1 : allB 1 4 50 1 = true := by decide +kernel
theorem p_22_0 : oneB 2 2 0 = true := by decide +kernel
theorem p_22_1 : oneB 2 2 1 = true := by decide +kernel
theorem p_22_2 : oneB 2 2 2 = true := by decide +kernel
theorem p_22_3 : oneB 2 2 3 = true := by decide +kernel
theorem p_22_4 : allB 2 2 50 4 = true := by decide +kernel
theorem plain (n k cnt : Nat) (d : Dom n k) (h : cnt ≤ 50) : LawOk n k cnt := by
  rcases d with ⟨rfl, rfl⟩ | ⟨rfl, h1, h2⟩
  · by_cases c : 4 ≤ cnt
    · exact allB_ok p_22_4 c h
    · have : cnt = 0 ∨ cnt = 1 ∨ cnt = 2 ∨ cnt = 3 := by omega
      rcases this with e | e | e | e <;> subst e
      · exact oneB_ok p_22_0
      · exact oneB_ok p_22_1
      · exact oneB_ok p_22_2
      · exact oneB_ok p_22_3
  · have : k = 2 ∨ k = 3 ∨ k = 4 := by omega
    by_cases c : 1 ≤ cnt
    · rcases this with e | e | e <;> subst e
      · exact allB_ok p_12_1 c h
      · exact allB_ok p_13_1 c h
      · exact allB_ok p_14_1 c h
    · have c : cnt = 0 := by omega
      subst c
      rcases this with e | e | e <;> subst e
      · exact oneB_ok p_12_0
      · exact oneB_ok p_13_0
      · exact oneB_ok p_14_0
end K79

open PySem PySem.W PySem.Calls PyProof.Rows
set_option maxRecDepth 100000 in
set_option maxHeartbeats 8000000 in
theorem PySem.Challenge.cw_tacet_k79_whole_census_of_trees_holds : PySem.Challenge.rw_tacet_k79_whole_census_of_trees.Holds := by
  w_on; o_law
  refine HandSHeadRun.head_any (r := OpenLaw.row PySem.Challenge.rw_tacet_k79_whole_census_of_trees) (q := view (OpenLaw.row PySem.Challenge.rw_tacet_k79_whole_census_of_trees).prog [123]) (H := K79.hk) (ob := K79.ob) (M := 8000) (loose := K79.loose) (d := HandSHeadRun.topDef (OpenLaw.row PySem.Challenge.rw_tacet_k79_whole_census_of_trees).prog 123) (kwd := []) K79.ob_eq
    (by kernel_rfl) (fun s => by kernel_rfl) K79.run (by kernel_rfl) (by kernel_rfl) (by kernel_rfl) (by rfl) (by first | assumption | decide +kernel) (by decide +kernel) ⟨rfl, rfl, rfl, rfl, rfl, by decide +kernel⟩ ?hw ?hc
  case hw => w_witness2
  case hc =>
    refine L2.walk_ofE (l := PySem.Challenge.rw_tacet_k79_whole_census_of_trees) (n := 63) (k := 10) (x := "_law_script") (CX := L2.CX0) rfl (by decide) (by kernel_rfl) ⟨rfl, by decide, by decide⟩ ?F (fun _ _ _ _ z => z)
    intro w mg fa h Y G hmg0
    obtain ⟨K, KX, c⟩ := Y
    have hmg : mg ("law" : PySem.Str) = some (.ref fa) := by
      have e : (HandSHeadRun.topDef (OpenLaw.row PySem.Challenge.rw_tacet_k79_whole_census_of_trees).prog 123).name = ("law" : PySem.Str) := by kernel_rfl
      rw [← e]
      exact hmg0
    have T := K79.Txt.of c KX G
    obtain ⟨fd, hb, hF⟩ := K79.ok_law (P := (PySem.Challenge.rw_tacet_k79_whole_census_of_trees).prog) (w := w) K79.plain T
    have e := hmg.symm.trans T.g_law
    cases e
    exact ⟨K, fd, K79.spLaw K, KX, hb, fun H a ns hl _ hS => ⟨a, ns, rfl, hS, Nat.le_trans hl (by decide), fun _ => rfl⟩, fun base _ _ => hF base⟩

