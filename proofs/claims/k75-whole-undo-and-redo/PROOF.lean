import PyProof.Rows.All
import Wide.All
import OpenK.AllK
import Wide.FinOn
import KE.KStateDown
import Lean
import HandS.ForMost
import HandS.Head0
import HandS.Head1
import HandS.Head2
import HandS.HeadEnd
import HandS.HeadHook4
import HandS.HeadWalk
import PySem.Challenge.RW_lendroads_k75_whole_undo_and_redo
import HandS.ExcCtx
import HandS.ForExc
import HandS.ExcSuper
import HandS.ExcInit
import KE.KExcSuper
import KE.KExcInit
import HandS.Dict
import HandS.Iter
import HandS.Style
import HandS.Walk
import HandS.TupAny
import HandS.IsInst
import HandS.Star
import HandS.Property
import HandS.Defaults
import HandS.EndTab
import HandS.Flow
import HandS.MakeKw
import HandS.TryOnly
import HandS.SortRule
import HandS.ExcIs
import HandS.Lambda
import HandS.HotCalls
import KE.KUnpackStar
import HandS.Conv
import HandS.MethStar
import HandS.DictComp
import PyProof.FString5
import KE.GoesMore
import PyProof.EnumMake
set_option Elab.async false
set_option linter.all false
set_option maxRecDepth 100000
set_option maxHeartbeats 4000000
/-! Kt: the text by places, the names by slot, what is asked of the heap behind the top (Tx). -/
namespace Ld
open PySem L2 PyProof.Rows
def top (i : Nat) : Stmt := PySem.Challenge.pw_lendroads_k75_whole_undo_and_redo.main.body.getD i (.Pass ⟨0, 0, 0, 0⟩)
/-- where the function of a property stands -/
def pgA (K : PySem.W.Frag) (c m : Str) : Addr := match PySem.W.recIn K (He.ma K (He.ga K c) m) "property" with
  | some (.ref g :: _) => g
  | _ => 0
/-- one def of the text -/
structure DefA where
  ad : PySem.W.Frag → Addr
  name : Str
  qual : Str
  st : Stmt
  dfl : List He.Dv := []
def DefA.dvs (d : DefA) (K : PySem.W.Frag) : List V := d.dfl.map (He.Dv.v K)
/-- the function object that stands at an address -/
def fdA (K : PySem.W.Frag) (a : Addr) : FuncData := match K.lookup a with
  | some ⟨_, _, .func fd, _⟩ => fd
  | _ => PySem.W.fnOf "" "" (defArgs (.Pass ⟨0, 0, 0, 0⟩)) [] (defScope (.Pass ⟨0, 0, 0, 0⟩)) .none .none .none .none none .none .none
def fnA (K : PySem.W.Frag) (a : Addr) : He.FnW := match K.lookup a with
  | some ⟨_, _, .func fd, _⟩ => some (fd.name, fd.qualname, fd.params, fd.body, fd.scope, fd.globals, fd.closure, fd.builtins)
  | _ => none
def DefA.val (d : DefA) : He.FnW := some (d.name, d.qual, defArgs d.st, .stmts (defBody d.st), defScope d.st, mainGlobals, [], builtinsNs)
def DefA.ok (K : PySem.W.Frag) (d : DefA) : Bool := PySem.W.keepIn K (.ref (d.ad K)) && (match K.lookup (d.ad K) with
  | some ⟨_, _, .func fd, _⟩ => PySem.W.codeIn K fd.code d.qual && He.dflB K fd.defaults (d.dvs K)
  | _ => false)
theorem DefA.funD {K : PySem.W.Frag} {d : DefA} (e : fnA K (d.ad K) = d.val) (c : d.ok K = true) : FunD K d.name d.qual (defArgs d.st) (defBody d.st) (defScope d.st) (d.dvs K) [] (d.ad K) (fdA K (d.ad K)) := by
  obtain ⟨kp, c2⟩ := He.ba c
  unfold fnA DefA.val at e
  refine ⟨?_, kp⟩
  cases q : K.lookup (d.ad K) with
  | none => rw [q] at c2; cases c2
  | some o =>
    obtain ⟨oc, od, dt, osl⟩ := o
    rw [q] at c2 e
    cases dt with
    | func fd =>
      have ef : fdA K (d.ad K) = fd := by unfold fdA; rw [q]
      obtain ⟨n1, n2, n3, n4, n5, n6, n7, n8, n9, n10, n11, n12, n13, n14, n15⟩ := fd
      simp only [Option.some.injEq, Prod.mk.injEq] at e
      obtain ⟨h1, h2, h3, h4, h5, h6, h7, h8⟩ := e
      obtain ⟨k1, k2⟩ := He.ba c2
      rw [ef]
      refine ⟨oc, od, n8, n9, n10, n11, n12, n13, n14, osl, ?_, ?_, k1, He.dflB_ok k2, .inl rfl⟩
      · subst h1 h2 h3 h4 h5 h6 h7 h8
        rfl
      · rfl
    | _ => cases c2
/-- the __init__ of an exception class (it closes over its class) -/
structure DefE where
  cls : Str
  qual : Str
  st : Stmt
def aE (K : PySem.W.Frag) (c : Str) : Addr := He.ma K (He.ga K c) "__init__"
/-- the cell that an exception's __init__ closes over -/
def cellE (K : PySem.W.Frag) (c : Str) : Addr := match (fdA K (aE K c)).closure with
  | [(_, a)] => a
  | _ => 0
abbrev FnE : Type := Option (Str × Str × Arguments × FuncBody × Scope × Addr × List Str × Addr)
def fnE (K : PySem.W.Frag) (a : Addr) : FnE := match K.lookup a with
  | some ⟨_, _, .func fd, _⟩ => some (fd.name, fd.qualname, fd.params, fd.body, fd.scope, fd.globals, fd.closure.map (·.1), fd.builtins)
  | _ => none
def DefE.val (d : DefE) : FnE := some ("__init__", d.qual, defArgs d.st, .stmts (defBody d.st), defScope d.st, mainGlobals, ["__class__"], builtinsNs)
def valB (v : Value) : Bool := match v with
  | .none => true
  | _ => false
def DefE.ok (K : PySem.W.Frag) (d : DefE) : Bool := PySem.W.keepIn K (.ref (aE K d.cls)) && ((match K.lookup (aE K d.cls) with
  | some ⟨_, _, .func fd, _⟩ => PySem.W.codeIn K fd.code d.qual && valB fd.defaults
  | _ => false) && (match K.lookup (cellE K d.cls) with
  | some ⟨_, _, .cell (some (.ref c)), _⟩ => decide (c = He.ga K d.cls)
  | _ => false))
abbrev st_is_integer : Stmt := top 11
abbrev N_is_integer : List Str := ["value"]
abbrev P_is_integer : List Str := ["value"]
theorem sc_is_integer : FnScope N_is_integer P_is_integer (defScope st_is_integer) := ⟨rfl, rfl, rfl, by decide +kernel, rfl, by decide +kernel, by decide +kernel⟩
def a_is_integer (K : PySem.W.Frag) : Addr := He.fAd K ("is_integer", none)
def d_is_integer : DefA := { ad := a_is_integer, name := "is_integer", qual := "is_integer", st := st_is_integer }
abbrev st_is_between : Stmt := top 12
abbrev N_is_between : List Str := ["value", "low", "high"]
abbrev P_is_between : List Str := ["value", "low", "high"]
theorem sc_is_between : FnScope N_is_between P_is_between (defScope st_is_between) := ⟨rfl, rfl, rfl, by decide +kernel, rfl, by decide +kernel, by decide +kernel⟩
def a_is_between (K : PySem.W.Frag) : Addr := He.fAd K ("is_between", none)
def d_is_between : DefA := { ad := a_is_between, name := "is_between", qual := "is_between", st := st_is_between }
abbrev st_is_list : Stmt := top 13
abbrev N_is_list : List Str := ["value"]
abbrev P_is_list : List Str := ["value"]
theorem sc_is_list : FnScope N_is_list P_is_list (defScope st_is_list) := ⟨rfl, rfl, rfl, by decide +kernel, rfl, by decide +kernel, by decide +kernel⟩
def a_is_list (K : PySem.W.Frag) : Addr := He.fAd K ("is_list", none)
def d_is_list : DefA := { ad := a_is_list, name := "is_list", qual := "is_list", st := st_is_list }
abbrev st_is_name : Stmt := top 14
abbrev N_is_name : List Str := ["value", "letter"]
abbrev P_is_name : List Str := ["value"]
theorem sc_is_name : FnScope N_is_name P_is_name (defScope st_is_name) := ⟨rfl, rfl, rfl, by decide +kernel, rfl, by decide +kernel, by decide +kernel⟩
def a_is_name (K : PySem.W.Frag) : Addr := He.fAd K ("is_name", none)
def d_is_name : DefA := { ad := a_is_name, name := "is_name", qual := "is_name", st := st_is_name }
abbrev st_is_length : Stmt := top 15
abbrev N_is_length : List Str := ["value"]
abbrev P_is_length : List Str := ["value"]
theorem sc_is_length : FnScope N_is_length P_is_length (defScope st_is_length) := ⟨rfl, rfl, rfl, by decide +kernel, rfl, by decide +kernel, by decide +kernel⟩
def a_is_length (K : PySem.W.Frag) : Addr := He.fAd K ("is_length", none)
def d_is_length : DefA := { ad := a_is_length, name := "is_length", qual := "is_length", st := st_is_length }
abbrev st_is_edge : Stmt := top 16
abbrev N_is_edge : List Str := ["value", "nodes", "name", "u", "v", "length"]
abbrev P_is_edge : List Str := ["value", "nodes"]
theorem sc_is_edge : FnScope N_is_edge P_is_edge (defScope st_is_edge) := ⟨rfl, rfl, rfl, by decide +kernel, rfl, by decide +kernel, by decide +kernel⟩
def a_is_edge (K : PySem.W.Frag) : Addr := He.fAd K ("is_edge", none)
def d_is_edge : DefA := { ad := a_is_edge, name := "is_edge", qual := "is_edge", st := st_is_edge }
abbrev st_odd_nodes : Stmt := top 31
abbrev N_odd_nodes : List Str := ["edges", "found", "name", "u", "v", "length", "node"]
abbrev P_odd_nodes : List Str := ["edges"]
theorem sc_odd_nodes : FnScope N_odd_nodes P_odd_nodes (defScope st_odd_nodes) := ⟨rfl, rfl, rfl, by decide +kernel, rfl, by decide +kernel, by decide +kernel⟩
def a_odd_nodes (K : PySem.W.Frag) : Addr := He.fAd K ("odd_nodes", none)
def d_odd_nodes : DefA := { ad := a_odd_nodes, name := "odd_nodes", qual := "odd_nodes", st := st_odd_nodes }
abbrev st_negative_edges : Stmt := top 32
abbrev N_negative_edges : List Str := ["edges", "edge"]
abbrev P_negative_edges : List Str := ["edges"]
theorem sc_negative_edges : FnScope N_negative_edges P_negative_edges (defScope st_negative_edges) := ⟨rfl, rfl, rfl, by decide +kernel, rfl, by decide +kernel, by decide +kernel⟩
def a_negative_edges (K : PySem.W.Frag) : Addr := He.fAd K ("negative_edges", none)
def d_negative_edges : DefA := { ad := a_negative_edges, name := "negative_edges", qual := "negative_edges", st := st_negative_edges }
abbrev st_checked_nodes : Stmt := top 46
abbrev N_checked_nodes : List Str := ["nodes", "found", "node"]
abbrev P_checked_nodes : List Str := ["nodes"]
theorem sc_checked_nodes : FnScope N_checked_nodes P_checked_nodes (defScope st_checked_nodes) := ⟨rfl, rfl, rfl, by decide +kernel, rfl, by decide +kernel, by decide +kernel⟩
def a_checked_nodes (K : PySem.W.Frag) : Addr := He.fAd K ("checked_nodes", none)
def d_checked_nodes : DefA := { ad := a_checked_nodes, name := "checked_nodes", qual := "checked_nodes", st := st_checked_nodes }
abbrev st_checked_edges : Stmt := top 47
abbrev N_checked_edges : List Str := ["edges", "nodes", "found", "edge", "name", "u", "v", "length", "rows"]
abbrev P_checked_edges : List Str := ["edges", "nodes"]
theorem sc_checked_edges : FnScope N_checked_edges P_checked_edges (defScope st_checked_edges) := ⟨rfl, rfl, rfl, by decide +kernel, rfl, by decide +kernel, by decide +kernel⟩
def a_checked_edges (K : PySem.W.Frag) : Addr := He.fAd K ("checked_edges", none)
def d_checked_edges : DefA := { ad := a_checked_edges, name := "checked_edges", qual := "checked_edges", st := st_checked_edges }
abbrev st_first_unknown : Stmt := top 48
abbrev N_first_unknown : List Str := ["names", "known", "seen", "name"]
abbrev P_first_unknown : List Str := ["names", "known"]
theorem sc_first_unknown : FnScope N_first_unknown P_first_unknown (defScope st_first_unknown) := ⟨rfl, rfl, rfl, by decide +kernel, rfl, by decide +kernel, by decide +kernel⟩
def a_first_unknown (K : PySem.W.Frag) : Addr := He.fAd K ("first_unknown", none)
def d_first_unknown : DefA := { ad := a_first_unknown, name := "first_unknown", qual := "first_unknown", st := st_first_unknown }
abbrev st_N_init : Stmt := inClass (top 49) 3
abbrev N_N_init : List Str := ["self", "nodes", "edges", "edge"]
abbrev P_N_init : List Str := ["self", "nodes", "edges"]
theorem sc_N_init : FnScope N_N_init P_N_init (defScope st_N_init) := ⟨rfl, rfl, rfl, by decide +kernel, rfl, by decide +kernel, by decide +kernel⟩
def a_N_init (K : PySem.W.Frag) : Addr := He.fAd K ("Network", some "__init__")
def d_N_init : DefA := { ad := a_N_init, name := "__init__", qual := "Network.__init__", st := st_N_init, dfl := [.adr (He.dflAt ("Network", some "__init__") 0)] }
abbrev st_N_nodes : Stmt := inClass (top 49) 7
abbrev N_N_nodes : List Str := ["self"]
abbrev P_N_nodes : List Str := ["self"]
theorem sc_N_nodes : FnScope N_N_nodes P_N_nodes (defScope st_N_nodes) := ⟨rfl, rfl, rfl, by decide +kernel, rfl, by decide +kernel, by decide +kernel⟩
def a_N_nodes (K : PySem.W.Frag) : Addr := pgA K "Network" "nodes"
def d_N_nodes : DefA := { ad := a_N_nodes, name := "nodes", qual := "Network.nodes", st := st_N_nodes }
abbrev st_N_edges : Stmt := inClass (top 49) 8
abbrev N_N_edges : List Str := ["self"]
abbrev P_N_edges : List Str := ["self"]
theorem sc_N_edges : FnScope N_N_edges P_N_edges (defScope st_N_edges) := ⟨rfl, rfl, rfl, by decide +kernel, rfl, by decide +kernel, by decide +kernel⟩
def a_N_edges (K : PySem.W.Frag) : Addr := pgA K "Network" "edges"
def d_N_edges : DefA := { ad := a_N_edges, name := "edges", qual := "Network.edges", st := st_N_edges }
abbrev st_N_names : Stmt := inClass (top 49) 9
abbrev N_N_names : List Str := ["self"]
abbrev P_N_names : List Str := ["self"]
theorem sc_N_names : FnScope N_N_names P_N_names (defScope st_N_names) := ⟨rfl, rfl, rfl, by decide +kernel, rfl, by decide +kernel, by decide +kernel⟩
def a_N_names (K : PySem.W.Frag) : Addr := pgA K "Network" "names"
def d_N_names : DefA := { ad := a_N_names, name := "names", qual := "Network.names", st := st_N_names }
abbrev st_N_len : Stmt := inClass (top 49) 12
abbrev N_N_len : List Str := ["self"]
abbrev P_N_len : List Str := ["self"]
theorem sc_N_len : FnScope N_N_len P_N_len (defScope st_N_len) := ⟨rfl, rfl, rfl, by decide +kernel, rfl, by decide +kernel, by decide +kernel⟩
def a_N_len (K : PySem.W.Frag) : Addr := He.fAd K ("Network", some "__len__")
def d_N_len : DefA := { ad := a_N_len, name := "__len__", qual := "Network.__len__", st := st_N_len }
abbrev st_N_need_edge : Stmt := inClass (top 49) 18
abbrev N_N_need_edge : List Str := ["self", "name"]
abbrev P_N_need_edge : List Str := ["self", "name"]
theorem sc_N_need_edge : FnScope N_N_need_edge P_N_need_edge (defScope st_N_need_edge) := ⟨rfl, rfl, rfl, by decide +kernel, rfl, by decide +kernel, by decide +kernel⟩
def a_N_need_edge (K : PySem.W.Frag) : Addr := He.fAd K ("Network", some "need_edge")
def d_N_need_edge : DefA := { ad := a_N_need_edge, name := "need_edge", qual := "Network.need_edge", st := st_N_need_edge }
abbrev st_N_with_nodes : Stmt := inClass (top 49) 21
abbrev N_N_with_nodes : List Str := ["self", "names"]
abbrev P_N_with_nodes : List Str := ["self", "names"]
theorem sc_N_with_nodes : FnScope N_N_with_nodes P_N_with_nodes (defScope st_N_with_nodes) := ⟨rfl, rfl, rfl, by decide +kernel, rfl, by decide +kernel, by decide +kernel⟩
def a_N_with_nodes (K : PySem.W.Frag) : Addr := He.fAd K ("Network", some "with_nodes")
def d_N_with_nodes : DefA := { ad := a_N_with_nodes, name := "with_nodes", qual := "Network.with_nodes", st := st_N_with_nodes }
abbrev st_N_with_edges : Stmt := inClass (top 49) 22
abbrev N_N_with_edges : List Str := ["self", "edges"]
abbrev P_N_with_edges : List Str := ["self", "edges"]
theorem sc_N_with_edges : FnScope N_N_with_edges P_N_with_edges (defScope st_N_with_edges) := ⟨rfl, rfl, rfl, by decide +kernel, rfl, by decide +kernel, by decide +kernel⟩
def a_N_with_edges (K : PySem.W.Frag) : Addr := He.fAd K ("Network", some "with_edges")
def d_N_with_edges : DefA := { ad := a_N_with_edges, name := "with_edges", qual := "Network.with_edges", st := st_N_with_edges }
abbrev st_N_without_nodes : Stmt := inClass (top 49) 23
abbrev N_N_without_nodes : List Str := ["self", "names", "unknown", "left", "node", "edge"]
abbrev P_N_without_nodes : List Str := ["self", "names"]
theorem sc_N_without_nodes : FnScope N_N_without_nodes P_N_without_nodes (defScope st_N_without_nodes) := ⟨rfl, rfl, rfl, by decide +kernel, rfl, by decide +kernel, by decide +kernel⟩
def a_N_without_nodes (K : PySem.W.Frag) : Addr := He.fAd K ("Network", some "without_nodes")
def d_N_without_nodes : DefA := { ad := a_N_without_nodes, name := "without_nodes", qual := "Network.without_nodes", st := st_N_without_nodes }
abbrev st_N_without_edges : Stmt := inClass (top 49) 24
abbrev N_N_without_edges : List Str := ["self", "names", "unknown", "edge"]
abbrev P_N_without_edges : List Str := ["self", "names"]
theorem sc_N_without_edges : FnScope N_N_without_edges P_N_without_edges (defScope st_N_without_edges) := ⟨rfl, rfl, rfl, by decide +kernel, rfl, by decide +kernel, by decide +kernel⟩
def a_N_without_edges (K : PySem.W.Frag) : Addr := He.fAd K ("Network", some "without_edges")
def d_N_without_edges : DefA := { ad := a_N_without_edges, name := "without_edges", qual := "Network.without_edges", st := st_N_without_edges }
abbrev st_N_edges_with : Stmt := inClass (top 49) 26
abbrev N_N_edges_with : List Str := ["self", "lengths", "name", "length", "edge"]
abbrev P_N_edges_with : List Str := ["self", "lengths"]
theorem sc_N_edges_with : FnScope N_N_edges_with P_N_edges_with (defScope st_N_edges_with) := ⟨rfl, rfl, rfl, by decide +kernel, rfl, by decide +kernel, by decide +kernel⟩
def a_N_edges_with (K : PySem.W.Frag) : Addr := He.fAd K ("Network", some "edges_with")
def d_N_edges_with : DefA := { ad := a_N_edges_with, name := "edges_with", qual := "Network.edges_with", st := st_N_edges_with }
abbrev st_is_change : Stmt := top 52
abbrev N_is_change : List Str := ["value"]
abbrev P_is_change : List Str := ["value"]
theorem sc_is_change : FnScope N_is_change P_is_change (defScope st_is_change) := ⟨rfl, rfl, rfl, by decide +kernel, rfl, by decide +kernel, by decide +kernel⟩
def a_is_change (K : PySem.W.Frag) : Addr := He.fAd K ("is_change", none)
def d_is_change : DefA := { ad := a_is_change, name := "is_change", qual := "is_change", st := st_is_change }
abbrev st_network_after : Stmt := top 53
abbrev N_network_after : List Str := ["network", "change", "word", "parts"]
abbrev P_network_after : List Str := ["network", "change"]
theorem sc_network_after : FnScope N_network_after P_network_after (defScope st_network_after) := ⟨rfl, rfl, rfl, by decide +kernel, rfl, by decide +kernel, by decide +kernel⟩
def a_network_after (K : PySem.W.Frag) : Addr := He.fAd K ("network_after", none)
def d_network_after : DefA := { ad := a_network_after, name := "network_after", qual := "network_after", st := st_network_after }
abbrev st_state_of : Stmt := top 54
abbrev N_state_of : List Str := ["network", "rows", "held", "past", "future", "marks", "word", "what", "turn", "before"]
abbrev P_state_of : List Str := ["network", "rows"]
theorem sc_state_of : FnScope N_state_of P_state_of (defScope st_state_of) := ⟨rfl, rfl, rfl, by decide +kernel, rfl, by decide +kernel, by decide +kernel⟩
def a_state_of (K : PySem.W.Frag) : Addr := He.fAd K ("state_of", none)
def d_state_of : DefA := { ad := a_state_of, name := "state_of", qual := "state_of", st := st_state_of }
abbrev st_B_init : Stmt := inClass (top 56) 0
abbrev N_B_init : List Str := ["self", "nodes", "edges"]
abbrev P_B_init : List Str := ["self", "nodes", "edges"]
theorem sc_B_init : FnScope N_B_init P_B_init (defScope st_B_init) := ⟨rfl, rfl, rfl, by decide +kernel, rfl, by decide +kernel, by decide +kernel⟩
def a_B_init (K : PySem.W.Frag) : Addr := He.fAd K ("Book", some "__init__")
def d_B_init : DefA := { ad := a_B_init, name := "__init__", qual := "Book.__init__", st := st_B_init, dfl := [.adr (He.dflAt ("Book", some "__init__") 0)] }
abbrev st_B_state : Stmt := inClass (top 56) 1
abbrev N_B_state : List Str := ["self"]
abbrev P_B_state : List Str := ["self"]
theorem sc_B_state : FnScope N_B_state P_B_state (defScope st_B_state) := ⟨rfl, rfl, rfl, by decide +kernel, rfl, by decide +kernel, by decide +kernel⟩
def a_B_state (K : PySem.W.Frag) : Addr := He.fAd K ("Book", some "state")
def d_B_state : DefA := { ad := a_B_state, name := "state", qual := "Book.state", st := st_B_state }
abbrev st_B_network : Stmt := inClass (top 56) 2
abbrev N_B_network : List Str := ["self"]
abbrev P_B_network : List Str := ["self"]
theorem sc_B_network : FnScope N_B_network P_B_network (defScope st_B_network) := ⟨rfl, rfl, rfl, by decide +kernel, rfl, by decide +kernel, by decide +kernel⟩
def a_B_network (K : PySem.W.Frag) : Addr := pgA K "Book" "network"
def d_B_network : DefA := { ad := a_B_network, name := "network", qual := "Book.network", st := st_B_network }
abbrev st_B_undoable : Stmt := inClass (top 56) 4
abbrev N_B_undoable : List Str := ["self"]
abbrev P_B_undoable : List Str := ["self"]
theorem sc_B_undoable : FnScope N_B_undoable P_B_undoable (defScope st_B_undoable) := ⟨rfl, rfl, rfl, by decide +kernel, rfl, by decide +kernel, by decide +kernel⟩
def a_B_undoable (K : PySem.W.Frag) : Addr := pgA K "Book" "undoable"
def d_B_undoable : DefA := { ad := a_B_undoable, name := "undoable", qual := "Book.undoable", st := st_B_undoable }
abbrev st_B_redoable : Stmt := inClass (top 56) 5
abbrev N_B_redoable : List Str := ["self"]
abbrev P_B_redoable : List Str := ["self"]
theorem sc_B_redoable : FnScope N_B_redoable P_B_redoable (defScope st_B_redoable) := ⟨rfl, rfl, rfl, by decide +kernel, rfl, by decide +kernel, by decide +kernel⟩
def a_B_redoable (K : PySem.W.Frag) : Addr := pgA K "Book" "redoable"
def d_B_redoable : DefA := { ad := a_B_redoable, name := "redoable", qual := "Book.redoable", st := st_B_redoable }
abbrev st_B_depth : Stmt := inClass (top 56) 6
abbrev N_B_depth : List Str := ["self"]
abbrev P_B_depth : List Str := ["self"]
theorem sc_B_depth : FnScope N_B_depth P_B_depth (defScope st_B_depth) := ⟨rfl, rfl, rfl, by decide +kernel, rfl, by decide +kernel, by decide +kernel⟩
def a_B_depth (K : PySem.W.Frag) : Addr := pgA K "Book" "depth"
def d_B_depth : DefA := { ad := a_B_depth, name := "depth", qual := "Book.depth", st := st_B_depth }
abbrev st_B_accept : Stmt := inClass (top 56) 7
abbrev N_B_accept : List Str := ["self", "network"]
abbrev P_B_accept : List Str := ["self", "network"]
theorem sc_B_accept : FnScope N_B_accept P_B_accept (defScope st_B_accept) := ⟨rfl, rfl, rfl, by decide +kernel, rfl, by decide +kernel, by decide +kernel⟩
def a_B_accept (K : PySem.W.Frag) : Addr := He.fAd K ("Book", some "accept")
def d_B_accept : DefA := { ad := a_B_accept, name := "accept", qual := "Book.accept", st := st_B_accept }
abbrev st_B_change : Stmt := inClass (top 56) 8
abbrev N_B_change : List Str := ["self", "changes", "index", "value", "found"]
abbrev P_B_change : List Str := ["self", "changes"]
theorem sc_B_change : FnScope N_B_change P_B_change (defScope st_B_change) := ⟨rfl, rfl, rfl, by decide +kernel, rfl, by decide +kernel, by decide +kernel⟩
def a_B_change (K : PySem.W.Frag) : Addr := He.fAd K ("Book", some "change")
def d_B_change : DefA := { ad := a_B_change, name := "change", qual := "Book.change", st := st_B_change }
abbrev st_B_need_count : Stmt := inClass (top 56) 9
abbrev N_B_need_count : List Str := ["self", "count"]
abbrev P_B_need_count : List Str := ["self", "count"]
theorem sc_B_need_count : FnScope N_B_need_count P_B_need_count (defScope st_B_need_count) := ⟨rfl, rfl, rfl, by decide +kernel, rfl, by decide +kernel, by decide +kernel⟩
def a_B_need_count (K : PySem.W.Frag) : Addr := He.fAd K ("Book", some "need_count")
def d_B_need_count : DefA := { ad := a_B_need_count, name := "need_count", qual := "Book.need_count", st := st_B_need_count }
abbrev st_B_undo : Stmt := inClass (top 56) 10
abbrev N_B_undo : List Str := ["self", "count"]
abbrev P_B_undo : List Str := ["self", "count"]
theorem sc_B_undo : FnScope N_B_undo P_B_undo (defScope st_B_undo) := ⟨rfl, rfl, rfl, by decide +kernel, rfl, by decide +kernel, by decide +kernel⟩
def a_B_undo (K : PySem.W.Frag) : Addr := He.fAd K ("Book", some "undo")
def d_B_undo : DefA := { ad := a_B_undo, name := "undo", qual := "Book.undo", st := st_B_undo, dfl := [.int 1] }
abbrev st_B_redo : Stmt := inClass (top 56) 11
abbrev N_B_redo : List Str := ["self", "count"]
abbrev P_B_redo : List Str := ["self", "count"]
theorem sc_B_redo : FnScope N_B_redo P_B_redo (defScope st_B_redo) := ⟨rfl, rfl, rfl, by decide +kernel, rfl, by decide +kernel, by decide +kernel⟩
def a_B_redo (K : PySem.W.Frag) : Addr := He.fAd K ("Book", some "redo")
def d_B_redo : DefA := { ad := a_B_redo, name := "redo", qual := "Book.redo", st := st_B_redo, dfl := [.int 1] }
abbrev st_lpen : Stmt := top 58
abbrev N_lpen : List Str := ["_law_script"]
abbrev P_lpen : List Str := ["_law_script"]
theorem sc_lpen : FnScope N_lpen P_lpen (defScope st_lpen) := ⟨rfl, rfl, rfl, by decide +kernel, rfl, by decide +kernel, by decide +kernel⟩
def a_lpen (K : PySem.W.Frag) : Addr := He.fAd K ("_law_pen", none)
def d_lpen : DefA := { ad := a_lpen, name := "_law_pen", qual := "_law_pen", st := st_lpen }
abbrev st_ldraw : Stmt := top 59
abbrev N_ldraw : List Str := ["_law_pen_here", "_law_many", "_law_digit", "_law_used", "_law_cell", "_law_mixed"]
abbrev P_ldraw : List Str := ["_law_pen_here", "_law_many"]
theorem sc_ldraw : FnScope N_ldraw P_ldraw (defScope st_ldraw) := ⟨rfl, rfl, rfl, by decide +kernel, rfl, by decide +kernel, by decide +kernel⟩
def a_ldraw (K : PySem.W.Frag) : Addr := He.fAd K ("_law_draw", none)
def d_ldraw : DefA := { ad := a_ldraw, name := "_law_draw", qual := "_law_draw", st := st_ldraw }
abbrev st_lpick : Stmt := top 60
abbrev N_lpick : List Str := ["_law_pen_here", "_law_options"]
abbrev P_lpick : List Str := ["_law_pen_here", "_law_options"]
theorem sc_lpick : FnScope N_lpick P_lpick (defScope st_lpick) := ⟨rfl, rfl, rfl, by decide +kernel, rfl, by decide +kernel, by decide +kernel⟩
def a_lpick (K : PySem.W.Frag) : Addr := He.fAd K ("_law_pick", none)
def d_lpick : DefA := { ad := a_lpick, name := "_law_pick", qual := "_law_pick", st := st_lpick }
abbrev st_lshuffled : Stmt := top 61
abbrev N_lshuffled : List Str := ["_law_pen_here", "_law_items", "_law_rest", "_law_found"]
abbrev P_lshuffled : List Str := ["_law_pen_here", "_law_items"]
theorem sc_lshuffled : FnScope N_lshuffled P_lshuffled (defScope st_lshuffled) := ⟨rfl, rfl, rfl, by decide +kernel, rfl, by decide +kernel, by decide +kernel⟩
def a_lshuffled (K : PySem.W.Frag) : Addr := He.fAd K ("_law_shuffled", none)
def d_lshuffled : DefA := { ad := a_lshuffled, name := "_law_shuffled", qual := "_law_shuffled", st := st_lshuffled }
abbrev st_lnames : Stmt := top 62
abbrev N_lnames : List Str := ["_law_pen_here", "_law_many", "_law_letters", "_law_stem", "_law_at", "_law_cut", "_law_first", "_law_step_here", "_law_found", "_law_k", "_law_told", "_law_tail"]
abbrev P_lnames : List Str := ["_law_pen_here", "_law_many"]
theorem sc_lnames : FnScope N_lnames P_lnames (defScope st_lnames) := ⟨rfl, rfl, rfl, by decide +kernel, rfl, by decide +kernel, by decide +kernel⟩
def a_lnames (K : PySem.W.Frag) : Addr := He.fAd K ("_law_names", none)
def d_lnames : DefA := { ad := a_lnames, name := "_law_names", qual := "_law_names", st := st_lnames }
abbrev st_lsmall : Stmt := top 63
abbrev N_lsmall : List Str := ["_law_pen_here", "_law_least", "_law_most", "_law_wide", "_law_nodes", "_law_shape", "_law_edges", "_law_many", "_law_ends", "_law_turn", "_law_below", "_law_bound", "_law_names_here", "_law_k", "_law_length"]
abbrev P_lsmall : List Str := ["_law_pen_here", "_law_least", "_law_most", "_law_wide"]
theorem sc_lsmall : FnScope N_lsmall P_lsmall (defScope st_lsmall) := ⟨rfl, rfl, rfl, by decide +kernel, rfl, by decide +kernel, by decide +kernel⟩
def a_lsmall (K : PySem.W.Frag) : Addr := He.fAd K ("_law_small", none)
def d_lsmall : DefA := { ad := a_lsmall, name := "_law_small", qual := "_law_small", st := st_lsmall }
abbrev st_lfits : Stmt := top 64
abbrev N_lfits : List Str := ["_law_edges", "_law_ends_met", "_law_name", "_law_u", "_law_v", "_law_length", "_law_node"]
abbrev P_lfits : List Str := ["_law_edges"]
theorem sc_lfits : FnScope N_lfits P_lfits (defScope st_lfits) := ⟨rfl, rfl, rfl, by decide +kernel, rfl, by decide +kernel, by decide +kernel⟩
def a_lfits (K : PySem.W.Frag) : Addr := He.fAd K ("_law_fits", none)
def d_lfits : DefA := { ad := a_lfits, name := "_law_fits", qual := "_law_fits", st := st_lfits }
abbrev st_lis_between : Stmt := top 65
abbrev N_lis_between : List Str := ["_law_value", "_law_low", "_law_high"]
abbrev P_lis_between : List Str := ["_law_value", "_law_low", "_law_high"]
theorem sc_lis_between : FnScope N_lis_between P_lis_between (defScope st_lis_between) := ⟨rfl, rfl, rfl, by decide +kernel, rfl, by decide +kernel, by decide +kernel⟩
def a_lis_between (K : PySem.W.Frag) : Addr := He.fAd K ("_law_is_between", none)
def d_lis_between : DefA := { ad := a_lis_between, name := "_law_is_between", qual := "_law_is_between", st := st_lis_between }
abbrev st_lis_name : Stmt := top 66
abbrev N_lis_name : List Str := ["_law_value", "_law_letters", "_law_sign"]
abbrev P_lis_name : List Str := ["_law_value"]
theorem sc_lis_name : FnScope N_lis_name P_lis_name (defScope st_lis_name) := ⟨rfl, rfl, rfl, by decide +kernel, rfl, by decide +kernel, by decide +kernel⟩
def a_lis_name (K : PySem.W.Frag) : Addr := He.fAd K ("_law_is_name", none)
def d_lis_name : DefA := { ad := a_lis_name, name := "_law_is_name", qual := "_law_is_name", st := st_lis_name }
abbrev st_lis_edge : Stmt := top 67
abbrev N_lis_edge : List Str := ["_law_value", "_law_nodes", "_law_part"]
abbrev P_lis_edge : List Str := ["_law_value", "_law_nodes"]
theorem sc_lis_edge : FnScope N_lis_edge P_lis_edge (defScope st_lis_edge) := ⟨rfl, rfl, rfl, by decide +kernel, rfl, by decide +kernel, by decide +kernel⟩
def a_lis_edge (K : PySem.W.Frag) : Addr := He.fAd K ("_law_is_edge", none)
def d_lis_edge : DefA := { ad := a_lis_edge, name := "_law_is_edge", qual := "_law_is_edge", st := st_lis_edge }
abbrev st_lwrong_node : Stmt := top 68
abbrev N_lwrong_node : List Str := ["_law_nodes", "_law_k"]
abbrev P_lwrong_node : List Str := ["_law_nodes"]
theorem sc_lwrong_node : FnScope N_lwrong_node P_lwrong_node (defScope st_lwrong_node) := ⟨rfl, rfl, rfl, by decide +kernel, rfl, by decide +kernel, by decide +kernel⟩
def a_lwrong_node (K : PySem.W.Frag) : Addr := He.fAd K ("_law_wrong_node", none)
def d_lwrong_node : DefA := { ad := a_lwrong_node, name := "_law_wrong_node", qual := "_law_wrong_node", st := st_lwrong_node }
abbrev st_lwrong_edge : Stmt := top 69
abbrev N_lwrong_edge : List Str := ["_law_edges", "_law_nodes", "_law_k", "_law_edge"]
abbrev P_lwrong_edge : List Str := ["_law_edges", "_law_nodes"]
theorem sc_lwrong_edge : FnScope N_lwrong_edge P_lwrong_edge (defScope st_lwrong_edge) := ⟨rfl, rfl, rfl, by decide +kernel, rfl, by decide +kernel, by decide +kernel⟩
def a_lwrong_edge (K : PySem.W.Frag) : Addr := He.fAd K ("_law_wrong_edge", none)
def d_lwrong_edge : DefA := { ad := a_lwrong_edge, name := "_law_wrong_edge", qual := "_law_wrong_edge", st := st_lwrong_edge }
abbrev st_ldue : Stmt := top 70
abbrev N_ldue : List Str := ["_law_nodes", "_law_edges", "_law_wrong"]
abbrev P_ldue : List Str := ["_law_nodes", "_law_edges"]
theorem sc_ldue : FnScope N_ldue P_ldue (defScope st_ldue) := ⟨rfl, rfl, rfl, by decide +kernel, rfl, by decide +kernel, by decide +kernel⟩
def a_ldue (K : PySem.W.Frag) : Addr := He.fAd K ("_law_due", none)
def d_ldue : DefA := { ad := a_ldue, name := "_law_due", qual := "_law_due", st := st_ldue }
abbrev st_lrows : Stmt := top 71
abbrev N_lrows : List Str := ["_law_network", "_law_edges", "_law_name", "_law_u", "_law_v", "_law_length"]
abbrev P_lrows : List Str := ["_law_network"]
theorem sc_lrows : FnScope N_lrows P_lrows (defScope st_lrows) := ⟨rfl, rfl, rfl, by decide +kernel, rfl, by decide +kernel, by decide +kernel⟩
def a_lrows (K : PySem.W.Frag) : Addr := He.fAd K ("_law_rows", none)
def d_lrows : DefA := { ad := a_lrows, name := "_law_rows", qual := "_law_rows", st := st_lrows }
abbrev st_lshows : Stmt := top 72
abbrev N_lshows : List Str := ["_law_house", "_law_network", "_law_nodes", "_law_edges", "_law_edge"]
abbrev P_lshows : List Str := ["_law_house", "_law_network"]
theorem sc_lshows : FnScope N_lshows P_lshows (defScope st_lshows) := ⟨rfl, rfl, rfl, by decide +kernel, rfl, by decide +kernel, by decide +kernel⟩
def a_lshows (K : PySem.W.Frag) : Addr := He.fAd K ("_law_shows", none)
def d_lshows : DefA := { ad := a_lshows, name := "_law_shows", qual := "_law_shows", st := st_lshows }
abbrev st_lodd : Stmt := top 73
abbrev N_lodd : List Str := ["_law_pen_here", "_law_some"]
abbrev P_lodd : List Str := ["_law_pen_here"]
theorem sc_lodd : FnScope N_lodd P_lodd (defScope st_lodd) := ⟨rfl, rfl, rfl, by decide +kernel, rfl, by decide +kernel, by decide +kernel⟩
def a_lodd (K : PySem.W.Frag) : Addr := He.fAd K ("_law_odd", none)
def d_lodd : DefA := { ad := a_lodd, name := "_law_odd", qual := "_law_odd", st := st_lodd }
abbrev st_lis_change : Stmt := top 74
abbrev N_lis_change : List Str := ["_law_value", "_law_forms"]
abbrev P_lis_change : List Str := ["_law_value"]
theorem sc_lis_change : FnScope N_lis_change P_lis_change (defScope st_lis_change) := ⟨rfl, rfl, rfl, by decide +kernel, rfl, by decide +kernel, by decide +kernel⟩
def a_lis_change (K : PySem.W.Frag) : Addr := He.fAd K ("_law_is_change", none)
def d_lis_change : DefA := { ad := a_lis_change, name := "_law_is_change", qual := "_law_is_change", st := st_lis_change }
abbrev st_lone_changed : Stmt := top 75
abbrev N_lone_changed : List Str := ["_law_network", "_law_change_here", "_law_word", "_law_value", "_law_nodes", "_law_edges", "_law_left", "_law_rest", "_law_later", "_law_edge", "_law_node"]
abbrev P_lone_changed : List Str := ["_law_network", "_law_change_here"]
theorem sc_lone_changed : FnScope N_lone_changed P_lone_changed (defScope st_lone_changed) := ⟨rfl, rfl, rfl, by decide +kernel, rfl, by decide +kernel, by decide +kernel⟩
def a_lone_changed (K : PySem.W.Frag) : Addr := He.fAd K ("_law_one_changed", none)
def d_lone_changed : DefA := { ad := a_lone_changed, name := "_law_one_changed", qual := "_law_one_changed", st := st_lone_changed }
abbrev st_lchanged : Stmt := top 76
abbrev N_lchanged : List Str := ["_law_network", "_law_changes", "_law_k", "_law_now", "_law_change_here", "_law_due_here"]
abbrev P_lchanged : List Str := ["_law_network", "_law_changes"]
theorem sc_lchanged : FnScope N_lchanged P_lchanged (defScope st_lchanged) := ⟨rfl, rfl, rfl, by decide +kernel, rfl, by decide +kernel, by decide +kernel⟩
def a_lchanged (K : PySem.W.Frag) : Addr := He.fAd K ("_law_changed", none)
def d_lchanged : DefA := { ad := a_lchanged, name := "_law_changed", qual := "_law_changed", st := st_lchanged }
abbrev st_lchange : Stmt := top 77
abbrev N_lchange : List Str := ["_law_pen_here", "_law_network", "_law_pool", "_law_nodes", "_law_names_here", "_law_odd_here", "_law_word", "_law_length", "_law_u", "_law_v", "_law_name", "_law_some", "_law_edge"]
abbrev P_lchange : List Str := ["_law_pen_here", "_law_network", "_law_pool"]
theorem sc_lchange : FnScope N_lchange P_lchange (defScope st_lchange) := ⟨rfl, rfl, rfl, by decide +kernel, rfl, by decide +kernel, by decide +kernel⟩
def a_lchange (K : PySem.W.Frag) : Addr := He.fAd K ("_law_change", none)
def d_lchange : DefA := { ad := a_lchange, name := "_law_change", qual := "_law_change", st := st_lchange }
abbrev st_lmake : Stmt := top 78
abbrev N_lmake : List Str := ["_law_book", "_law_changes", "_law_one", "_law_other"]
abbrev P_lmake : List Str := ["_law_book", "_law_changes"]
theorem sc_lmake : FnScope N_lmake P_lmake (defScope st_lmake) := ⟨rfl, rfl, rfl, by decide +kernel, rfl, by decide +kernel, by decide +kernel⟩
def a_lmake (K : PySem.W.Frag) : Addr := He.fAd K ("_law_make", none)
def d_lmake : DefA := { ad := a_lmake, name := "_law_make", qual := "_law_make", st := st_lmake }
abbrev st_lstate : Stmt := top 79
abbrev N_lstate : List Str := ["_law_network"]
abbrev P_lstate : List Str := ["_law_network"]
theorem sc_lstate : FnScope N_lstate P_lstate (defScope st_lstate) := ⟨rfl, rfl, rfl, by decide +kernel, rfl, by decide +kernel, by decide +kernel⟩
def a_lstate (K : PySem.W.Frag) : Addr := He.fAd K ("_law_state", none)
def d_lstate : DefA := { ad := a_lstate, name := "_law_state", qual := "_law_state", st := st_lstate }
abbrev st_lstands : Stmt := top 80
abbrev N_lstands : List Str := ["_law_book", "_law_state_here", "_law_counts"]
abbrev P_lstands : List Str := ["_law_book", "_law_state_here"]
theorem sc_lstands : FnScope N_lstands P_lstands (defScope st_lstands) := ⟨rfl, rfl, rfl, by decide +kernel, rfl, by decide +kernel, by decide +kernel⟩
def a_lstands (K : PySem.W.Frag) : Addr := He.fAd K ("_law_stands", none)
def d_lstands : DefA := { ad := a_lstands, name := "_law_stands", qual := "_law_stands", st := st_lstands }
abbrev st_lstep : Stmt := top 81
abbrev N_lstep : List Str := ["_law_state_here", "_law_later"]
abbrev P_lstep : List Str := ["_law_state_here", "_law_later"]
theorem sc_lstep : FnScope N_lstep P_lstep (defScope st_lstep) := ⟨rfl, rfl, rfl, by decide +kernel, rfl, by decide +kernel, by decide +kernel⟩
def a_lstep (K : PySem.W.Frag) : Addr := He.fAd K ("_law_step", none)
def d_lstep : DefA := { ad := a_lstep, name := "_law_step", qual := "_law_step", st := st_lstep }
abbrev st_lfault : Stmt := top 82
abbrev N_lfault : List Str := ["_law_caught", "_law_kinds", "_law_under", "_law_at", "_law_field", "_law_k"]
abbrev P_lfault : List Str := ["_law_caught"]
theorem sc_lfault : FnScope N_lfault P_lfault (defScope st_lfault) := ⟨rfl, rfl, rfl, by decide +kernel, rfl, by decide +kernel, by decide +kernel⟩
def a_lfault (K : PySem.W.Frag) : Addr := He.fAd K ("_law_fault", none)
def d_lfault : DefA := { ad := a_lfault, name := "_law_fault", qual := "_law_fault", st := st_lfault }
abbrev st_lreplied : Stmt := top 83
abbrev N_lreplied : List Str := ["_law_call", "_law_found", "e"]
abbrev P_lreplied : List Str := ["_law_call"]
theorem sc_lreplied : FnScope N_lreplied P_lreplied (defScope st_lreplied) := ⟨rfl, rfl, rfl, by decide +kernel, rfl, by decide +kernel, by decide +kernel⟩
def a_lreplied (K : PySem.W.Frag) : Addr := He.fAd K ("_law_replied", none)
def d_lreplied : DefA := { ad := a_lreplied, name := "_law_replied", qual := "_law_replied", st := st_lreplied }
abbrev st_ldue_back : Stmt := top 84
abbrev N_ldue_back : List Str := ["_law_state_here", "_law_word", "_law_many", "_law_some", "_law_other", "_law_k"]
abbrev P_ldue_back : List Str := ["_law_state_here", "_law_word", "_law_many"]
theorem sc_ldue_back : FnScope N_ldue_back P_ldue_back (defScope st_ldue_back) := ⟨rfl, rfl, rfl, by decide +kernel, rfl, by decide +kernel, by decide +kernel⟩
def a_ldue_back (K : PySem.W.Frag) : Addr := He.fAd K ("_law_due_back", none)
def d_ldue_back : DefA := { ad := a_ldue_back, name := "_law_due_back", qual := "_law_due_back", st := st_ldue_back }
abbrev st_lback : Stmt := top 85
abbrev N_lback : List Str := ["_law_book", "_law_word", "_law_many", "_law_way"]
abbrev P_lback : List Str := ["_law_book", "_law_word", "_law_many", "_law_way"]
theorem sc_lback : FnScope N_lback P_lback (defScope st_lback) := ⟨rfl, rfl, rfl, by decide +kernel, rfl, by decide +kernel, by decide +kernel⟩
def a_lback (K : PySem.W.Frag) : Addr := He.fAd K ("_law_back", none)
def d_lback : DefA := { ad := a_lback, name := "_law_back", qual := "_law_back", st := st_lback }
abbrev st_lmoved : Stmt := top 86
abbrev N_lmoved : List Str := ["_law_pen_here", "_law_book", "_law_state_here", "_law_pool", "_law_changes", "_law_due_here", "_law_later", "_law_word", "_law_way", "_law_far", "_law_many", "_law_k"]
abbrev P_lmoved : List Str := ["_law_pen_here", "_law_book", "_law_state_here", "_law_pool"]
theorem sc_lmoved : FnScope N_lmoved P_lmoved (defScope st_lmoved) := ⟨rfl, rfl, rfl, by decide +kernel, rfl, by decide +kernel, by decide +kernel⟩
def a_lmoved (K : PySem.W.Frag) : Addr := He.fAd K ("_law_moved", none)
def d_lmoved : DefA := { ad := a_lmoved, name := "_law_moved", qual := "_law_moved", st := st_lmoved }
abbrev st_lall_back : Stmt := top 87
abbrev N_lall_back : List Str := ["_law_book", "_law_state_here"]
abbrev P_lall_back : List Str := ["_law_book", "_law_state_here"]
theorem sc_lall_back : FnScope N_lall_back P_lall_back (defScope st_lall_back) := ⟨rfl, rfl, rfl, by decide +kernel, rfl, by decide +kernel, by decide +kernel⟩
def a_lall_back (K : PySem.W.Frag) : Addr := He.fAd K ("_law_all_back", none)
def d_lall_back : DefA := { ad := a_lall_back, name := "_law_all_back", qual := "_law_all_back", st := st_lall_back }
abbrev st_llaw : Stmt := top 88
abbrev N_llaw : List Str := ["_law_script", "_law_pen_here", "_law_turn", "_law_network", "_law_pool", "_law_book", "_law_state_here", "_law_k", "_law_odd_here", "_law_word"]
abbrev P_llaw : List Str := ["_law_script"]
theorem sc_llaw : FnScope N_llaw P_llaw (defScope st_llaw) := ⟨rfl, rfl, rfl, by decide +kernel, rfl, by decide +kernel, by decide +kernel⟩
def a_llaw (K : PySem.W.Frag) : Addr := He.fAd K ("law", none)
def d_llaw : DefA := { ad := a_llaw, name := "law", qual := "law", st := st_llaw }
abbrev st_InvalidNode : Stmt := inClass (top 18) 0
def e_InvalidNode : DefE := { cls := "InvalidNode", qual := "InvalidNode.__init__", st := st_InvalidNode }
abbrev st_InvalidEdge : Stmt := inClass (top 19) 0
def e_InvalidEdge : DefE := { cls := "InvalidEdge", qual := "InvalidEdge.__init__", st := st_InvalidEdge }
abbrev st_InvalidLength : Stmt := inClass (top 20) 0
def e_InvalidLength : DefE := { cls := "InvalidLength", qual := "InvalidLength.__init__", st := st_InvalidLength }
abbrev st_InvalidChange : Stmt := inClass (top 22) 0
def e_InvalidChange : DefE := { cls := "InvalidChange", qual := "InvalidChange.__init__", st := st_InvalidChange }
abbrev st_UnknownNode : Stmt := inClass (top 23) 0
def e_UnknownNode : DefE := { cls := "UnknownNode", qual := "UnknownNode.__init__", st := st_UnknownNode }
abbrev st_UnknownEdge : Stmt := inClass (top 24) 0
def e_UnknownEdge : DefE := { cls := "UnknownEdge", qual := "UnknownEdge.__init__", st := st_UnknownEdge }
abbrev st_OutOfRange : Stmt := inClass (top 25) 0
def e_OutOfRange : DefE := { cls := "OutOfRange", qual := "OutOfRange.__init__", st := st_OutOfRange }
abbrev st_TooMany : Stmt := inClass (top 26) 0
def e_TooMany : DefE := { cls := "TooMany", qual := "TooMany.__init__", st := st_TooMany }
def excs : List DefE := [e_InvalidNode, e_InvalidEdge, e_InvalidLength, e_InvalidChange, e_UnknownNode, e_UnknownEdge, e_OutOfRange, e_TooMany]
def defs1 : List DefA := [d_is_integer, d_is_between, d_is_list, d_is_name, d_is_length, d_is_edge, d_odd_nodes, d_negative_edges, d_checked_nodes, d_checked_edges, d_first_unknown, d_N_init, d_N_nodes, d_N_edges, d_N_names, d_N_len, d_N_need_edge, d_N_with_nodes, d_N_with_edges, d_N_without_nodes, d_N_without_edges, d_N_edges_with, d_is_change, d_network_after, d_state_of, d_B_init, d_B_state, d_B_network, d_B_undoable, d_B_redoable]
def defs2 : List DefA := [d_B_depth, d_B_accept, d_B_change, d_B_need_count, d_B_undo, d_B_redo, d_lpen, d_ldraw, d_lpick, d_lshuffled, d_lnames, d_lsmall, d_lfits, d_lis_between, d_lis_name, d_lis_edge, d_lwrong_node, d_lwrong_edge, d_ldue, d_lrows, d_lshows, d_lodd, d_lis_change, d_lone_changed, d_lchanged, d_lchange, d_lmake, d_lstate, d_lstands, d_lstep]
def defs3 : List DefA := [d_lfault, d_lreplied, d_ldue_back, d_lback, d_lmoved, d_lall_back, d_llaw]
def defs : List DefA := defs1 ++ (defs2 ++ defs3)
/-! ### what is asked -/
def gloL1 : List Str := ["is_integer", "is_between", "is_list", "is_name", "is_length", "is_edge", "odd_nodes", "negative_edges", "checked_nodes", "checked_edges", "first_unknown", "is_change", "network_after", "state_of", "_law_pen", "_law_draw", "_law_pick", "_law_shuffled", "_law_names", "_law_small"]
def gloL2 : List Str := ["_law_fits", "_law_is_between", "_law_is_name", "_law_is_edge", "_law_wrong_node", "_law_wrong_edge", "_law_due", "_law_rows", "_law_shows", "_law_odd", "_law_is_change", "_law_one_changed", "_law_changed", "_law_change", "_law_make", "_law_state", "_law_stands", "_law_step", "_law_fault", "_law_replied"]
def gloL3 : List Str := ["_law_due_back", "_law_back", "_law_moved", "_law_all_back", "law", "InvalidNode", "InvalidEdge", "InvalidLength", "InvalidChange", "UnknownNode", "UnknownEdge", "OutOfRange", "TooMany", "NothingToUndo", "NothingToRedo", "InTrial", "Network", "Book", "FORMS"]
def gloL : List Str := gloL1 ++ (gloL2 ++ gloL3)
def freeL : List Str := ["len", "range", "list", "tuple", "isinstance", "int", "bool", "str", "abs", "sorted", "min", "max", "repr", "all", "enumerate", "super", "ValueError", "OverflowError", "KeyError", "IndexError", "RuntimeError"]
def facL : List He.Fa := [.int "MAX_NODES_HERE" 40, .int "MAX_EDGES_HERE" 100, .int "MAX_LENGTH" 1000000, .int "MAX_ODD_HERE" 10, .int "MAX_NAME" 8, .str "LETTERS" "abcdefghijklmnopqrstuvwxyz",
  .cls "Network", .cls "Book", .noat "Network" "own_nodes", .noat "Network" "own_edges", .noat "Network" "by_name", .noat "Book" "first", .noat "Book" "deeds", .mkr "Network", .mkr "Book",
  .meth "Network" "need_edge", .meth "Network" "with_nodes", .meth "Network" "with_edges", .meth "Network" "without_nodes", .meth "Network" "without_edges", .meth "Network" "edges_with", .meth "Network" "__len__",
  .meth "Book" "state", .meth "Book" "accept", .meth "Book" "change", .meth "Book" "need_count", .meth "Book" "undo", .meth "Book" "redo"]
def propB (c m : Str) (K : PySem.W.Frag) : Bool := He.eqO (PySem.W.findIn K (.ref (He.ga K c)) m) (some (some (.ref (He.ma K (He.ga K c) m)))) && (He.eqO (PySem.W.specialIn K (.ref (He.ma K (He.ga K c) m)) "__get__") (some (some (.builtin "property.__get__"))) &&
  (decide (PySem.W.takesIn K (.ref (He.ma K (He.ga K c) m)) = some true) && match PySem.W.recIn K (He.ma K (He.ga K c) m) "property" with
    | some (.ref _ :: _) => true
    | _ => false))
theorem propB_ok {K : PySem.W.Frag} {c m : Str} (h : propB c m K = true) : PropOf K (He.ga K c) m (He.ma K (He.ga K c) m) (pgA K c m) := by
  obtain ⟨h1, h⟩ := He.ba h
  obtain ⟨h2, h⟩ := He.ba h
  obtain ⟨h3, h4⟩ := He.ba h
  refine ⟨He.eqO_ok h1, He.eqO_ok h2, of_decide_eq_true h3, ?_⟩
  unfold pgA
  cases q : PySem.W.recIn K (He.ma K (He.ga K c) m) "property" with
  | none => rw [q] at h4; cases h4
  | some l =>
    rw [q] at h4
    cases l with
    | nil => cases h4
    | cons v r =>
      cases v with
      | ref g => exact ⟨r, rfl⟩
      | _ => cases h4
def propL : List (Str × Str) := [("Network", "nodes"), ("Network", "edges"), ("Network", "names"), ("Book", "network"), ("Book", "undoable"), ("Book", "redoable"), ("Book", "depth")]
def formsL : List (Str × He.Dv) := [("node", .int 2), ("drop", .int 2), ("edge", .int 5), ("cut", .int 2), ("length", .int 3)]
/-- the bits of the heap behind the top that the walk leans on -/
def exB (K : PySem.W.Frag) : Bool := (propL.all fun p => propB p.1 p.2 K) && He.valsB K (He.ga K "FORMS") formsL
def allB (K : PySem.W.Frag) : Bool := (gloL.all fun x => He.Fa.ok K (.glo x)) && ((freeL.all fun x => He.Fa.ok K (.free x)) && ((facL.all fun f => f.ok K) && ((defs.all fun d => d.ok K) && (exB K && excs.all fun d => d.ok K))))
structure Tx (w : World) (K : PySem.W.Frag) (mg : Str → Option Value) : Prop where
  mgS : ∀ x v, PySem.W.nsIn K mainGlobals x = some (some v) → mg x = some v
  mgN : ∀ x, PySem.W.nsIn K mainGlobals x = some none → mg x = none
  fns : (defs.map fun d => fnA K (d.ad K)) = defs.map DefA.val
  fnsE : (excs.map fun d => fnE K (aE K d.cls)) = excs.map DefE.val
  all : allB K = true
  forms : ∃ es n, KDict K w (He.ga K "FORMS") es n
section
variable {w : World} {K : PySem.W.Frag} {mg : Str → Option Value}
theorem Tx.glo (T : Tx w K mg) (i : Nat) {x : Str} (h : gloL[i]? = some x := by rfl) : mg x = some (.ref (He.ga K x)) :=
  T.mgS x _ (He.eqO_ok (List.all_eq_true.mp (He.ba T.all).1 x (List.mem_of_getElem? h)))
theorem Tx.free (T : Tx w K mg) (i : Nat) {x : Str} (h : freeL[i]? = some x := by rfl) : mg x = none :=
  T.mgN x (He.eqO_ok (List.all_eq_true.mp (He.ba (He.ba T.all).2).1 x (List.mem_of_getElem? h)))
theorem Tx.fac (T : Tx w K mg) (i : Nat) {f : He.Fa} (h : facL[i]? = some f := by rfl) : f.ok K = true :=
  List.all_eq_true.mp (He.ba (He.ba (He.ba T.all).2).2).1 f (List.mem_of_getElem? h)
theorem Tx.def_ (T : Tx w K mg) (i : Nat) {d : DefA} (h : defs[i]? = some d := by rfl) : FunD K d.name d.qual (defArgs d.st) (defBody d.st) (defScope d.st) (d.dvs K) [] (d.ad K) (fdA K (d.ad K)) := by
  have e2 : (defs.map fun d => fnA K (d.ad K))[i]? = (defs.map DefA.val)[i]? := by rw [T.fns]
  rw [List.getElem?_map, List.getElem?_map, h] at e2
  exact DefA.funD (Option.some.inj e2) (List.all_eq_true.mp (He.ba (He.ba (He.ba (He.ba T.all).2).2).2).1 d (List.mem_of_getElem? h))
theorem Tx.ex (T : Tx w K mg) : exB K = true := (He.ba (He.ba (He.ba (He.ba (He.ba T.all).2).2).2).2).1
theorem Tx.exc (T : Tx w K mg) (i : Nat) {d : DefE} (h : excs[i]? = some d := by rfl) : d.ok K = true ∧ fnE K (aE K d.cls) = d.val := by
  refine ⟨List.all_eq_true.mp (He.ba (He.ba (He.ba (He.ba (He.ba T.all).2).2).2).2).2 d (List.mem_of_getElem? h), ?_⟩
  have e2 : (excs.map fun d => fnE K (aE K d.cls))[i]? = (excs.map DefE.val)[i]? := by rw [T.fnsE]
  rw [List.getElem?_map, List.getElem?_map, h] at e2
  exact Option.some.inj e2
theorem Tx.prop (T : Tx w K mg) (i : Nat) {c m : Str} (h : propL[i]? = some (c, m) := by rfl) : PropOf K (He.ga K c) m (He.ma K (He.ga K c) m) (pgA K c m) :=
  propB_ok (List.all_eq_true.mp (He.ba T.ex).1 (c, m) (List.mem_of_getElem? h))
theorem Tx.int_ (T : Tx w K mg) {x : Str} {i : Int} (c : (He.Fa.int x i).ok K = true) : ∃ t, mg x = some (.int i t) := by
  have c2 : (match PySem.W.nsIn K mainGlobals x with
    | some (some (.int j _)) => decide (j = i)
    | _ => false) = true := c
  split at c2
  · rename_i j t e
    rw [of_decide_eq_true c2] at e
    exact ⟨t, T.mgS _ _ e⟩
  · cases c2
theorem Tx.str_ (T : Tx w K mg) {x z : Str} (c : (He.Fa.str x z).ok K = true) : ∃ t, mg x = some (.str z t) := by
  have c2 : (match PySem.W.nsIn K mainGlobals x with
    | some (some (.str y _)) => decide (y = z)
    | _ => false) = true := c
  split at c2
  · rename_i y t e
    rw [of_decide_eq_true c2] at e
    exact ⟨t, T.mgS _ _ e⟩
  · cases c2
theorem Tx.c_MAX_NODES_HERE (T : Tx w K mg) : ∃ t, mg "MAX_NODES_HERE" = some (.int 40 t) := T.int_ (T.fac 0)
theorem Tx.c_MAX_EDGES_HERE (T : Tx w K mg) : ∃ t, mg "MAX_EDGES_HERE" = some (.int 100 t) := T.int_ (T.fac 1)
theorem Tx.c_MAX_LENGTH (T : Tx w K mg) : ∃ t, mg "MAX_LENGTH" = some (.int 1000000 t) := T.int_ (T.fac 2)
theorem Tx.c_MAX_ODD_HERE (T : Tx w K mg) : ∃ t, mg "MAX_ODD_HERE" = some (.int 10 t) := T.int_ (T.fac 3)
theorem Tx.c_MAX_NAME (T : Tx w K mg) : ∃ t, mg "MAX_NAME" = some (.int 8 t) := T.int_ (T.fac 4)
theorem Tx.c_LETTERS (T : Tx w K mg) : ∃ t, mg "LETTERS" = some (.str "abcdefghijklmnopqrstuvwxyz" t) := T.str_ (T.fac 5)
abbrev CN (K : PySem.W.Frag) : Addr := He.ga K "Network"
abbrev CB (K : PySem.W.Frag) : Addr := He.ga K "Book"
theorem Tx.clN (T : Tx w K mg) : Cls K (CN K) := He.cls_ok (T.fac 6)
theorem Tx.clB (T : Tx w K mg) : Cls K (CB K) := He.cls_ok (T.fac 7)
theorem Tx.n_own_nodes (T : Tx w K mg) : NoAttr K (CN K) "own_nodes" := He.noat_ok (T.fac 8)
theorem Tx.n_own_edges (T : Tx w K mg) : NoAttr K (CN K) "own_edges" := He.noat_ok (T.fac 9)
theorem Tx.n_by_name (T : Tx w K mg) : NoAttr K (CN K) "by_name" := He.noat_ok (T.fac 10)
theorem Tx.n_first (T : Tx w K mg) : NoAttr K (CB K) "first" := He.noat_ok (T.fac 11)
theorem Tx.n_deeds (T : Tx w K mg) : NoAttr K (CB K) "deeds" := He.noat_ok (T.fac 12)
abbrev f_is_integer (K : PySem.W.Frag) : FuncData := fdA K (a_is_integer K)
theorem Tx.d_is_integer (T : Tx w K mg) : FunD K "is_integer" "is_integer" (defArgs st_is_integer) (defBody st_is_integer) (defScope st_is_integer) (d_is_integer.dvs K) [] (a_is_integer K) (f_is_integer K) := T.def_ 0
theorem Tx.k_is_integer (T : Tx w K mg) : PySem.W.keepIn K (.ref (a_is_integer K)) = true := T.d_is_integer.kp
theorem Tx.b_is_integer (T : Tx w K mg) : Binds K (f_is_integer K) P_is_integer [] := FunD.bindsN (ps := P_is_integer) T.d_is_integer fun _ _ _ _ _ _ us hl => match us, hl with | [_], _ => rfl
abbrev f_is_between (K : PySem.W.Frag) : FuncData := fdA K (a_is_between K)
theorem Tx.d_is_between (T : Tx w K mg) : FunD K "is_between" "is_between" (defArgs st_is_between) (defBody st_is_between) (defScope st_is_between) (d_is_between.dvs K) [] (a_is_between K) (f_is_between K) := T.def_ 1
theorem Tx.k_is_between (T : Tx w K mg) : PySem.W.keepIn K (.ref (a_is_between K)) = true := T.d_is_between.kp
theorem Tx.b_is_between (T : Tx w K mg) : Binds K (f_is_between K) P_is_between [] := FunD.bindsN (ps := P_is_between) T.d_is_between fun _ _ _ _ _ _ us hl => match us, hl with | [_, _, _], _ => rfl
abbrev f_is_list (K : PySem.W.Frag) : FuncData := fdA K (a_is_list K)
theorem Tx.d_is_list (T : Tx w K mg) : FunD K "is_list" "is_list" (defArgs st_is_list) (defBody st_is_list) (defScope st_is_list) (d_is_list.dvs K) [] (a_is_list K) (f_is_list K) := T.def_ 2
theorem Tx.k_is_list (T : Tx w K mg) : PySem.W.keepIn K (.ref (a_is_list K)) = true := T.d_is_list.kp
theorem Tx.b_is_list (T : Tx w K mg) : Binds K (f_is_list K) P_is_list [] := FunD.bindsN (ps := P_is_list) T.d_is_list fun _ _ _ _ _ _ us hl => match us, hl with | [_], _ => rfl
abbrev f_is_name (K : PySem.W.Frag) : FuncData := fdA K (a_is_name K)
theorem Tx.d_is_name (T : Tx w K mg) : FunD K "is_name" "is_name" (defArgs st_is_name) (defBody st_is_name) (defScope st_is_name) (d_is_name.dvs K) [] (a_is_name K) (f_is_name K) := T.def_ 3
theorem Tx.k_is_name (T : Tx w K mg) : PySem.W.keepIn K (.ref (a_is_name K)) = true := T.d_is_name.kp
theorem Tx.b_is_name (T : Tx w K mg) : Binds K (f_is_name K) P_is_name [] := FunD.bindsN (ps := P_is_name) T.d_is_name fun _ _ _ _ _ _ us hl => match us, hl with | [_], _ => rfl
abbrev f_is_length (K : PySem.W.Frag) : FuncData := fdA K (a_is_length K)
theorem Tx.d_is_length (T : Tx w K mg) : FunD K "is_length" "is_length" (defArgs st_is_length) (defBody st_is_length) (defScope st_is_length) (d_is_length.dvs K) [] (a_is_length K) (f_is_length K) := T.def_ 4
theorem Tx.k_is_length (T : Tx w K mg) : PySem.W.keepIn K (.ref (a_is_length K)) = true := T.d_is_length.kp
theorem Tx.b_is_length (T : Tx w K mg) : Binds K (f_is_length K) P_is_length [] := FunD.bindsN (ps := P_is_length) T.d_is_length fun _ _ _ _ _ _ us hl => match us, hl with | [_], _ => rfl
abbrev f_is_edge (K : PySem.W.Frag) : FuncData := fdA K (a_is_edge K)
theorem Tx.d_is_edge (T : Tx w K mg) : FunD K "is_edge" "is_edge" (defArgs st_is_edge) (defBody st_is_edge) (defScope st_is_edge) (d_is_edge.dvs K) [] (a_is_edge K) (f_is_edge K) := T.def_ 5
theorem Tx.k_is_edge (T : Tx w K mg) : PySem.W.keepIn K (.ref (a_is_edge K)) = true := T.d_is_edge.kp
theorem Tx.b_is_edge (T : Tx w K mg) : Binds K (f_is_edge K) P_is_edge [] := FunD.bindsN (ps := P_is_edge) T.d_is_edge fun _ _ _ _ _ _ us hl => match us, hl with | [_, _], _ => rfl
abbrev f_odd_nodes (K : PySem.W.Frag) : FuncData := fdA K (a_odd_nodes K)
theorem Tx.d_odd_nodes (T : Tx w K mg) : FunD K "odd_nodes" "odd_nodes" (defArgs st_odd_nodes) (defBody st_odd_nodes) (defScope st_odd_nodes) (d_odd_nodes.dvs K) [] (a_odd_nodes K) (f_odd_nodes K) := T.def_ 6
theorem Tx.k_odd_nodes (T : Tx w K mg) : PySem.W.keepIn K (.ref (a_odd_nodes K)) = true := T.d_odd_nodes.kp
theorem Tx.b_odd_nodes (T : Tx w K mg) : Binds K (f_odd_nodes K) P_odd_nodes [] := FunD.bindsN (ps := P_odd_nodes) T.d_odd_nodes fun _ _ _ _ _ _ us hl => match us, hl with | [_], _ => rfl
abbrev f_negative_edges (K : PySem.W.Frag) : FuncData := fdA K (a_negative_edges K)
theorem Tx.d_negative_edges (T : Tx w K mg) : FunD K "negative_edges" "negative_edges" (defArgs st_negative_edges) (defBody st_negative_edges) (defScope st_negative_edges) (d_negative_edges.dvs K) [] (a_negative_edges K) (f_negative_edges K) := T.def_ 7
theorem Tx.k_negative_edges (T : Tx w K mg) : PySem.W.keepIn K (.ref (a_negative_edges K)) = true := T.d_negative_edges.kp
theorem Tx.b_negative_edges (T : Tx w K mg) : Binds K (f_negative_edges K) P_negative_edges [] := FunD.bindsN (ps := P_negative_edges) T.d_negative_edges fun _ _ _ _ _ _ us hl => match us, hl with | [_], _ => rfl
abbrev f_checked_nodes (K : PySem.W.Frag) : FuncData := fdA K (a_checked_nodes K)
theorem Tx.d_checked_nodes (T : Tx w K mg) : FunD K "checked_nodes" "checked_nodes" (defArgs st_checked_nodes) (defBody st_checked_nodes) (defScope st_checked_nodes) (d_checked_nodes.dvs K) [] (a_checked_nodes K) (f_checked_nodes K) := T.def_ 8
theorem Tx.k_checked_nodes (T : Tx w K mg) : PySem.W.keepIn K (.ref (a_checked_nodes K)) = true := T.d_checked_nodes.kp
theorem Tx.b_checked_nodes (T : Tx w K mg) : Binds K (f_checked_nodes K) P_checked_nodes [] := FunD.bindsN (ps := P_checked_nodes) T.d_checked_nodes fun _ _ _ _ _ _ us hl => match us, hl with | [_], _ => rfl
abbrev f_checked_edges (K : PySem.W.Frag) : FuncData := fdA K (a_checked_edges K)
theorem Tx.d_checked_edges (T : Tx w K mg) : FunD K "checked_edges" "checked_edges" (defArgs st_checked_edges) (defBody st_checked_edges) (defScope st_checked_edges) (d_checked_edges.dvs K) [] (a_checked_edges K) (f_checked_edges K) := T.def_ 9
theorem Tx.k_checked_edges (T : Tx w K mg) : PySem.W.keepIn K (.ref (a_checked_edges K)) = true := T.d_checked_edges.kp
theorem Tx.b_checked_edges (T : Tx w K mg) : Binds K (f_checked_edges K) P_checked_edges [] := FunD.bindsN (ps := P_checked_edges) T.d_checked_edges fun _ _ _ _ _ _ us hl => match us, hl with | [_, _], _ => rfl
abbrev f_first_unknown (K : PySem.W.Frag) : FuncData := fdA K (a_first_unknown K)
theorem Tx.d_first_unknown (T : Tx w K mg) : FunD K "first_unknown" "first_unknown" (defArgs st_first_unknown) (defBody st_first_unknown) (defScope st_first_unknown) (d_first_unknown.dvs K) [] (a_first_unknown K) (f_first_unknown K) := T.def_ 10
theorem Tx.k_first_unknown (T : Tx w K mg) : PySem.W.keepIn K (.ref (a_first_unknown K)) = true := T.d_first_unknown.kp
theorem Tx.b_first_unknown (T : Tx w K mg) : Binds K (f_first_unknown K) P_first_unknown [] := FunD.bindsN (ps := P_first_unknown) T.d_first_unknown fun _ _ _ _ _ _ us hl => match us, hl with | [_, _], _ => rfl
abbrev f_N_init (K : PySem.W.Frag) : FuncData := fdA K (a_N_init K)
theorem Tx.d_N_init (T : Tx w K mg) : FunD K "__init__" "Network.__init__" (defArgs st_N_init) (defBody st_N_init) (defScope st_N_init) (d_N_init.dvs K) [] (a_N_init K) (f_N_init K) := T.def_ 11
theorem Tx.k_N_init (T : Tx w K mg) : PySem.W.keepIn K (.ref (a_N_init K)) = true := T.d_N_init.kp
abbrev f_N_nodes (K : PySem.W.Frag) : FuncData := fdA K (a_N_nodes K)
theorem Tx.d_N_nodes (T : Tx w K mg) : FunD K "nodes" "Network.nodes" (defArgs st_N_nodes) (defBody st_N_nodes) (defScope st_N_nodes) (d_N_nodes.dvs K) [] (a_N_nodes K) (f_N_nodes K) := T.def_ 12
theorem Tx.k_N_nodes (T : Tx w K mg) : PySem.W.keepIn K (.ref (a_N_nodes K)) = true := T.d_N_nodes.kp
theorem Tx.b_N_nodes (T : Tx w K mg) : Binds K (f_N_nodes K) P_N_nodes [] := FunD.bindsN (ps := P_N_nodes) T.d_N_nodes fun _ _ _ _ _ _ us hl => match us, hl with | [_], _ => rfl
abbrev f_N_edges (K : PySem.W.Frag) : FuncData := fdA K (a_N_edges K)
theorem Tx.d_N_edges (T : Tx w K mg) : FunD K "edges" "Network.edges" (defArgs st_N_edges) (defBody st_N_edges) (defScope st_N_edges) (d_N_edges.dvs K) [] (a_N_edges K) (f_N_edges K) := T.def_ 13
theorem Tx.k_N_edges (T : Tx w K mg) : PySem.W.keepIn K (.ref (a_N_edges K)) = true := T.d_N_edges.kp
theorem Tx.b_N_edges (T : Tx w K mg) : Binds K (f_N_edges K) P_N_edges [] := FunD.bindsN (ps := P_N_edges) T.d_N_edges fun _ _ _ _ _ _ us hl => match us, hl with | [_], _ => rfl
abbrev f_N_names (K : PySem.W.Frag) : FuncData := fdA K (a_N_names K)
theorem Tx.d_N_names (T : Tx w K mg) : FunD K "names" "Network.names" (defArgs st_N_names) (defBody st_N_names) (defScope st_N_names) (d_N_names.dvs K) [] (a_N_names K) (f_N_names K) := T.def_ 14
theorem Tx.k_N_names (T : Tx w K mg) : PySem.W.keepIn K (.ref (a_N_names K)) = true := T.d_N_names.kp
theorem Tx.b_N_names (T : Tx w K mg) : Binds K (f_N_names K) P_N_names [] := FunD.bindsN (ps := P_N_names) T.d_N_names fun _ _ _ _ _ _ us hl => match us, hl with | [_], _ => rfl
abbrev f_N_len (K : PySem.W.Frag) : FuncData := fdA K (a_N_len K)
theorem Tx.d_N_len (T : Tx w K mg) : FunD K "__len__" "Network.__len__" (defArgs st_N_len) (defBody st_N_len) (defScope st_N_len) (d_N_len.dvs K) [] (a_N_len K) (f_N_len K) := T.def_ 15
theorem Tx.k_N_len (T : Tx w K mg) : PySem.W.keepIn K (.ref (a_N_len K)) = true := T.d_N_len.kp
theorem Tx.b_N_len (T : Tx w K mg) : Binds K (f_N_len K) P_N_len [] := FunD.bindsN (ps := P_N_len) T.d_N_len fun _ _ _ _ _ _ us hl => match us, hl with | [_], _ => rfl
abbrev f_N_need_edge (K : PySem.W.Frag) : FuncData := fdA K (a_N_need_edge K)
theorem Tx.d_N_need_edge (T : Tx w K mg) : FunD K "need_edge" "Network.need_edge" (defArgs st_N_need_edge) (defBody st_N_need_edge) (defScope st_N_need_edge) (d_N_need_edge.dvs K) [] (a_N_need_edge K) (f_N_need_edge K) := T.def_ 16
theorem Tx.k_N_need_edge (T : Tx w K mg) : PySem.W.keepIn K (.ref (a_N_need_edge K)) = true := T.d_N_need_edge.kp
theorem Tx.b_N_need_edge (T : Tx w K mg) : Binds K (f_N_need_edge K) P_N_need_edge [] := FunD.bindsN (ps := P_N_need_edge) T.d_N_need_edge fun _ _ _ _ _ _ us hl => match us, hl with | [_, _], _ => rfl
abbrev f_N_with_nodes (K : PySem.W.Frag) : FuncData := fdA K (a_N_with_nodes K)
theorem Tx.d_N_with_nodes (T : Tx w K mg) : FunD K "with_nodes" "Network.with_nodes" (defArgs st_N_with_nodes) (defBody st_N_with_nodes) (defScope st_N_with_nodes) (d_N_with_nodes.dvs K) [] (a_N_with_nodes K) (f_N_with_nodes K) := T.def_ 17
theorem Tx.k_N_with_nodes (T : Tx w K mg) : PySem.W.keepIn K (.ref (a_N_with_nodes K)) = true := T.d_N_with_nodes.kp
abbrev f_N_with_edges (K : PySem.W.Frag) : FuncData := fdA K (a_N_with_edges K)
theorem Tx.d_N_with_edges (T : Tx w K mg) : FunD K "with_edges" "Network.with_edges" (defArgs st_N_with_edges) (defBody st_N_with_edges) (defScope st_N_with_edges) (d_N_with_edges.dvs K) [] (a_N_with_edges K) (f_N_with_edges K) := T.def_ 18
theorem Tx.k_N_with_edges (T : Tx w K mg) : PySem.W.keepIn K (.ref (a_N_with_edges K)) = true := T.d_N_with_edges.kp
abbrev f_N_without_nodes (K : PySem.W.Frag) : FuncData := fdA K (a_N_without_nodes K)
theorem Tx.d_N_without_nodes (T : Tx w K mg) : FunD K "without_nodes" "Network.without_nodes" (defArgs st_N_without_nodes) (defBody st_N_without_nodes) (defScope st_N_without_nodes) (d_N_without_nodes.dvs K) [] (a_N_without_nodes K) (f_N_without_nodes K) := T.def_ 19
theorem Tx.k_N_without_nodes (T : Tx w K mg) : PySem.W.keepIn K (.ref (a_N_without_nodes K)) = true := T.d_N_without_nodes.kp
abbrev f_N_without_edges (K : PySem.W.Frag) : FuncData := fdA K (a_N_without_edges K)
theorem Tx.d_N_without_edges (T : Tx w K mg) : FunD K "without_edges" "Network.without_edges" (defArgs st_N_without_edges) (defBody st_N_without_edges) (defScope st_N_without_edges) (d_N_without_edges.dvs K) [] (a_N_without_edges K) (f_N_without_edges K) := T.def_ 20
theorem Tx.k_N_without_edges (T : Tx w K mg) : PySem.W.keepIn K (.ref (a_N_without_edges K)) = true := T.d_N_without_edges.kp
abbrev f_N_edges_with (K : PySem.W.Frag) : FuncData := fdA K (a_N_edges_with K)
theorem Tx.d_N_edges_with (T : Tx w K mg) : FunD K "edges_with" "Network.edges_with" (defArgs st_N_edges_with) (defBody st_N_edges_with) (defScope st_N_edges_with) (d_N_edges_with.dvs K) [] (a_N_edges_with K) (f_N_edges_with K) := T.def_ 21
theorem Tx.k_N_edges_with (T : Tx w K mg) : PySem.W.keepIn K (.ref (a_N_edges_with K)) = true := T.d_N_edges_with.kp
theorem Tx.b_N_edges_with (T : Tx w K mg) : Binds K (f_N_edges_with K) P_N_edges_with [] := FunD.bindsN (ps := P_N_edges_with) T.d_N_edges_with fun _ _ _ _ _ _ us hl => match us, hl with | [_, _], _ => rfl
abbrev f_is_change (K : PySem.W.Frag) : FuncData := fdA K (a_is_change K)
theorem Tx.d_is_change (T : Tx w K mg) : FunD K "is_change" "is_change" (defArgs st_is_change) (defBody st_is_change) (defScope st_is_change) (d_is_change.dvs K) [] (a_is_change K) (f_is_change K) := T.def_ 22
theorem Tx.k_is_change (T : Tx w K mg) : PySem.W.keepIn K (.ref (a_is_change K)) = true := T.d_is_change.kp
theorem Tx.b_is_change (T : Tx w K mg) : Binds K (f_is_change K) P_is_change [] := FunD.bindsN (ps := P_is_change) T.d_is_change fun _ _ _ _ _ _ us hl => match us, hl with | [_], _ => rfl
abbrev f_network_after (K : PySem.W.Frag) : FuncData := fdA K (a_network_after K)
theorem Tx.d_network_after (T : Tx w K mg) : FunD K "network_after" "network_after" (defArgs st_network_after) (defBody st_network_after) (defScope st_network_after) (d_network_after.dvs K) [] (a_network_after K) (f_network_after K) := T.def_ 23
theorem Tx.k_network_after (T : Tx w K mg) : PySem.W.keepIn K (.ref (a_network_after K)) = true := T.d_network_after.kp
theorem Tx.b_network_after (T : Tx w K mg) : Binds K (f_network_after K) P_network_after [] := FunD.bindsN (ps := P_network_after) T.d_network_after fun _ _ _ _ _ _ us hl => match us, hl with | [_, _], _ => rfl
abbrev f_state_of (K : PySem.W.Frag) : FuncData := fdA K (a_state_of K)
theorem Tx.d_state_of (T : Tx w K mg) : FunD K "state_of" "state_of" (defArgs st_state_of) (defBody st_state_of) (defScope st_state_of) (d_state_of.dvs K) [] (a_state_of K) (f_state_of K) := T.def_ 24
theorem Tx.k_state_of (T : Tx w K mg) : PySem.W.keepIn K (.ref (a_state_of K)) = true := T.d_state_of.kp
theorem Tx.b_state_of (T : Tx w K mg) : Binds K (f_state_of K) P_state_of [] := FunD.bindsN (ps := P_state_of) T.d_state_of fun _ _ _ _ _ _ us hl => match us, hl with | [_, _], _ => rfl
abbrev f_B_init (K : PySem.W.Frag) : FuncData := fdA K (a_B_init K)
theorem Tx.d_B_init (T : Tx w K mg) : FunD K "__init__" "Book.__init__" (defArgs st_B_init) (defBody st_B_init) (defScope st_B_init) (d_B_init.dvs K) [] (a_B_init K) (f_B_init K) := T.def_ 25
theorem Tx.k_B_init (T : Tx w K mg) : PySem.W.keepIn K (.ref (a_B_init K)) = true := T.d_B_init.kp
abbrev f_B_state (K : PySem.W.Frag) : FuncData := fdA K (a_B_state K)
theorem Tx.d_B_state (T : Tx w K mg) : FunD K "state" "Book.state" (defArgs st_B_state) (defBody st_B_state) (defScope st_B_state) (d_B_state.dvs K) [] (a_B_state K) (f_B_state K) := T.def_ 26
theorem Tx.k_B_state (T : Tx w K mg) : PySem.W.keepIn K (.ref (a_B_state K)) = true := T.d_B_state.kp
theorem Tx.b_B_state (T : Tx w K mg) : Binds K (f_B_state K) P_B_state [] := FunD.bindsN (ps := P_B_state) T.d_B_state fun _ _ _ _ _ _ us hl => match us, hl with | [_], _ => rfl
abbrev f_B_network (K : PySem.W.Frag) : FuncData := fdA K (a_B_network K)
theorem Tx.d_B_network (T : Tx w K mg) : FunD K "network" "Book.network" (defArgs st_B_network) (defBody st_B_network) (defScope st_B_network) (d_B_network.dvs K) [] (a_B_network K) (f_B_network K) := T.def_ 27
theorem Tx.k_B_network (T : Tx w K mg) : PySem.W.keepIn K (.ref (a_B_network K)) = true := T.d_B_network.kp
theorem Tx.b_B_network (T : Tx w K mg) : Binds K (f_B_network K) P_B_network [] := FunD.bindsN (ps := P_B_network) T.d_B_network fun _ _ _ _ _ _ us hl => match us, hl with | [_], _ => rfl
abbrev f_B_undoable (K : PySem.W.Frag) : FuncData := fdA K (a_B_undoable K)
theorem Tx.d_B_undoable (T : Tx w K mg) : FunD K "undoable" "Book.undoable" (defArgs st_B_undoable) (defBody st_B_undoable) (defScope st_B_undoable) (d_B_undoable.dvs K) [] (a_B_undoable K) (f_B_undoable K) := T.def_ 28
theorem Tx.k_B_undoable (T : Tx w K mg) : PySem.W.keepIn K (.ref (a_B_undoable K)) = true := T.d_B_undoable.kp
theorem Tx.b_B_undoable (T : Tx w K mg) : Binds K (f_B_undoable K) P_B_undoable [] := FunD.bindsN (ps := P_B_undoable) T.d_B_undoable fun _ _ _ _ _ _ us hl => match us, hl with | [_], _ => rfl
abbrev f_B_redoable (K : PySem.W.Frag) : FuncData := fdA K (a_B_redoable K)
theorem Tx.d_B_redoable (T : Tx w K mg) : FunD K "redoable" "Book.redoable" (defArgs st_B_redoable) (defBody st_B_redoable) (defScope st_B_redoable) (d_B_redoable.dvs K) [] (a_B_redoable K) (f_B_redoable K) := T.def_ 29
theorem Tx.k_B_redoable (T : Tx w K mg) : PySem.W.keepIn K (.ref (a_B_redoable K)) = true := T.d_B_redoable.kp
theorem Tx.b_B_redoable (T : Tx w K mg) : Binds K (f_B_redoable K) P_B_redoable [] := FunD.bindsN (ps := P_B_redoable) T.d_B_redoable fun _ _ _ _ _ _ us hl => match us, hl with | [_], _ => rfl
abbrev f_B_depth (K : PySem.W.Frag) : FuncData := fdA K (a_B_depth K)
theorem Tx.d_B_depth (T : Tx w K mg) : FunD K "depth" "Book.depth" (defArgs st_B_depth) (defBody st_B_depth) (defScope st_B_depth) (d_B_depth.dvs K) [] (a_B_depth K) (f_B_depth K) := T.def_ 30
theorem Tx.k_B_depth (T : Tx w K mg) : PySem.W.keepIn K (.ref (a_B_depth K)) = true := T.d_B_depth.kp
theorem Tx.b_B_depth (T : Tx w K mg) : Binds K (f_B_depth K) P_B_depth [] := FunD.bindsN (ps := P_B_depth) T.d_B_depth fun _ _ _ _ _ _ us hl => match us, hl with | [_], _ => rfl
abbrev f_B_accept (K : PySem.W.Frag) : FuncData := fdA K (a_B_accept K)
theorem Tx.d_B_accept (T : Tx w K mg) : FunD K "accept" "Book.accept" (defArgs st_B_accept) (defBody st_B_accept) (defScope st_B_accept) (d_B_accept.dvs K) [] (a_B_accept K) (f_B_accept K) := T.def_ 31
theorem Tx.k_B_accept (T : Tx w K mg) : PySem.W.keepIn K (.ref (a_B_accept K)) = true := T.d_B_accept.kp
theorem Tx.b_B_accept (T : Tx w K mg) : Binds K (f_B_accept K) P_B_accept [] := FunD.bindsN (ps := P_B_accept) T.d_B_accept fun _ _ _ _ _ _ us hl => match us, hl with | [_, _], _ => rfl
abbrev f_B_change (K : PySem.W.Frag) : FuncData := fdA K (a_B_change K)
theorem Tx.d_B_change (T : Tx w K mg) : FunD K "change" "Book.change" (defArgs st_B_change) (defBody st_B_change) (defScope st_B_change) (d_B_change.dvs K) [] (a_B_change K) (f_B_change K) := T.def_ 32
theorem Tx.k_B_change (T : Tx w K mg) : PySem.W.keepIn K (.ref (a_B_change K)) = true := T.d_B_change.kp
abbrev f_B_need_count (K : PySem.W.Frag) : FuncData := fdA K (a_B_need_count K)
theorem Tx.d_B_need_count (T : Tx w K mg) : FunD K "need_count" "Book.need_count" (defArgs st_B_need_count) (defBody st_B_need_count) (defScope st_B_need_count) (d_B_need_count.dvs K) [] (a_B_need_count K) (f_B_need_count K) := T.def_ 33
theorem Tx.k_B_need_count (T : Tx w K mg) : PySem.W.keepIn K (.ref (a_B_need_count K)) = true := T.d_B_need_count.kp
theorem Tx.b_B_need_count (T : Tx w K mg) : Binds K (f_B_need_count K) P_B_need_count [] := FunD.bindsN (ps := P_B_need_count) T.d_B_need_count fun _ _ _ _ _ _ us hl => match us, hl with | [_, _], _ => rfl
abbrev f_B_undo (K : PySem.W.Frag) : FuncData := fdA K (a_B_undo K)
theorem Tx.d_B_undo (T : Tx w K mg) : FunD K "undo" "Book.undo" (defArgs st_B_undo) (defBody st_B_undo) (defScope st_B_undo) (d_B_undo.dvs K) [] (a_B_undo K) (f_B_undo K) := T.def_ 34
theorem Tx.k_B_undo (T : Tx w K mg) : PySem.W.keepIn K (.ref (a_B_undo K)) = true := T.d_B_undo.kp
abbrev f_B_redo (K : PySem.W.Frag) : FuncData := fdA K (a_B_redo K)
theorem Tx.d_B_redo (T : Tx w K mg) : FunD K "redo" "Book.redo" (defArgs st_B_redo) (defBody st_B_redo) (defScope st_B_redo) (d_B_redo.dvs K) [] (a_B_redo K) (f_B_redo K) := T.def_ 35
theorem Tx.k_B_redo (T : Tx w K mg) : PySem.W.keepIn K (.ref (a_B_redo K)) = true := T.d_B_redo.kp
abbrev f_lpen (K : PySem.W.Frag) : FuncData := fdA K (a_lpen K)
theorem Tx.d_lpen (T : Tx w K mg) : FunD K "_law_pen" "_law_pen" (defArgs st_lpen) (defBody st_lpen) (defScope st_lpen) (d_lpen.dvs K) [] (a_lpen K) (f_lpen K) := T.def_ 36
theorem Tx.k_lpen (T : Tx w K mg) : PySem.W.keepIn K (.ref (a_lpen K)) = true := T.d_lpen.kp
theorem Tx.b_lpen (T : Tx w K mg) : Binds K (f_lpen K) P_lpen [] := FunD.bindsN (ps := P_lpen) T.d_lpen fun _ _ _ _ _ _ us hl => match us, hl with | [_], _ => rfl
abbrev f_ldraw (K : PySem.W.Frag) : FuncData := fdA K (a_ldraw K)
theorem Tx.d_ldraw (T : Tx w K mg) : FunD K "_law_draw" "_law_draw" (defArgs st_ldraw) (defBody st_ldraw) (defScope st_ldraw) (d_ldraw.dvs K) [] (a_ldraw K) (f_ldraw K) := T.def_ 37
theorem Tx.k_ldraw (T : Tx w K mg) : PySem.W.keepIn K (.ref (a_ldraw K)) = true := T.d_ldraw.kp
theorem Tx.b_ldraw (T : Tx w K mg) : Binds K (f_ldraw K) P_ldraw [] := FunD.bindsN (ps := P_ldraw) T.d_ldraw fun _ _ _ _ _ _ us hl => match us, hl with | [_, _], _ => rfl
abbrev f_lpick (K : PySem.W.Frag) : FuncData := fdA K (a_lpick K)
theorem Tx.d_lpick (T : Tx w K mg) : FunD K "_law_pick" "_law_pick" (defArgs st_lpick) (defBody st_lpick) (defScope st_lpick) (d_lpick.dvs K) [] (a_lpick K) (f_lpick K) := T.def_ 38
theorem Tx.k_lpick (T : Tx w K mg) : PySem.W.keepIn K (.ref (a_lpick K)) = true := T.d_lpick.kp
theorem Tx.b_lpick (T : Tx w K mg) : Binds K (f_lpick K) P_lpick [] := FunD.bindsN (ps := P_lpick) T.d_lpick fun _ _ _ _ _ _ us hl => match us, hl with | [_, _], _ => rfl
abbrev f_lshuffled (K : PySem.W.Frag) : FuncData := fdA K (a_lshuffled K)
theorem Tx.d_lshuffled (T : Tx w K mg) : FunD K "_law_shuffled" "_law_shuffled" (defArgs st_lshuffled) (defBody st_lshuffled) (defScope st_lshuffled) (d_lshuffled.dvs K) [] (a_lshuffled K) (f_lshuffled K) := T.def_ 39
theorem Tx.k_lshuffled (T : Tx w K mg) : PySem.W.keepIn K (.ref (a_lshuffled K)) = true := T.d_lshuffled.kp
theorem Tx.b_lshuffled (T : Tx w K mg) : Binds K (f_lshuffled K) P_lshuffled [] := FunD.bindsN (ps := P_lshuffled) T.d_lshuffled fun _ _ _ _ _ _ us hl => match us, hl with | [_, _], _ => rfl
abbrev f_lnames (K : PySem.W.Frag) : FuncData := fdA K (a_lnames K)
theorem Tx.d_lnames (T : Tx w K mg) : FunD K "_law_names" "_law_names" (defArgs st_lnames) (defBody st_lnames) (defScope st_lnames) (d_lnames.dvs K) [] (a_lnames K) (f_lnames K) := T.def_ 40
theorem Tx.k_lnames (T : Tx w K mg) : PySem.W.keepIn K (.ref (a_lnames K)) = true := T.d_lnames.kp
theorem Tx.b_lnames (T : Tx w K mg) : Binds K (f_lnames K) P_lnames [] := FunD.bindsN (ps := P_lnames) T.d_lnames fun _ _ _ _ _ _ us hl => match us, hl with | [_, _], _ => rfl
abbrev f_lsmall (K : PySem.W.Frag) : FuncData := fdA K (a_lsmall K)
theorem Tx.d_lsmall (T : Tx w K mg) : FunD K "_law_small" "_law_small" (defArgs st_lsmall) (defBody st_lsmall) (defScope st_lsmall) (d_lsmall.dvs K) [] (a_lsmall K) (f_lsmall K) := T.def_ 41
theorem Tx.k_lsmall (T : Tx w K mg) : PySem.W.keepIn K (.ref (a_lsmall K)) = true := T.d_lsmall.kp
theorem Tx.b_lsmall (T : Tx w K mg) : Binds K (f_lsmall K) P_lsmall [] := FunD.bindsN (ps := P_lsmall) T.d_lsmall fun _ _ _ _ _ _ us hl => match us, hl with | [_, _, _, _], _ => rfl
abbrev f_lfits (K : PySem.W.Frag) : FuncData := fdA K (a_lfits K)
theorem Tx.d_lfits (T : Tx w K mg) : FunD K "_law_fits" "_law_fits" (defArgs st_lfits) (defBody st_lfits) (defScope st_lfits) (d_lfits.dvs K) [] (a_lfits K) (f_lfits K) := T.def_ 42
theorem Tx.k_lfits (T : Tx w K mg) : PySem.W.keepIn K (.ref (a_lfits K)) = true := T.d_lfits.kp
theorem Tx.b_lfits (T : Tx w K mg) : Binds K (f_lfits K) P_lfits [] := FunD.bindsN (ps := P_lfits) T.d_lfits fun _ _ _ _ _ _ us hl => match us, hl with | [_], _ => rfl
abbrev f_lis_between (K : PySem.W.Frag) : FuncData := fdA K (a_lis_between K)
theorem Tx.d_lis_between (T : Tx w K mg) : FunD K "_law_is_between" "_law_is_between" (defArgs st_lis_between) (defBody st_lis_between) (defScope st_lis_between) (d_lis_between.dvs K) [] (a_lis_between K) (f_lis_between K) := T.def_ 43
theorem Tx.k_lis_between (T : Tx w K mg) : PySem.W.keepIn K (.ref (a_lis_between K)) = true := T.d_lis_between.kp
theorem Tx.b_lis_between (T : Tx w K mg) : Binds K (f_lis_between K) P_lis_between [] := FunD.bindsN (ps := P_lis_between) T.d_lis_between fun _ _ _ _ _ _ us hl => match us, hl with | [_, _, _], _ => rfl
abbrev f_lis_name (K : PySem.W.Frag) : FuncData := fdA K (a_lis_name K)
theorem Tx.d_lis_name (T : Tx w K mg) : FunD K "_law_is_name" "_law_is_name" (defArgs st_lis_name) (defBody st_lis_name) (defScope st_lis_name) (d_lis_name.dvs K) [] (a_lis_name K) (f_lis_name K) := T.def_ 44
theorem Tx.k_lis_name (T : Tx w K mg) : PySem.W.keepIn K (.ref (a_lis_name K)) = true := T.d_lis_name.kp
theorem Tx.b_lis_name (T : Tx w K mg) : Binds K (f_lis_name K) P_lis_name [] := FunD.bindsN (ps := P_lis_name) T.d_lis_name fun _ _ _ _ _ _ us hl => match us, hl with | [_], _ => rfl
abbrev f_lis_edge (K : PySem.W.Frag) : FuncData := fdA K (a_lis_edge K)
theorem Tx.d_lis_edge (T : Tx w K mg) : FunD K "_law_is_edge" "_law_is_edge" (defArgs st_lis_edge) (defBody st_lis_edge) (defScope st_lis_edge) (d_lis_edge.dvs K) [] (a_lis_edge K) (f_lis_edge K) := T.def_ 45
theorem Tx.k_lis_edge (T : Tx w K mg) : PySem.W.keepIn K (.ref (a_lis_edge K)) = true := T.d_lis_edge.kp
theorem Tx.b_lis_edge (T : Tx w K mg) : Binds K (f_lis_edge K) P_lis_edge [] := FunD.bindsN (ps := P_lis_edge) T.d_lis_edge fun _ _ _ _ _ _ us hl => match us, hl with | [_, _], _ => rfl
abbrev f_lwrong_node (K : PySem.W.Frag) : FuncData := fdA K (a_lwrong_node K)
theorem Tx.d_lwrong_node (T : Tx w K mg) : FunD K "_law_wrong_node" "_law_wrong_node" (defArgs st_lwrong_node) (defBody st_lwrong_node) (defScope st_lwrong_node) (d_lwrong_node.dvs K) [] (a_lwrong_node K) (f_lwrong_node K) := T.def_ 46
theorem Tx.k_lwrong_node (T : Tx w K mg) : PySem.W.keepIn K (.ref (a_lwrong_node K)) = true := T.d_lwrong_node.kp
theorem Tx.b_lwrong_node (T : Tx w K mg) : Binds K (f_lwrong_node K) P_lwrong_node [] := FunD.bindsN (ps := P_lwrong_node) T.d_lwrong_node fun _ _ _ _ _ _ us hl => match us, hl with | [_], _ => rfl
abbrev f_lwrong_edge (K : PySem.W.Frag) : FuncData := fdA K (a_lwrong_edge K)
theorem Tx.d_lwrong_edge (T : Tx w K mg) : FunD K "_law_wrong_edge" "_law_wrong_edge" (defArgs st_lwrong_edge) (defBody st_lwrong_edge) (defScope st_lwrong_edge) (d_lwrong_edge.dvs K) [] (a_lwrong_edge K) (f_lwrong_edge K) := T.def_ 47
theorem Tx.k_lwrong_edge (T : Tx w K mg) : PySem.W.keepIn K (.ref (a_lwrong_edge K)) = true := T.d_lwrong_edge.kp
theorem Tx.b_lwrong_edge (T : Tx w K mg) : Binds K (f_lwrong_edge K) P_lwrong_edge [] := FunD.bindsN (ps := P_lwrong_edge) T.d_lwrong_edge fun _ _ _ _ _ _ us hl => match us, hl with | [_, _], _ => rfl
abbrev f_ldue (K : PySem.W.Frag) : FuncData := fdA K (a_ldue K)
theorem Tx.d_ldue (T : Tx w K mg) : FunD K "_law_due" "_law_due" (defArgs st_ldue) (defBody st_ldue) (defScope st_ldue) (d_ldue.dvs K) [] (a_ldue K) (f_ldue K) := T.def_ 48
theorem Tx.k_ldue (T : Tx w K mg) : PySem.W.keepIn K (.ref (a_ldue K)) = true := T.d_ldue.kp
theorem Tx.b_ldue (T : Tx w K mg) : Binds K (f_ldue K) P_ldue [] := FunD.bindsN (ps := P_ldue) T.d_ldue fun _ _ _ _ _ _ us hl => match us, hl with | [_, _], _ => rfl
abbrev f_lrows (K : PySem.W.Frag) : FuncData := fdA K (a_lrows K)
theorem Tx.d_lrows (T : Tx w K mg) : FunD K "_law_rows" "_law_rows" (defArgs st_lrows) (defBody st_lrows) (defScope st_lrows) (d_lrows.dvs K) [] (a_lrows K) (f_lrows K) := T.def_ 49
theorem Tx.k_lrows (T : Tx w K mg) : PySem.W.keepIn K (.ref (a_lrows K)) = true := T.d_lrows.kp
theorem Tx.b_lrows (T : Tx w K mg) : Binds K (f_lrows K) P_lrows [] := FunD.bindsN (ps := P_lrows) T.d_lrows fun _ _ _ _ _ _ us hl => match us, hl with | [_], _ => rfl
abbrev f_lshows (K : PySem.W.Frag) : FuncData := fdA K (a_lshows K)
theorem Tx.d_lshows (T : Tx w K mg) : FunD K "_law_shows" "_law_shows" (defArgs st_lshows) (defBody st_lshows) (defScope st_lshows) (d_lshows.dvs K) [] (a_lshows K) (f_lshows K) := T.def_ 50
theorem Tx.k_lshows (T : Tx w K mg) : PySem.W.keepIn K (.ref (a_lshows K)) = true := T.d_lshows.kp
theorem Tx.b_lshows (T : Tx w K mg) : Binds K (f_lshows K) P_lshows [] := FunD.bindsN (ps := P_lshows) T.d_lshows fun _ _ _ _ _ _ us hl => match us, hl with | [_, _], _ => rfl
abbrev f_lodd (K : PySem.W.Frag) : FuncData := fdA K (a_lodd K)
theorem Tx.d_lodd (T : Tx w K mg) : FunD K "_law_odd" "_law_odd" (defArgs st_lodd) (defBody st_lodd) (defScope st_lodd) (d_lodd.dvs K) [] (a_lodd K) (f_lodd K) := T.def_ 51
theorem Tx.k_lodd (T : Tx w K mg) : PySem.W.keepIn K (.ref (a_lodd K)) = true := T.d_lodd.kp
theorem Tx.b_lodd (T : Tx w K mg) : Binds K (f_lodd K) P_lodd [] := FunD.bindsN (ps := P_lodd) T.d_lodd fun _ _ _ _ _ _ us hl => match us, hl with | [_], _ => rfl
abbrev f_lis_change (K : PySem.W.Frag) : FuncData := fdA K (a_lis_change K)
theorem Tx.d_lis_change (T : Tx w K mg) : FunD K "_law_is_change" "_law_is_change" (defArgs st_lis_change) (defBody st_lis_change) (defScope st_lis_change) (d_lis_change.dvs K) [] (a_lis_change K) (f_lis_change K) := T.def_ 52
theorem Tx.k_lis_change (T : Tx w K mg) : PySem.W.keepIn K (.ref (a_lis_change K)) = true := T.d_lis_change.kp
theorem Tx.b_lis_change (T : Tx w K mg) : Binds K (f_lis_change K) P_lis_change [] := FunD.bindsN (ps := P_lis_change) T.d_lis_change fun _ _ _ _ _ _ us hl => match us, hl with | [_], _ => rfl
abbrev f_lone_changed (K : PySem.W.Frag) : FuncData := fdA K (a_lone_changed K)
theorem Tx.d_lone_changed (T : Tx w K mg) : FunD K "_law_one_changed" "_law_one_changed" (defArgs st_lone_changed) (defBody st_lone_changed) (defScope st_lone_changed) (d_lone_changed.dvs K) [] (a_lone_changed K) (f_lone_changed K) := T.def_ 53
theorem Tx.k_lone_changed (T : Tx w K mg) : PySem.W.keepIn K (.ref (a_lone_changed K)) = true := T.d_lone_changed.kp
theorem Tx.b_lone_changed (T : Tx w K mg) : Binds K (f_lone_changed K) P_lone_changed [] := FunD.bindsN (ps := P_lone_changed) T.d_lone_changed fun _ _ _ _ _ _ us hl => match us, hl with | [_, _], _ => rfl
abbrev f_lchanged (K : PySem.W.Frag) : FuncData := fdA K (a_lchanged K)
theorem Tx.d_lchanged (T : Tx w K mg) : FunD K "_law_changed" "_law_changed" (defArgs st_lchanged) (defBody st_lchanged) (defScope st_lchanged) (d_lchanged.dvs K) [] (a_lchanged K) (f_lchanged K) := T.def_ 54
theorem Tx.k_lchanged (T : Tx w K mg) : PySem.W.keepIn K (.ref (a_lchanged K)) = true := T.d_lchanged.kp
theorem Tx.b_lchanged (T : Tx w K mg) : Binds K (f_lchanged K) P_lchanged [] := FunD.bindsN (ps := P_lchanged) T.d_lchanged fun _ _ _ _ _ _ us hl => match us, hl with | [_, _], _ => rfl
abbrev f_lchange (K : PySem.W.Frag) : FuncData := fdA K (a_lchange K)
theorem Tx.d_lchange (T : Tx w K mg) : FunD K "_law_change" "_law_change" (defArgs st_lchange) (defBody st_lchange) (defScope st_lchange) (d_lchange.dvs K) [] (a_lchange K) (f_lchange K) := T.def_ 55
theorem Tx.k_lchange (T : Tx w K mg) : PySem.W.keepIn K (.ref (a_lchange K)) = true := T.d_lchange.kp
theorem Tx.b_lchange (T : Tx w K mg) : Binds K (f_lchange K) P_lchange [] := FunD.bindsN (ps := P_lchange) T.d_lchange fun _ _ _ _ _ _ us hl => match us, hl with | [_, _, _], _ => rfl
abbrev f_lmake (K : PySem.W.Frag) : FuncData := fdA K (a_lmake K)
theorem Tx.d_lmake (T : Tx w K mg) : FunD K "_law_make" "_law_make" (defArgs st_lmake) (defBody st_lmake) (defScope st_lmake) (d_lmake.dvs K) [] (a_lmake K) (f_lmake K) := T.def_ 56
theorem Tx.k_lmake (T : Tx w K mg) : PySem.W.keepIn K (.ref (a_lmake K)) = true := T.d_lmake.kp
theorem Tx.b_lmake (T : Tx w K mg) : Binds K (f_lmake K) P_lmake [] := FunD.bindsN (ps := P_lmake) T.d_lmake fun _ _ _ _ _ _ us hl => match us, hl with | [_, _], _ => rfl
abbrev f_lstate (K : PySem.W.Frag) : FuncData := fdA K (a_lstate K)
theorem Tx.d_lstate (T : Tx w K mg) : FunD K "_law_state" "_law_state" (defArgs st_lstate) (defBody st_lstate) (defScope st_lstate) (d_lstate.dvs K) [] (a_lstate K) (f_lstate K) := T.def_ 57
theorem Tx.k_lstate (T : Tx w K mg) : PySem.W.keepIn K (.ref (a_lstate K)) = true := T.d_lstate.kp
theorem Tx.b_lstate (T : Tx w K mg) : Binds K (f_lstate K) P_lstate [] := FunD.bindsN (ps := P_lstate) T.d_lstate fun _ _ _ _ _ _ us hl => match us, hl with | [_], _ => rfl
abbrev f_lstands (K : PySem.W.Frag) : FuncData := fdA K (a_lstands K)
theorem Tx.d_lstands (T : Tx w K mg) : FunD K "_law_stands" "_law_stands" (defArgs st_lstands) (defBody st_lstands) (defScope st_lstands) (d_lstands.dvs K) [] (a_lstands K) (f_lstands K) := T.def_ 58
theorem Tx.k_lstands (T : Tx w K mg) : PySem.W.keepIn K (.ref (a_lstands K)) = true := T.d_lstands.kp
theorem Tx.b_lstands (T : Tx w K mg) : Binds K (f_lstands K) P_lstands [] := FunD.bindsN (ps := P_lstands) T.d_lstands fun _ _ _ _ _ _ us hl => match us, hl with | [_, _], _ => rfl
abbrev f_lstep (K : PySem.W.Frag) : FuncData := fdA K (a_lstep K)
theorem Tx.d_lstep (T : Tx w K mg) : FunD K "_law_step" "_law_step" (defArgs st_lstep) (defBody st_lstep) (defScope st_lstep) (d_lstep.dvs K) [] (a_lstep K) (f_lstep K) := T.def_ 59
theorem Tx.k_lstep (T : Tx w K mg) : PySem.W.keepIn K (.ref (a_lstep K)) = true := T.d_lstep.kp
theorem Tx.b_lstep (T : Tx w K mg) : Binds K (f_lstep K) P_lstep [] := FunD.bindsN (ps := P_lstep) T.d_lstep fun _ _ _ _ _ _ us hl => match us, hl with | [_, _], _ => rfl
abbrev f_lfault (K : PySem.W.Frag) : FuncData := fdA K (a_lfault K)
theorem Tx.d_lfault (T : Tx w K mg) : FunD K "_law_fault" "_law_fault" (defArgs st_lfault) (defBody st_lfault) (defScope st_lfault) (d_lfault.dvs K) [] (a_lfault K) (f_lfault K) := T.def_ 60
theorem Tx.k_lfault (T : Tx w K mg) : PySem.W.keepIn K (.ref (a_lfault K)) = true := T.d_lfault.kp
theorem Tx.b_lfault (T : Tx w K mg) : Binds K (f_lfault K) P_lfault [] := FunD.bindsN (ps := P_lfault) T.d_lfault fun _ _ _ _ _ _ us hl => match us, hl with | [_], _ => rfl
abbrev f_lreplied (K : PySem.W.Frag) : FuncData := fdA K (a_lreplied K)
theorem Tx.d_lreplied (T : Tx w K mg) : FunD K "_law_replied" "_law_replied" (defArgs st_lreplied) (defBody st_lreplied) (defScope st_lreplied) (d_lreplied.dvs K) [] (a_lreplied K) (f_lreplied K) := T.def_ 61
theorem Tx.k_lreplied (T : Tx w K mg) : PySem.W.keepIn K (.ref (a_lreplied K)) = true := T.d_lreplied.kp
theorem Tx.b_lreplied (T : Tx w K mg) : Binds K (f_lreplied K) P_lreplied [] := FunD.bindsN (ps := P_lreplied) T.d_lreplied fun _ _ _ _ _ _ us hl => match us, hl with | [_], _ => rfl
abbrev f_ldue_back (K : PySem.W.Frag) : FuncData := fdA K (a_ldue_back K)
theorem Tx.d_ldue_back (T : Tx w K mg) : FunD K "_law_due_back" "_law_due_back" (defArgs st_ldue_back) (defBody st_ldue_back) (defScope st_ldue_back) (d_ldue_back.dvs K) [] (a_ldue_back K) (f_ldue_back K) := T.def_ 62
theorem Tx.k_ldue_back (T : Tx w K mg) : PySem.W.keepIn K (.ref (a_ldue_back K)) = true := T.d_ldue_back.kp
theorem Tx.b_ldue_back (T : Tx w K mg) : Binds K (f_ldue_back K) P_ldue_back [] := FunD.bindsN (ps := P_ldue_back) T.d_ldue_back fun _ _ _ _ _ _ us hl => match us, hl with | [_, _, _], _ => rfl
abbrev f_lback (K : PySem.W.Frag) : FuncData := fdA K (a_lback K)
theorem Tx.d_lback (T : Tx w K mg) : FunD K "_law_back" "_law_back" (defArgs st_lback) (defBody st_lback) (defScope st_lback) (d_lback.dvs K) [] (a_lback K) (f_lback K) := T.def_ 63
theorem Tx.k_lback (T : Tx w K mg) : PySem.W.keepIn K (.ref (a_lback K)) = true := T.d_lback.kp
theorem Tx.b_lback (T : Tx w K mg) : Binds K (f_lback K) P_lback [] := FunD.bindsN (ps := P_lback) T.d_lback fun _ _ _ _ _ _ us hl => match us, hl with | [_, _, _, _], _ => rfl
abbrev f_lmoved (K : PySem.W.Frag) : FuncData := fdA K (a_lmoved K)
theorem Tx.d_lmoved (T : Tx w K mg) : FunD K "_law_moved" "_law_moved" (defArgs st_lmoved) (defBody st_lmoved) (defScope st_lmoved) (d_lmoved.dvs K) [] (a_lmoved K) (f_lmoved K) := T.def_ 64
theorem Tx.k_lmoved (T : Tx w K mg) : PySem.W.keepIn K (.ref (a_lmoved K)) = true := T.d_lmoved.kp
theorem Tx.b_lmoved (T : Tx w K mg) : Binds K (f_lmoved K) P_lmoved [] := FunD.bindsN (ps := P_lmoved) T.d_lmoved fun _ _ _ _ _ _ us hl => match us, hl with | [_, _, _, _], _ => rfl
abbrev f_lall_back (K : PySem.W.Frag) : FuncData := fdA K (a_lall_back K)
theorem Tx.d_lall_back (T : Tx w K mg) : FunD K "_law_all_back" "_law_all_back" (defArgs st_lall_back) (defBody st_lall_back) (defScope st_lall_back) (d_lall_back.dvs K) [] (a_lall_back K) (f_lall_back K) := T.def_ 65
theorem Tx.k_lall_back (T : Tx w K mg) : PySem.W.keepIn K (.ref (a_lall_back K)) = true := T.d_lall_back.kp
theorem Tx.b_lall_back (T : Tx w K mg) : Binds K (f_lall_back K) P_lall_back [] := FunD.bindsN (ps := P_lall_back) T.d_lall_back fun _ _ _ _ _ _ us hl => match us, hl with | [_, _], _ => rfl
abbrev f_llaw (K : PySem.W.Frag) : FuncData := fdA K (a_llaw K)
theorem Tx.d_llaw (T : Tx w K mg) : FunD K "law" "law" (defArgs st_llaw) (defBody st_llaw) (defScope st_llaw) (d_llaw.dvs K) [] (a_llaw K) (f_llaw K) := T.def_ 66
theorem Tx.k_llaw (T : Tx w K mg) : PySem.W.keepIn K (.ref (a_llaw K)) = true := T.d_llaw.kp
theorem Tx.b_llaw (T : Tx w K mg) : Binds K (f_llaw K) P_llaw [] := FunD.bindsN (ps := P_llaw) T.d_llaw fun _ _ _ _ _ _ us hl => match us, hl with | [_], _ => rfl
theorem Tx.g_is_integer (T : Tx w K mg) : mg "is_integer" = some (.ref (a_is_integer K)) := T.glo 0
theorem Tx.g_is_between (T : Tx w K mg) : mg "is_between" = some (.ref (a_is_between K)) := T.glo 1
theorem Tx.g_is_list (T : Tx w K mg) : mg "is_list" = some (.ref (a_is_list K)) := T.glo 2
theorem Tx.g_is_name (T : Tx w K mg) : mg "is_name" = some (.ref (a_is_name K)) := T.glo 3
theorem Tx.g_is_length (T : Tx w K mg) : mg "is_length" = some (.ref (a_is_length K)) := T.glo 4
theorem Tx.g_is_edge (T : Tx w K mg) : mg "is_edge" = some (.ref (a_is_edge K)) := T.glo 5
theorem Tx.g_odd_nodes (T : Tx w K mg) : mg "odd_nodes" = some (.ref (a_odd_nodes K)) := T.glo 6
theorem Tx.g_negative_edges (T : Tx w K mg) : mg "negative_edges" = some (.ref (a_negative_edges K)) := T.glo 7
theorem Tx.g_checked_nodes (T : Tx w K mg) : mg "checked_nodes" = some (.ref (a_checked_nodes K)) := T.glo 8
theorem Tx.g_checked_edges (T : Tx w K mg) : mg "checked_edges" = some (.ref (a_checked_edges K)) := T.glo 9
theorem Tx.g_first_unknown (T : Tx w K mg) : mg "first_unknown" = some (.ref (a_first_unknown K)) := T.glo 10
theorem Tx.g_is_change (T : Tx w K mg) : mg "is_change" = some (.ref (a_is_change K)) := T.glo 11
theorem Tx.g_network_after (T : Tx w K mg) : mg "network_after" = some (.ref (a_network_after K)) := T.glo 12
theorem Tx.g_state_of (T : Tx w K mg) : mg "state_of" = some (.ref (a_state_of K)) := T.glo 13
theorem Tx.g_lpen (T : Tx w K mg) : mg "_law_pen" = some (.ref (a_lpen K)) := T.glo 14
theorem Tx.g_ldraw (T : Tx w K mg) : mg "_law_draw" = some (.ref (a_ldraw K)) := T.glo 15
theorem Tx.g_lpick (T : Tx w K mg) : mg "_law_pick" = some (.ref (a_lpick K)) := T.glo 16
theorem Tx.g_lshuffled (T : Tx w K mg) : mg "_law_shuffled" = some (.ref (a_lshuffled K)) := T.glo 17
theorem Tx.g_lnames (T : Tx w K mg) : mg "_law_names" = some (.ref (a_lnames K)) := T.glo 18
theorem Tx.g_lsmall (T : Tx w K mg) : mg "_law_small" = some (.ref (a_lsmall K)) := T.glo 19
theorem Tx.g_lfits (T : Tx w K mg) : mg "_law_fits" = some (.ref (a_lfits K)) := T.glo 20
theorem Tx.g_lis_between (T : Tx w K mg) : mg "_law_is_between" = some (.ref (a_lis_between K)) := T.glo 21
theorem Tx.g_lis_name (T : Tx w K mg) : mg "_law_is_name" = some (.ref (a_lis_name K)) := T.glo 22
theorem Tx.g_lis_edge (T : Tx w K mg) : mg "_law_is_edge" = some (.ref (a_lis_edge K)) := T.glo 23
theorem Tx.g_lwrong_node (T : Tx w K mg) : mg "_law_wrong_node" = some (.ref (a_lwrong_node K)) := T.glo 24
theorem Tx.g_lwrong_edge (T : Tx w K mg) : mg "_law_wrong_edge" = some (.ref (a_lwrong_edge K)) := T.glo 25
theorem Tx.g_ldue (T : Tx w K mg) : mg "_law_due" = some (.ref (a_ldue K)) := T.glo 26
theorem Tx.g_lrows (T : Tx w K mg) : mg "_law_rows" = some (.ref (a_lrows K)) := T.glo 27
theorem Tx.g_lshows (T : Tx w K mg) : mg "_law_shows" = some (.ref (a_lshows K)) := T.glo 28
theorem Tx.g_lodd (T : Tx w K mg) : mg "_law_odd" = some (.ref (a_lodd K)) := T.glo 29
theorem Tx.g_lis_change (T : Tx w K mg) : mg "_law_is_change" = some (.ref (a_lis_change K)) := T.glo 30
theorem Tx.g_lone_changed (T : Tx w K mg) : mg "_law_one_changed" = some (.ref (a_lone_changed K)) := T.glo 31
theorem Tx.g_lchanged (T : Tx w K mg) : mg "_law_changed" = some (.ref (a_lchanged K)) := T.glo 32
theorem Tx.g_lchange (T : Tx w K mg) : mg "_law_change" = some (.ref (a_lchange K)) := T.glo 33
theorem Tx.g_lmake (T : Tx w K mg) : mg "_law_make" = some (.ref (a_lmake K)) := T.glo 34
theorem Tx.g_lstate (T : Tx w K mg) : mg "_law_state" = some (.ref (a_lstate K)) := T.glo 35
theorem Tx.g_lstands (T : Tx w K mg) : mg "_law_stands" = some (.ref (a_lstands K)) := T.glo 36
theorem Tx.g_lstep (T : Tx w K mg) : mg "_law_step" = some (.ref (a_lstep K)) := T.glo 37
theorem Tx.g_lfault (T : Tx w K mg) : mg "_law_fault" = some (.ref (a_lfault K)) := T.glo 38
theorem Tx.g_lreplied (T : Tx w K mg) : mg "_law_replied" = some (.ref (a_lreplied K)) := T.glo 39
theorem Tx.g_ldue_back (T : Tx w K mg) : mg "_law_due_back" = some (.ref (a_ldue_back K)) := T.glo 40
theorem Tx.g_lback (T : Tx w K mg) : mg "_law_back" = some (.ref (a_lback K)) := T.glo 41
theorem Tx.g_lmoved (T : Tx w K mg) : mg "_law_moved" = some (.ref (a_lmoved K)) := T.glo 42
theorem Tx.g_lall_back (T : Tx w K mg) : mg "_law_all_back" = some (.ref (a_lall_back K)) := T.glo 43
theorem Tx.g_llaw (T : Tx w K mg) : mg "law" = some (.ref (a_llaw K)) := T.glo 44
theorem Tx.g_InvalidNode (T : Tx w K mg) : mg "InvalidNode" = some (.ref (He.ga K "InvalidNode")) := T.glo 45
theorem Tx.g_InvalidEdge (T : Tx w K mg) : mg "InvalidEdge" = some (.ref (He.ga K "InvalidEdge")) := T.glo 46
theorem Tx.g_InvalidLength (T : Tx w K mg) : mg "InvalidLength" = some (.ref (He.ga K "InvalidLength")) := T.glo 47
theorem Tx.g_InvalidChange (T : Tx w K mg) : mg "InvalidChange" = some (.ref (He.ga K "InvalidChange")) := T.glo 48
theorem Tx.g_UnknownNode (T : Tx w K mg) : mg "UnknownNode" = some (.ref (He.ga K "UnknownNode")) := T.glo 49
theorem Tx.g_UnknownEdge (T : Tx w K mg) : mg "UnknownEdge" = some (.ref (He.ga K "UnknownEdge")) := T.glo 50
theorem Tx.g_OutOfRange (T : Tx w K mg) : mg "OutOfRange" = some (.ref (He.ga K "OutOfRange")) := T.glo 51
theorem Tx.g_TooMany (T : Tx w K mg) : mg "TooMany" = some (.ref (He.ga K "TooMany")) := T.glo 52
theorem Tx.g_NothingToUndo (T : Tx w K mg) : mg "NothingToUndo" = some (.ref (He.ga K "NothingToUndo")) := T.glo 53
theorem Tx.g_NothingToRedo (T : Tx w K mg) : mg "NothingToRedo" = some (.ref (He.ga K "NothingToRedo")) := T.glo 54
theorem Tx.g_InTrial (T : Tx w K mg) : mg "InTrial" = some (.ref (He.ga K "InTrial")) := T.glo 55
theorem Tx.g_Network (T : Tx w K mg) : mg "Network" = some (.ref (He.ga K "Network")) := T.glo 56
theorem Tx.g_Book (T : Tx w K mg) : mg "Book" = some (.ref (He.ga K "Book")) := T.glo 57
theorem Tx.g_FORMS (T : Tx w K mg) : mg "FORMS" = some (.ref (He.ga K "FORMS")) := T.glo 58
theorem Tx.f_len (T : Tx w K mg) : mg "len" = none := T.free 0
theorem Tx.f_range (T : Tx w K mg) : mg "range" = none := T.free 1
theorem Tx.f_list (T : Tx w K mg) : mg "list" = none := T.free 2
theorem Tx.f_tuple (T : Tx w K mg) : mg "tuple" = none := T.free 3
theorem Tx.f_isinstance (T : Tx w K mg) : mg "isinstance" = none := T.free 4
theorem Tx.f_int (T : Tx w K mg) : mg "int" = none := T.free 5
theorem Tx.f_bool (T : Tx w K mg) : mg "bool" = none := T.free 6
theorem Tx.f_str (T : Tx w K mg) : mg "str" = none := T.free 7
theorem Tx.f_abs (T : Tx w K mg) : mg "abs" = none := T.free 8
theorem Tx.f_sorted (T : Tx w K mg) : mg "sorted" = none := T.free 9
theorem Tx.f_min (T : Tx w K mg) : mg "min" = none := T.free 10
theorem Tx.f_max (T : Tx w K mg) : mg "max" = none := T.free 11
theorem Tx.f_repr (T : Tx w K mg) : mg "repr" = none := T.free 12
theorem Tx.f_all (T : Tx w K mg) : mg "all" = none := T.free 13
theorem Tx.f_enumerate (T : Tx w K mg) : mg "enumerate" = none := T.free 14
theorem Tx.f_super (T : Tx w K mg) : mg "super" = none := T.free 15
theorem Tx.f_ValueError (T : Tx w K mg) : mg "ValueError" = none := T.free 16
theorem Tx.f_OverflowError (T : Tx w K mg) : mg "OverflowError" = none := T.free 17
theorem Tx.f_KeyError (T : Tx w K mg) : mg "KeyError" = none := T.free 18
theorem Tx.f_IndexError (T : Tx w K mg) : mg "IndexError" = none := T.free 19
theorem Tx.f_RuntimeError (T : Tx w K mg) : mg "RuntimeError" = none := T.free 20
theorem Tx.mkN (T : Tx w K mg) : Mk K (CN K) (a_N_init K) := He.mkr_ok (T.fac 13)
theorem Tx.mkB (T : Tx w K mg) : Mk K (CB K) (a_B_init K) := He.mkr_ok (T.fac 14)
theorem Tx.m_N_need_edge (T : Tx w K mg) : Meth K (CN K) "need_edge" (a_N_need_edge K) := He.meth_ok (T.fac 15)
theorem Tx.m_N_with_nodes (T : Tx w K mg) : Meth K (CN K) "with_nodes" (a_N_with_nodes K) := He.meth_ok (T.fac 16)
theorem Tx.m_N_with_edges (T : Tx w K mg) : Meth K (CN K) "with_edges" (a_N_with_edges K) := He.meth_ok (T.fac 17)
theorem Tx.m_N_without_nodes (T : Tx w K mg) : Meth K (CN K) "without_nodes" (a_N_without_nodes K) := He.meth_ok (T.fac 18)
theorem Tx.m_N_without_edges (T : Tx w K mg) : Meth K (CN K) "without_edges" (a_N_without_edges K) := He.meth_ok (T.fac 19)
theorem Tx.m_N_edges_with (T : Tx w K mg) : Meth K (CN K) "edges_with" (a_N_edges_with K) := He.meth_ok (T.fac 20)
theorem Tx.m_N_len (T : Tx w K mg) : Meth K (CN K) "__len__" (a_N_len K) := He.meth_ok (T.fac 21)
theorem Tx.m_B_state (T : Tx w K mg) : Meth K (CB K) "state" (a_B_state K) := He.meth_ok (T.fac 22)
theorem Tx.m_B_accept (T : Tx w K mg) : Meth K (CB K) "accept" (a_B_accept K) := He.meth_ok (T.fac 23)
theorem Tx.m_B_change (T : Tx w K mg) : Meth K (CB K) "change" (a_B_change K) := He.meth_ok (T.fac 24)
theorem Tx.m_B_need_count (T : Tx w K mg) : Meth K (CB K) "need_count" (a_B_need_count K) := He.meth_ok (T.fac 25)
theorem Tx.m_B_undo (T : Tx w K mg) : Meth K (CB K) "undo" (a_B_undo K) := He.meth_ok (T.fac 26)
theorem Tx.m_B_redo (T : Tx w K mg) : Meth K (CB K) "redo" (a_B_redo K) := He.meth_ok (T.fac 27)
theorem Tx.p_N_nodes (T : Tx w K mg) : PropOf K (CN K) "nodes" (He.ma K (CN K) "nodes") (a_N_nodes K) := T.prop 0
theorem Tx.p_N_edges (T : Tx w K mg) : PropOf K (CN K) "edges" (He.ma K (CN K) "edges") (a_N_edges K) := T.prop 1
theorem Tx.p_N_names (T : Tx w K mg) : PropOf K (CN K) "names" (He.ma K (CN K) "names") (a_N_names K) := T.prop 2
theorem Tx.p_B_network (T : Tx w K mg) : PropOf K (CB K) "network" (He.ma K (CB K) "network") (a_B_network K) := T.prop 3
theorem Tx.p_B_undoable (T : Tx w K mg) : PropOf K (CB K) "undoable" (He.ma K (CB K) "undoable") (a_B_undoable K) := T.prop 4
theorem Tx.p_B_redoable (T : Tx w K mg) : PropOf K (CB K) "redoable" (He.ma K (CB K) "redoable") (a_B_redoable K) := T.prop 5
theorem Tx.p_B_depth (T : Tx w K mg) : PropOf K (CB K) "depth" (He.ma K (CB K) "depth") (a_B_depth K) := T.prop 6
theorem Tx.formsB (T : Tx w K mg) : He.valsB K (He.ga K "FORMS") formsL = true := (He.ba T.ex).2
end
end Ld
/-! Kb: data that stands still (At), how the heap goes on (Fx), the pen. -/
namespace Ld
open PySem L2 PyProof.Rows
mutual
/-- in the part R of the heap, that stands still, the value v is the data d -/
inductive At (R : Hp) : V → PyData → Prop
  | non : At R .non .none
  | bl (b : Bool) : At R (.bl b) (.bool b)
  | int (i : Int) : At R (.int i) (.int i)
  | str (x : Str) : At R (.str x) (.str x)
  | lst {a : Addr} {vs : List V} {ds : List PyData} : R a = some (.lst vs) → AtL R vs ds → At R (.ref a) (.list ds)
  | tup {a : Addr} {vs : List V} {ds : List PyData} : R a = some (.tup vs) → AtL R vs ds → At R (.ref a) (.tuple ds)
  | dic {a : Addr} (ks : List (Str × Int)) : R a = some (.dK (ks.map fun p => ((Sum.inr p.1 : Key), V.int p.2))) → At R (.ref a) (.dict (ks.map fun p => (PyData.str p.1, PyData.int p.2)))
inductive AtL (R : Hp) : List V → List PyData → Prop
  | nil : AtL R [] []
  | cons {v : V} {vs : List V} {d : PyData} {ds : List PyData} : At R v d → AtL R vs ds → AtL R (v :: vs) (d :: ds)
end
section
variable {R R' R1 R2 H H' H1 H2 : Hp} {v : V} {vs ws : List V} {d : PyData} {ds es : List PyData} {a l p : Addr} {o u : HO} {M M' : List Addr}
mutual
theorem At.mono (k : Same R R') : ∀ (d : PyData) (v : V), At R v d → At R' v d
  | .none, _, h => by cases h; exact .non
  | .bool _, _, h => by cases h; exact .bl _
  | .int _, _, h => by cases h; exact .int _
  | .str _, _, h => by cases h; exact .str _
  | .list ds, _, h => by
    cases h with
    | lst e x => exact .lst (k _ _ e) (AtL.mono k ds _ x)
  | .tuple ds, _, h => by
    cases h with
    | tup e x => exact .tup (k _ _ e) (AtL.mono k ds _ x)
  | .dict ds, _, h => by
    cases h with
    | dic ks e => exact .dic ks (k _ _ e)
theorem AtL.mono (k : Same R R') : ∀ (ds : List PyData) (vs : List V), AtL R vs ds → AtL R' vs ds
  | [], _, h => by cases h; exact .nil
  | d :: ds, _, h => by
    cases h with
    | cons x y => exact .cons (At.mono k d _ x) (AtL.mono k ds _ y)
end
theorem At.up (h : At R v d) (k : Same R R') : At R' v d := At.mono k d v h
theorem AtL.up (h : AtL R vs ds) (k : Same R R') : AtL R' vs ds := AtL.mono k ds vs h
theorem AtL.length : ∀ {vs : List V} {ds : List PyData}, AtL R vs ds → vs.length = ds.length
  | [], [], _ => rfl
  | _ :: _, _ :: _, h => by
    cases h with
    | cons x y => simp [AtL.length y]
theorem AtL.app : ∀ {vs ws : List V} {ds es : List PyData}, AtL R vs ds → AtL R ws es → AtL R (vs ++ ws) (ds ++ es)
  | [], _, [], _, _, g => g
  | _ :: _, _, _ :: _, _, h, g => by
    cases h with
    | cons x y => exact .cons x (AtL.app y g)
theorem AtL.get : ∀ {vs : List V} {ds : List PyData} {i : Nat} {v : V}, AtL R vs ds → vs[i]? = some v → ∃ d, ds[i]? = some d ∧ At R v d
  | [], [], _, _, _, e => by simp at e
  | _ :: _, _ :: _, 0, _, h, e => by
    cases h with
    | cons x y => exact ⟨_, rfl, by simp at e; rw [← e]; exact x⟩
  | _ :: _, _ :: _, i + 1, _, h, e => by
    cases h with
    | cons x y =>
      obtain ⟨d, e1, e2⟩ := AtL.get (i := i) y (by simpa using e)
      exact ⟨d, by simpa using e1, e2⟩
theorem AtL.get' : ∀ {vs : List V} {ds : List PyData} {i : Nat} {d : PyData}, AtL R vs ds → ds[i]? = some d → ∃ v, vs[i]? = some v ∧ At R v d
  | [], [], _, _, _, e => by simp at e
  | _ :: _, _ :: _, 0, _, h, e => by
    cases h with
    | cons x y => exact ⟨_, rfl, by simp at e; rw [← e]; exact x⟩
  | _ :: _, _ :: _, i + 1, _, h, e => by
    cases h with
    | cons x y =>
      obtain ⟨d, e1, e2⟩ := AtL.get' (i := i) y (by simpa using e)
      exact ⟨d, by simpa using e1, e2⟩
theorem AtL.take : ∀ {vs : List V} {ds : List PyData} (n : Nat), AtL R vs ds → AtL R (vs.take n) (ds.take n)
  | [], [], n, _ => by simp; exact .nil
  | _ :: _, _ :: _, 0, _ => .nil
  | _ :: _, _ :: _, n + 1, h => by
    cases h with
    | cons x y => exact .cons x (AtL.take n y)
theorem AtL.drop : ∀ {vs : List V} {ds : List PyData} (n : Nat), AtL R vs ds → AtL R (vs.drop n) (ds.drop n)
  | [], [], n, _ => by simp; exact .nil
  | _ :: _, _ :: _, 0, h => h
  | _ :: _, _ :: _, n + 1, h => by
    cases h with
    | cons x y => exact AtL.drop n y
theorem atL_strs (R : Hp) : ∀ (ns : List Str), AtL R (ns.map V.str) (ns.map PyData.str)
  | [] => .nil
  | _ :: r => .cons (.str _) (atL_strs R r)
theorem AtL.strs : ∀ {ns : List Str} {vs : List V}, AtL R vs (ns.map PyData.str) → vs = ns.map V.str
  | [], _, h => by cases h; rfl
  | n :: r, _, h => by
    cases h with
    | cons x y => cases x; rw [AtL.strs y]; rfl
mutual
theorem At.inj : ∀ (d : PyData) (v : V), At R v d → ∀ d', At R v d' → d = d'
  | .none, _, h, d', g => by cases h; cases g; rfl
  | .bool _, _, h, d', g => by cases h; cases g; rfl
  | .int _, _, h, d', g => by cases h; cases g; rfl
  | .str _, _, h, d', g => by cases h; cases g; rfl
  | .list ds, _, h, d', g => by
    cases h with
    | lst e x =>
      cases g with
      | lst e' x' => rw [e] at e'; cases e'; rw [AtL.inj ds _ x _ x']
      | tup e' x' => rw [e] at e'; cases e'
      | dic ks e' => rw [e] at e'; cases e'
  | .tuple ds, _, h, d', g => by
    cases h with
    | tup e x =>
      cases g with
      | lst e' x' => rw [e] at e'; cases e'
      | tup e' x' => rw [e] at e'; cases e'; rw [AtL.inj ds _ x _ x']
      | dic ks e' => rw [e] at e'; cases e'
  | .dict ds, _, h, d', g => by
    cases h with
    | dic ks e =>
      cases g with
      | lst e' x' => rw [e] at e'; cases e'
      | tup e' x' => rw [e] at e'; cases e'
      | dic ks' e' =>
        rw [e] at e'
        have q : (ks.map fun p => ((Sum.inr p.1 : Key), V.int p.2)) = ks'.map fun p => ((Sum.inr p.1 : Key), V.int p.2) := by
          injection e' with e'
          injection e'
        have f : ∀ (l m : List (Str × Int)), (l.map fun p => ((Sum.inr p.1 : Key), V.int p.2)) = (m.map fun p => ((Sum.inr p.1 : Key), V.int p.2)) → l = m := by
          intro l
          induction l with
          | nil => intro m h; cases m with | nil => rfl | cons _ _ => simp at h
          | cons x r ih =>
            intro m h
            cases m with
            | nil => simp at h
            | cons y s =>
              simp only [List.map_cons, List.cons.injEq, Prod.mk.injEq, Sum.inr.injEq, V.int.injEq] at h
              rw [ih s h.2]
              obtain ⟨x1, x2⟩ := x
              obtain ⟨y1, y2⟩ := y
              simp only at h
              rw [h.1.1, h.1.2]
        rw [f _ _ q]
theorem AtL.inj : ∀ (ds : List PyData) (vs : List V), AtL R vs ds → ∀ ds', AtL R vs ds' → ds = ds'
  | [], _, h, _, g => by cases h; cases g; rfl
  | d :: ds, _, h, _, g => by
    cases h with
    | cons x y =>
      cases g with
      | cons x' y' => rw [At.inj d _ x _ x', AtL.inj ds _ y _ y']
end
mutual
/-- data without dicts, for the layer's rules -/
theorem At.dp (K : PySem.W.Frag) (k : Same R H) : ∀ (d : PyData) (v : V), At R v d → d.hasDict = false → Dp K H v d
  | .none, _, h, _ => by cases h; exact .non
  | .bool _, _, h, _ => by cases h; exact .bl _
  | .int _, _, h, _ => by cases h; exact .int _
  | .str _, _, h, _ => by cases h; exact .str _
  | .list ds, _, h, n => by
    cases h with
    | lst e x => exact .lst (SqL.of (k _ _ e)) (AtL.dp K k ds _ x (by simpa [PyData.hasDict] using n))
  | .tuple ds, _, h, n => by
    cases h with
    | tup e x => exact .tup (SqT.of (k _ _ e)) (AtL.dp K k ds _ x (by simpa [PyData.hasDict] using n))
  | .dict ds, _, h, n => by simp [PyData.hasDict] at n
theorem AtL.dp (K : PySem.W.Frag) (k : Same R H) : ∀ (ds : List PyData) (vs : List V), AtL R vs ds → PyData.hasDictAll ds = false → DpAll K H vs ds
  | [], _, h, _ => by cases h; exact .nil
  | d :: ds, _, h, n => by
    cases h with
    | cons x y =>
      simp only [PyData.hasDictAll, Bool.or_eq_false_iff] at n
      exact .cons (At.dp K k d _ x n.1) (AtL.dp K k ds _ y n.2)
end
/-- its type's name -/
def tyN : PyData → String
  | .none => "NoneType"
  | .bool _ => "bool"
  | .int _ => "int"
  | .str _ => "str"
  | .list _ => "list"
  | .tuple _ => "tuple"
  | .dict _ => "dict"
theorem At.tyx {K : PySem.W.Frag} (k : Same R H) (h : At R v d) : TyX K H v (.type (tyN d)) := by
  cases h with
  | non => exact .base .non
  | bl b => exact .base (.bl b)
  | int i => exact .base (.int i)
  | str x => exact .base (.str x)
  | lst e _ => exact .base (.lst (k _ _ e))
  | tup e _ => exact .base (.tup (k _ _ e))
  | dic ks e => exact .base (.dK (k _ _ e))

/-! ### how the heap goes on -/
/-- from (R, H) to (R', H'): what stood still stands still, only new things came to it; but for what stands at M all is as it was -/
structure Fx (M : List Addr) (R H R' H' : Hp) : Prop where
  rr : Same R R'
  rh : Same R' H'
  fr : ∀ a o, R' a = some o → R a = some o ∨ H a = none
  kp : ∀ a o, H a = some o → a ∉ M → H' a = some o
  th : ∀ a o, H a = some o → ∃ o', H' a = some o'
theorem Fx.refl (h : Same R H) : Fx M R H R H := ⟨Same.refl R, h, fun _ _ e => .inl e, fun _ _ e _ => e, fun _ o e => ⟨o, e⟩⟩
theorem Fx.trans (f : Fx M R H R1 H1) (g : Fx M R1 H1 R2 H2) : Fx M R H R2 H2 where
  rr := f.rr.trans g.rr
  rh := g.rh
  fr := fun a o e => by
    rcases g.fr a o e with x | x
    · exact f.fr a o x
    · right
      cases q : H a with
      | none => rfl
      | some y =>
        obtain ⟨z, e1⟩ := f.th a y q
        rw [x] at e1
        cases e1
  kp := fun a o e n => g.kp a o (f.kp a o e n) n
  th := fun a o e => by
    obtain ⟨o', e'⟩ := f.th a o e
    exact g.th a o' e'
theorem Fx.sub (f : Fx M R H R' H') (h : ∀ a, a ∈ M → a ∈ M') : Fx M' R H R' H' := ⟨f.rr, f.rh, f.fr, fun a o e n => f.kp a o e fun z => n (h a z), f.th⟩
/-- .. with a callee's way -/
theorem Fx.then (f : Fx M R H R1 H1) (g : Fx M' R1 H1 R2 H2) (h : ∀ a, a ∈ M' → a ∈ M) : Fx M R H R2 H2 := f.trans (g.sub h)
/-- a local of this def is not told -/
theorem Fx.drop (f : Fx (l :: M) R H R' H') (n : H l = none) : Fx M R H R' H' := ⟨f.rr, f.rh, f.fr, fun a o e q => f.kp a o e fun z => (List.mem_cons.mp z).elim (fun y => by rw [y, n] at e; cases e) q, f.th⟩
theorem Fx.gone (f : Fx M R H R' H') (n : H' p = none) : H p = none := by
  cases q : H p with
  | none => rfl
  | some y =>
    obtain ⟨z, e⟩ := f.th p y q
    rw [n] at e
    cases e
/-- a new object that stands still -/
theorem Fx.newR (f : Fx M R H R1 H1) (n : H1 p = none) : Fx M R H (upd R1 p o) (upd H1 p o) where
  rr := fun a u e => by rw [upd_ne (ne_of_none (f.rh _ _ (f.rr _ _ e)) n)]; exact f.rr _ _ e
  rh := fun a u e => by
    by_cases h : a = p
    · rw [h, upd_same] at e; rw [h, upd_same]; exact e
    · rw [upd_ne h] at e ⊢; exact f.rh _ _ e
  fr := fun a u e => by
    by_cases h : a = p
    · right; rw [h]; exact f.gone n
    · rw [upd_ne h] at e; exact f.fr a u e
  kp := fun a u e q => by rw [upd_ne (ne_of_none (f.kp a u e q) n)]; exact f.kp a u e q
  th := fun a u e => by
    obtain ⟨x, e1⟩ := f.th a u e
    exact ⟨x, by rw [upd_ne (ne_of_none e1 n)]; exact e1⟩
/-- a new object of this def's own -/
theorem Fx.newH (f : Fx M R H R1 H1) (n : H1 p = none) : Fx M R H R1 (upd H1 p o) where
  rr := f.rr
  rh := fun a u e => by rw [upd_ne (ne_of_none (f.rh _ _ e) n)]; exact f.rh _ _ e
  fr := f.fr
  kp := fun a u e q => by rw [upd_ne (ne_of_none (f.kp a u e q) n)]; exact f.kp a u e q
  th := fun a u e => by
    obtain ⟨x, e1⟩ := f.th a u e
    exact ⟨x, by rw [upd_ne (ne_of_none e1 n)]; exact e1⟩
/-- what does not stand still is written -/
theorem Fx.put (f : Fx M R H R1 H1) (hR : R1 l = none) (hm : l ∈ M ∨ H l = none) : Fx M R H R1 (upd H1 l o) where
  rr := f.rr
  rh := fun a u e => by rw [upd_ne (ne_of_none e hR)]; exact f.rh _ _ e
  fr := f.fr
  kp := fun a u e q => by
    have h : a ≠ l := fun z => by
      rcases hm with x | x
      · exact q (by rw [z]; exact x)
      · rw [z, x] at e; cases e
    rw [upd_ne h]
    exact f.kp a u e q
  th := fun a u e => by
    by_cases h : a = l
    · exact ⟨o, by rw [h, upd_same]⟩
    · rw [upd_ne h]; exact f.th a u e
/-- from now on it stands still -/
theorem Fx.freeze (f : Fx M R H R1 H1) (hl : H1 l = some o) (n : H l = none) : Fx M R H (upd R1 l o) H1 where
  rr := fun a u e => by
    by_cases h : a = l
    · rw [h, upd_same]
      rw [h] at e
      have q := f.rh _ _ (f.rr _ _ e)
      rw [hl] at q
      exact q
    · rw [upd_ne h]; exact f.rr _ _ e
  rh := fun a u e => by
    by_cases h : a = l
    · rw [h, upd_same] at e
      rw [h]
      rw [← e]
      exact hl
    · rw [upd_ne h] at e; exact f.rh _ _ e
  fr := fun a u e => by
    by_cases h : a = l
    · right; rw [h]; exact n
    · rw [upd_ne h] at e; exact f.fr a u e
  kp := f.kp
  th := f.th
/-- what was there and did not stand still does not stand still now -/
theorem Fx.nr (f : Fx M R H R' H') (h : R l = none) (e : H l = some o) : R' l = none := by
  cases q : R' l with
  | none => rfl
  | some x =>
    rcases f.fr l x q with y | y
    · rw [h] at y; cases y
    · rw [e] at y; cases y
theorem Fx.rhn (f : Fx M R H R' H') (e : H' l = none) : R' l = none := by
  cases q : R' l with
  | none => rfl
  | some x => have := f.rh _ _ q; rw [e] at this; cases this
/-- all is as it was but for p -/
theorem Fx.but (k : Same R H) (hR : R p = none) (h : ∀ a, a ≠ p → H' a = H a) (hp : ∃ o, H' p = some o) : Fx [p] R H R H' where
  rr := Same.refl R
  rh := fun a o e => by rw [h a (ne_of_none e hR)]; exact k _ _ e
  fr := fun _ _ e => .inl e
  kp := fun a o e n => by rw [h a (fun z => n (by rw [z]; exact List.mem_singleton.mpr rfl))]; exact e
  th := fun a o e => by
    by_cases q : a = p
    · rw [q]; exact hp
    · exact ⟨o, by rw [h a q]; exact e⟩

/-! ### the pen -/
def penO (c : Addr) (u : Nat) (l : Int) : HO := .dK [((Sum.inr "cells" : Key), .ref c), (Sum.inr "used", .int (u : Int)), (Sum.inr "left", .int l)]
/-- the pen stands at p, u cells are used -/
structure PenAt (R H : Hp) (p : Addr) (u : Nat) : Prop where
  fr : R p = none
  ob : ∃ (c : Addr) (cs : List Int) (l : Int), H p = some (penO c u l) ∧ 0 ≤ l ∧ R c = some (.lst (cs.map V.int))
theorem PenAt.up (h : PenAt R H p u') (f : Fx M R H R' H') (n : p ∉ M) : PenAt R' H' p u' := by
  obtain ⟨c, cs, l, e1, e2, e3⟩ := h.ob
  exact ⟨f.nr h.fr e1, c, cs, l, f.kp _ _ e1 n, e2, f.rr _ _ e3⟩
end
end Ld
/-! Kc: small rules and facts. -/
namespace Ld
open PySem L2 PyProof.Rows
abbrev St := L2.St
section
variable {X : Cx} {st : Stmt} {rest : List Stmt} {t u : TS}
/-- what holds between two statements is named once -/
def tCut (t u : TS) : TS := fun D σ H => ∃ Mid : St → Hp → Prop, t { D with nx := Mid } σ H ∧ ∀ σ' H', Mid σ' H' → u D σ' H'
theorem pss_cut2 (h1 : PS X st t) (h2 : PSs X rest u) : PSs X (st :: rest) (tCut t u) := by
  refine ⟨fun pins s σ H D I h => ?_⟩
  obtain ⟨Mid, a, b⟩ := h
  refine wpAny_execs_cons (thn (h1.run pins s σ H { D with nx := Mid } I a) fun f s1 q => ?_)
  cases f with
  | next =>
    obtain ⟨σ', H', I', q⟩ := q
    exact h2.run pins s1 σ' H' D I' (b _ _ q)
  | ret v => exact q
  | brk => exact q
  | cont => exact q
end
theorem dgetS {H : Hp} {a : Addr} {kvs : List (Key × V)} {z : Str} {v : V} (h : H a = some (.dK kvs)) (e : valV kvs (Sum.inr z : Key) = some v) : DGet H a (.str z) (some v) := by
  rw [← e]
  exact DGet.k (k := Sum.inr z) h
theorem dputS {H : Hp} {a : Addr} {kvs ls : List (Key × V)} {z : Str} {v : V} (h : H a = some (.dK kvs)) (hl : kvs.length ≤ 1000) (e : putK kvs (Sum.inr z : Key) v = ls) : DPut H a (.str z) v (upd H a (.dK ls)) := by
  rw [← e]
  exact DPut.k (k := Sum.inr z) h (small1000 hl)
theorem pen_cells (c : Addr) (u : Nat) (l : Int) : valV ([((Sum.inr "cells" : Key), V.ref c), (Sum.inr "used", .int (u : Int)), (Sum.inr "left", .int l)]) (Sum.inr "cells" : Key) = some (.ref c) := rfl
theorem pen_used (c : Addr) (u : Nat) (l : Int) : valV ([((Sum.inr "cells" : Key), V.ref c), (Sum.inr "used", .int (u : Int)), (Sum.inr "left", .int l)]) (Sum.inr "used" : Key) = some (.int u) := rfl
theorem pen_left (c : Addr) (u : Nat) (l : Int) : valV ([((Sum.inr "cells" : Key), V.ref c), (Sum.inr "used", .int (u : Int)), (Sum.inr "left", .int l)]) (Sum.inr "left" : Key) = some (.int l) := rfl
theorem pen_put_left (c : Addr) (u : Nat) (l m : Int) : putK ([((Sum.inr "cells" : Key), V.ref c), (Sum.inr "used", .int (u : Int)), (Sum.inr "left", .int l)]) (Sum.inr "left" : Key) (.int m) = [((Sum.inr "cells" : Key), V.ref c), (Sum.inr "used", .int (u : Int)), (Sum.inr "left", .int m)] := rfl
theorem pen_put_used (c : Addr) (u : Nat) (l : Int) : putK ([((Sum.inr "cells" : Key), V.ref c), (Sum.inr "used", .int (u : Int)), (Sum.inr "left", .int l)]) (Sum.inr "used" : Key) (.int ((u : Int) + 1)) = [((Sum.inr "cells" : Key), V.ref c), (Sum.inr "used", .int ((u + 1 : Nat) : Int)), (Sum.inr "left", .int l)] := rfl
theorem dp_ints {K : PySem.W.Frag} {H : Hp} : ∀ cs : List Int, DpAll K H (cs.map V.int) (cs.map PyData.int)
  | [] => .nil
  | _ :: r => .cons (.int _) (dp_ints r)
theorem canLay_ints : ∀ cs : List Int, PyData.canLayAll0 (cs.map PyData.int) = true
  | [] => by simp [PyData.canLayAll0]
  | c :: r => by simp [PyData.canLayAll0, PyData.canLay0, canLay_ints r]
theorem depth_ints : ∀ cs : List Int, PyData.depthAll (cs.map PyData.int) ≤ 1
  | [] => by simp [PyData.depthAll]
  | c :: r => by
    have h := depth_ints r
    simp only [List.map_cons, PyData.depthAll, PyData.depth]
    omega
theorem shaped_ints (cs : List Int) : SeqAt.shaped (.list (cs.map PyData.int)) = true := by
  have h := depth_ints cs
  unfold SeqAt.shaped
  rw [Bool.and_eq_true]
  exact ⟨by simp only [PyData.canLay0]; exact canLay_ints cs, decide_eq_true (by simp only [PyData.depth]; omega)⟩
theorem shaped_nil : SeqAt.shaped (.list []) = true := by decide +kernel
theorem dp_nil {K : PySem.W.Frag} {H : Hp} {p : Addr} (h : H p = some (.lst [])) : Dp K H (.ref p) (.list []) := .lst (SqL.of h) .nil
end Ld
/-! Kd: rules: a text beside data of any kind (==, !=, in), isinstance of data. -/
namespace Ld
open PySem L2 PyProof.Rows MeetsSeq AutoSeq1
/-- the data is this text -/
def isS (x : Str) : PyData → Bool
  | .str y => x == y
  | _ => false
def inS (d : PyData) (ns : List Str) : Bool := ns.any fun n => isS n d
theorem dict_eq_declines_str (l : Addr) (b : Str) (u : Tok) :
    Meets (Builtin.«dict.__eq__» ⟨[.ref l, .str b u], []⟩) (fun _ R s => (∃ o, s.heap.get? l = some o ∧ o.cls = .type "dict") ∧ R (.ok (.ret .notImplemented)) s) :=
  .of_wp fun prog w A R s h => by obtain ⟨hp, g, d, tk, os⟩ := s; obtain ⟨⟨o, hl, hc⟩, h⟩ := h; have f1 := PySem.F.sub_str_dict; wp_walk using wpAny_loadPart' hl, wpAny_load hl; exact ⟨_, rfl, h⟩
theorem dict_ne_declines_str (l : Addr) (b : Str) (u : Tok) :
    Meets (Builtin.«dict.__ne__» ⟨[.ref l, .str b u], []⟩) (fun _ R s => (∃ o, s.heap.get? l = some o ∧ o.cls = .type "dict") ∧ R (.ok (.ret .notImplemented)) s) :=
  .of_wp fun prog w A R s h => by obtain ⟨hp, g, d, tk, os⟩ := s; obtain ⟨⟨o, hl, hc⟩, h⟩ := h; have f1 := PySem.F.sub_str_dict; wp_walk using wpAny_loadPart' hl, wpAny_load hl; exact ⟨_, rfl, h⟩
theorem str_eq_declines_dict (b : Str) (u : Tok) (l : Addr) :
    Meets (Builtin.«str.__eq__» ⟨[.str b u, .ref l], []⟩) (fun _ R s => (∃ o es ep, s.heap.get? l = some o ∧ o.cls = .type "dict" ∧ o.data = .dict es ep) ∧ R (.ok (.ret .notImplemented)) s) :=
  .of_wp fun prog w A R s h => by obtain ⟨hp, g, d, tk, os⟩ := s; obtain ⟨⟨⟨oc, od, dt, sl⟩, es, ep, hl, hc, hd⟩, h⟩ := h; simp only at hc hd; subst hc hd; wp_walk using wpAny_loadPart' hl, wpAny_load hl; exact ⟨_, rfl, h⟩
theorem str_ne_declines_dict (b : Str) (u : Tok) (l : Addr) :
    Meets (Builtin.«str.__ne__» ⟨[.str b u, .ref l], []⟩) (fun _ R s => (∃ o es ep, s.heap.get? l = some o ∧ o.cls = .type "dict" ∧ o.data = .dict es ep) ∧ R (.ok (.ret .notImplemented)) s) :=
  .of_wp fun prog w A R s h => by obtain ⟨hp, g, d, tk, os⟩ := s; obtain ⟨⟨⟨oc, od, dt, sl⟩, es, ep, hl, hc, hd⟩, h⟩ := h; simp only at hc hd; subst hc hd; wp_walk using wpAny_loadPart' hl, wpAny_load hl; exact ⟨_, rfl, h⟩
section
variable {A : Around} {s : Shared}
theorem rcAt_str_dict {l : Addr} {o : Obj} {es : _} {ep : _} (b : Str) (u : Tok) (ho : s.heap.get? l = some o) (hc : o.cls = .type "dict") (hd : o.data = .dict es ep) (hu : A.units < cLine) : SeqAt.RcAt A s (.str b u) (.ref l) false := fun prog w E Q h =>
  SeqAt.rc_eq_decline_or (k := false) (typeIs_str s b u) ⟨_, ho, hc⟩ (by decide) PySem.F.sub_dict_str PySem.F.slot_str_eq PySem.F.slot_dict_eq_refl
    (fun _ hq => call_meets PySem.F.slot_str_eq (typeIs_str s b u) PySem.F.entry_str_eq (PySem.F.args_str_eq_2 _ _) (str_eq_declines_dict b u l) ⟨⟨o, es, ep, ho, hc, hd⟩, hq⟩)
    (fun _ hq => call_meets PySem.F.slot_dict_eq_refl ⟨_, ho, hc⟩ PySem.F.entry_dict_eq (PySem.F.args_dict_eq_2 _ _) (dict_eq_declines_str l b u) ⟨⟨o, ho, hc⟩, hq⟩)
    (fun _ hq => wpAny_of_eq (rfl : isSame (.str b u) (.ref l) = pure false) hq) (.inr hu) h
theorem eqAt_str_dict {l : Addr} {o : Obj} {es : _} {ep : _} (b : Str) (u : Tok) (ho : s.heap.get? l = some o) (hc : o.cls = .type "dict") (hd : o.data = .dict es ep) (hu : A.units < cLine) : SeqAt.EqAt A s (.str b u) (.ref l) false := fun prog w E Q h => by
  unfold eqBool
  refine wpAny_holding ?_
  refine wpAny_ite_split (fun hab => absurd (eq_of_beq hab) nofun) (fun _ => ?_)
  exact wpAny_bind (rcAt_str_dict b u ho hc hd hu prog w E _ (wpAny_truthy_bool h))
theorem rcNeAt_str_dict {l : Addr} {o : Obj} {es : _} {ep : _} (b : Str) (u : Tok) (ho : s.heap.get? l = some o) (hc : o.cls = .type "dict") (hd : o.data = .dict es ep) (hu : A.units < cLine) : SeqAt.RcNeAt A s (.str b u) (.ref l) true := fun prog w E Q h =>
  SeqAt.rc_ne_decline_or (k := false) (typeIs_str s b u) ⟨_, ho, hc⟩ (by decide) PySem.F.sub_dict_str PySem.F.slot_str_ne PySem.F.slot_dict_ne_refl
    (fun _ hq => call_meets PySem.F.slot_str_ne (typeIs_str s b u) PySem.F.entry_str_ne (PySem.F.args_str_ne_2 _ _) (str_ne_declines_dict b u l) ⟨⟨o, es, ep, ho, hc, hd⟩, hq⟩)
    (fun _ hq => call_meets PySem.F.slot_dict_ne_refl ⟨_, ho, hc⟩ PySem.F.entry_dict_ne (PySem.F.args_dict_ne_2 _ _) (dict_ne_declines_str l b u) ⟨⟨o, ho, hc⟩, hq⟩)
    (fun _ hq => wpAny_of_eq (rfl : isSame (.str b u) (.ref l) = pure false) hq) (.inr hu) h
end
section
variable {X : Cx} {pins : List (Addr × Obj)} {σ : St} {H R : Hp} {s : Shared}
theorem dict_obj (I : Inv X pins σ H s) {a : Addr} {kvs : List (Key × V)} (h : H a = some (.dK kvs)) : ∃ o es ep, s.heap.get? a = some o ∧ o.cls = .type "dict" ∧ o.data = .dict es ep := by
  obtain ⟨_, _, vs, _, d⟩ := (show ObjOk X.prog X.w H s.heap a (.dK kvs) from I.hok a _ h)
  obtain ⟨o, es, ep, h1, h2, h3, _⟩ := d
  exact ⟨o, es, ep, h1, h2.1, h3⟩
/-- a text beside data: equal only to the same text -/
theorem eqAt_str_data (I : Inv X pins σ H s) {A : Around} (k : Same R H) {v : V} {d : PyData} {u : Value} (h : At R v d) (r : RelV v u) (x : Str) (t : Tok) (hu : A.units < cLine) : SeqAt.EqAt A s (.str x t) u (isS x d) := by
  cases h with
  | non => cases r; exact SeqAt.EqAt.str_none x t
  | bl b => cases r; exact SeqAt.EqAt.str_bool x t b
  | int i => obtain ⟨t', rfl⟩ := r; exact SeqAt.EqAt.str_int x t i t'
  | str y => obtain ⟨t', rfl⟩ := r; exact SeqAt.EqAt.str_str x t y t'
  | lst e _ =>
    cases r
    obtain ⟨its, _, p, _⟩ := I.list (SqL.of (k _ _ e))
    exact SeqAt.EqAt.str_list x t p.isList hu
  | tup e _ =>
    cases r
    obtain ⟨its, _, p, _⟩ := I.tuple (SqT.of (k _ _ e))
    exact SeqAt.EqAt.str_tuple x t p hu
  | dic ks e =>
    cases r
    obtain ⟨o, es, ep, h1, h2, h3⟩ := dict_obj I (k _ _ e)
    exact eqAt_str_dict x t h1 h2 h3 hu
theorem rcNe_str_data (I : Inv X pins σ H s) {A : Around} (k : Same R H) {v : V} {d : PyData} {u : Value} (h : At R v d) (r : RelV v u) (x : Str) (t : Tok) (hu : A.units < cLine) : SeqAt.RcNeAt A s (.str x t) u (!isS x d) := by
  cases h with
  | non => cases r; exact SeqAt.RcNeAt.str_none x t
  | bl b => cases r; exact SeqAt.RcNeAt.str_bool x t b
  | int i => obtain ⟨t', rfl⟩ := r; exact SeqAt.RcNeAt.str_int x t i t'
  | str y => obtain ⟨t', rfl⟩ := r; exact SeqAt.RcNeAt.str_str x t y t'
  | lst e _ =>
    cases r
    obtain ⟨its, _, p, _⟩ := I.list (SqL.of (k _ _ e))
    exact SeqAt.RcNeAt.str_list x t p.isList hu
  | tup e _ =>
    cases r
    obtain ⟨its, _, p, _⟩ := I.tuple (SqT.of (k _ _ e))
    exact SeqAt.RcNeAt.str_tuple x t p hu
  | dic ks e =>
    cases r
    obtain ⟨o, es, ep, h1, h2, h3⟩ := dict_obj I (k _ _ e)
    exact rcNeAt_str_dict x t h1 h2 h3 hu
def eqU2 (d : PyData) : Value → Bool
  | .str x _ => isS x d
  | _ => false
theorem mem_str_data (I : Inv X pins σ H s) {A : Around} (k : Same R H) {v : V} {d : PyData} {u : Value} (h : At R v d) (r : RelV v u) (hu : A.units < cLine) : ∀ {ns : List Str} {us : List Value}, Vals (ns.map V.str) us → ∀ y ∈ us, SeqAt.EqAt A s y u (eqU2 d y)
  | [], _, .nil => fun y hy => by cases hy
  | n :: ns, _ :: us, .cons ⟨t, e⟩ vs => fun y hy => by
    rcases List.mem_cons.mp hy with rfl | hy
    · rw [e]; exact eqAt_str_data I k h r n t hu
    · exact mem_str_data I k h r hu vs y hy
theorem any_str_data {d : PyData} : ∀ {ns : List Str} {us : List Value}, Vals (ns.map V.str) us → us.any (eqU2 d) = inS d ns
  | [], _, .nil => rfl
  | n :: ns, _ :: us, .cons ⟨t, e⟩ vs => by
    rw [e, List.any_cons, any_str_data vs]; rfl
end
section
variable {X : Cx}
/-- d in a list or tuple of texts -/
def rInN (K : PySem.W.Frag) (neg : Bool) : R2 := fun x y H Q => ∃ (p : Addr) (ns : List Str) (R : Hp) (d : PyData), y = .ref p ∧ (SqL K H p (ns.map V.str) ∨ SqT K H p (ns.map V.str)) ∧ Same R H ∧ At R x d ∧ Q (.bl (if neg then !inS d ns else inS d ns)) H
theorem op_inN (hu : X.A.units + 65 < cLine) : OpR X (compareOp .In) (rInN X.K false) := by
  intro pins s σ H x y v u Q I rx ry h
  obtain ⟨p, ns, R, d, rfl, hq, k, hd, q⟩ := h
  cases ry
  have hu1 : X.A.in1.units < cLine := by show X.A.units + 1 < cLine; omega
  rcases hq with hq | hq
  · obtain ⟨its, r, pl, hz⟩ := I.list hq
    refine SeqAt.in_listAt (eqU2 d) pl.isList (fun w hw => mem_str_data I k hd rx hu1 r w (by simpa using hw)) ⟨.bl _, H, I, rfl, ?_⟩
    rw [show its.toArray.any (eqU2 d) = its.any (eqU2 d) by simp, any_str_data r]
    exact q
  · obtain ⟨its, r, pl, hz⟩ := I.tuple hq
    refine SeqAt.in_tupleAt (eqU2 d) pl (fun w hw => mem_str_data I k hd rx hu1 r w (by simpa using hw)) ⟨.bl _, H, I, rfl, ?_⟩
    rw [show its.toArray.any (eqU2 d) = its.any (eqU2 d) by simp, any_str_data r]
    exact q
theorem op_notInN (hu : X.A.units + 65 < cLine) : OpR X (compareOp .NotIn) (rInN X.K true) := by
  intro pins s σ H x y v u Q I rx ry h
  obtain ⟨p, ns, R, d, rfl, hq, k, hd, q⟩ := h
  cases ry
  have hu1 : X.A.in1.units < cLine := by show X.A.units + 1 < cLine; omega
  rcases hq with hq | hq
  · obtain ⟨its, r, pl, hz⟩ := I.list hq
    refine SeqAt.notIn_listAt (eqU2 d) pl.isList (fun w hw => mem_str_data I k hd rx hu1 r w (by simpa using hw)) ⟨.bl _, H, I, rfl, ?_⟩
    rw [show its.toArray.any (eqU2 d) = its.any (eqU2 d) by simp, any_str_data r]
    exact q
  · obtain ⟨its, r, pl, hz⟩ := I.tuple hq
    refine SeqAt.notIn_tupleAt (eqU2 d) pl (fun w hw => mem_str_data I k hd rx hu1 r w (by simpa using hw)) ⟨.bl _, H, I, rfl, ?_⟩
    rw [show its.toArray.any (eqU2 d) = its.any (eqU2 d) by simp, any_str_data r]
    exact q
/-- a text != data -/
def rNeN : R2 := fun x y H Q => ∃ (n : Str) (R : Hp) (d : PyData), x = .str n ∧ Same R H ∧ At R y d ∧ Q (.bl (!isS n d)) H
theorem op_neN (hu : X.A.units + 65 < cLine) : OpR X (compareOp .NotEq) rNeN := by
  intro pins s σ H x y v u Q I rx ry h
  obtain ⟨n, R, d, rfl, k, hd, q⟩ := h
  obtain ⟨t, rfl⟩ := rx
  exact rcNe_str_data I k hd ry n t (by omega) X.prog X.w _ _ ⟨.bl _, H, I, rfl, q⟩
end
end Ld
/-! Ke: further rules: a list against [], isinstance of data, a comprehension over data. -/
namespace Ld
open PySem L2 PyProof.Rows
section
variable {X : Cx}
def isE {α : Type} : List α → Bool
  | [] => true
  | _ :: _ => false
theorem isE_len {α β : Type} : ∀ {xs : List α} {ys : List β}, xs.length = ys.length → isE xs = isE ys
  | [], [], _ => rfl
  | _ :: _, _ :: _, _ => rfl
  | [], _ :: _, h => by simp at h
  | _ :: _, [], h => by simp at h
def rL0 (K : PySem.W.Frag) (neg : Bool) : R2 := fun x y H Q => ∃ (p q : Addr) (xs : List V), x = .ref p ∧ y = .ref q ∧ SqL K H p xs ∧ SqL K H q [] ∧ Q (.bl (if neg then !isE xs else isE xs)) H
theorem op_eqL0 (hu : X.A.units + 64 < cLine) : OpR X (compareOp .Eq) (rL0 X.K false) := by
  intro pins s σ H x y v u Q I rx ry h
  obtain ⟨p, q, xs, rfl, rfl, hp, hq, k⟩ := h
  cases rx
  cases ry
  obtain ⟨its, r, pl, _⟩ := I.list hp
  obtain ⟨its', r', pl', _⟩ := I.list hq
  cases r'
  have hu0 : X.A.units < cLine := by omega
  cases xs with
  | nil =>
    cases r
    exact SeqAt.eq_listAt (e := fun _ => true) pl.isList pl'.isList rfl hu0 (fun j h1 _ => by simp at h1) ⟨.bl true, H, I, rfl, k⟩
  | cons x xs =>
    cases r with
    | cons r1 r2 => exact SeqAt.eq_list_lengthsAt pl.isList pl'.isList (by simp) hu0 ⟨.bl false, H, I, rfl, k⟩
theorem op_neL0 (hu : X.A.units + 64 < cLine) : OpR X (compareOp .NotEq) (rL0 X.K true) := by
  intro pins s σ H x y v u Q I rx ry h
  obtain ⟨p, q, xs, rfl, rfl, hp, hq, k⟩ := h
  cases rx
  cases ry
  obtain ⟨its, r, pl, _⟩ := I.list hp
  obtain ⟨its', r', pl', _⟩ := I.list hq
  cases r'
  have hu0 : X.A.units < cLine := by omega
  cases xs with
  | nil =>
    cases r
    exact SeqAt.RcNeAt.lists (e := fun _ => true) pl.isList pl'.isList rfl hu0 (fun j h1 _ => by simp at h1) X.prog X.w _ _ ⟨.bl false, H, I, rfl, k⟩
  | cons x xs =>
    cases r with
    | cons r1 r2 => exact SeqAt.RcNeAt.lists_lengths pl.isList pl'.isList (by simp) hu0 X.prog X.w _ _ ⟨.bl true, H, I, rfl, k⟩
/-- t == (), a tuple -/
def rT0 (K : PySem.W.Frag) : R2 := fun x y H Q => ∃ (p q : Addr) (xs : List V), x = .ref p ∧ y = .ref q ∧ SqT K H p xs ∧ SqT K H q [] ∧ Q (.bl (isE xs)) H
theorem op_eqT0 (hu : X.A.units + 64 < cLine) : OpR X (compareOp .Eq) (rT0 X.K) := by
  intro pins s σ H x y v u Q I rx ry h
  obtain ⟨p, q, xs, rfl, rfl, hp, hq, k⟩ := h
  cases rx
  cases ry
  obtain ⟨its, r, pl, _⟩ := I.tuple hp
  obtain ⟨its', r', pl', _⟩ := I.tuple hq
  cases r'
  have hu0 : X.A.units < cLine := by omega
  refine SeqAt.eq_tupleAt (e := fun _ => true) pl pl' hu0 (fun j _ h1 => by simp at h1) ⟨.bl _, H, I, rfl, ?_⟩
  cases xs with
  | nil => cases r; exact k
  | cons x xs =>
    cases r with
    | cons r1 r2 => exact k
end
section
variable {X : Cx} {x : Str} {i : Int} {z : Str} {pos : Pos}
theorem pe_globI (hg : Gl X x) (h : ∃ t, X.mg x = some (.int i t)) (hd : (x == ("__debug__" : Str)) = false := by decide) : PE X (.Name x pos) (tC (.int i)) := by
  obtain ⟨t, m⟩ := h
  exact pe_glob hg m ⟨_, rfl⟩ hd
theorem pe_globS (hg : Gl X x) (h : ∃ t, X.mg x = some (.str z t)) (hd : (x == ("__debug__" : Str)) = false := by decide) : PE X (.Name x pos) (tC (.str z)) := by
  obtain ⟨t, m⟩ := h
  exact pe_glob hg m ⟨_, rfl⟩ hd
end
section
variable {X : Cx}
/-- t[lo:hi], a tuple that stands still -/
def rSlX (K : PySem.W.Frag) : V → Option Int → Option Int → Hp → VK → Prop := fun x lo hi H Q => ∃ (R : Hp) (a : Addr) (xs : List V), x = .ref a ∧ Same R H ∧ R a = some (.tup xs) ∧ ∀ (R' H' : Hp) (p : Addr), Fx [] R H R' H' → R' p = some (.tup (cutV xs lo hi)) → Q (.ref p) H'
theorem cutV_all {xs : List V} {lo hi : Option Int} (h : HT.sIx xs.length 0 lo = 0 ∧ HT.sIx xs.length xs.length hi = xs.length) : cutV xs lo hi = xs := by
  unfold cutV
  rw [h.1, h.2]
  simp
theorem sl_tupX : SlR X (rSlX X.K) := by
  intro pins s σ H x v vl vu lo hi sl Q I rx hs pl pu h
  obtain ⟨R, a, xs, rfl, k, e, q⟩ := h
  exact sl_tupA pins s σ H _ v vl vu lo hi sl Q I rx hs pl pu ⟨a, xs, rfl, SqT.of (k _ _ e), fun hw => q R H a (Fx.refl k) (by rw [cutV_all hw]; exact e), fun _ p hp => q _ _ p ((Fx.refl k).newR hp) upd_same⟩
end
/-- the way of no first -/
theorem iteB {b : Bool} {A B : Prop} (hf : b = false → B) (ht : b = true → A) : if b = true then A else B := by
  cases b with
  | true => exact ht rfl
  | false => exact hf rfl
/-! ### isinstance of data -/
def isI : PyData → Bool
  | .int _ | .bool _ => true
  | _ => false
def isB : PyData → Bool
  | .bool _ => true
  | _ => false
def isSt : PyData → Bool
  | .str _ => true
  | _ => false
def isTu : PyData → Bool
  | .tuple _ => true
  | _ => false
def isLT : PyData → Bool
  | .list _ | .tuple _ => true
  | _ => false
section
variable (K : PySem.W.Frag)
theorem kI (d : PyData) : PySem.W.kitOne K (.type (tyN d)) (.type "int") = some (isI d) := by cases d <;> exact kit_ty (by dsimp only [tyN, isI, isB, isSt, isTu]; decide +kernel)
theorem kB (d : PyData) : PySem.W.kitOne K (.type (tyN d)) (.type "bool") = some (isB d) := by cases d <;> exact kit_ty (by dsimp only [tyN, isI, isB, isSt, isTu]; decide +kernel)
theorem kS (d : PyData) : PySem.W.kitOne K (.type (tyN d)) (.type "str") = some (isSt d) := by cases d <;> exact kit_ty (by dsimp only [tyN, isI, isB, isSt, isTu]; decide +kernel)
theorem kT (d : PyData) : PySem.W.kitOne K (.type (tyN d)) (.type "tuple") = some (isTu d) := by cases d <;> exact kit_ty (by dsimp only [tyN, isI, isB, isSt, isTu]; decide +kernel)
theorem kL (d : PyData) : PySem.W.kitOne K (.type (tyN d)) (.type "list") = some (match d with | .list _ => true | _ => false) := by cases d <;> exact kit_ty (by dsimp only [tyN, isI, isB, isSt, isTu]; decide +kernel)
theorem kLT (d : PyData) : PySem.W.kitAny K (.type (tyN d)) [.type "list", .type "tuple"] = some (isLT d) := by
  cases d with
  | list ds => exact kitAny_cons (kL K _) (fun h => by cases h) (fun _ => rfl)
  | tuple ds => exact kitAny_cons (kL K _) (fun _ => kitAny_cons (kT K _) (fun h => by cases h) (fun _ => rfl)) (fun h => by cases h)
  | none => exact kitAny_cons (kL K _) (fun _ => kitAny_cons (kT K _) (fun _ => rfl) (fun h => by cases h)) (fun h => by cases h)
  | bool b => exact kitAny_cons (kL K _) (fun _ => kitAny_cons (kT K _) (fun _ => rfl) (fun h => by cases h)) (fun h => by cases h)
  | int b => exact kitAny_cons (kL K _) (fun _ => kitAny_cons (kT K _) (fun _ => rfl) (fun h => by cases h)) (fun h => by cases h)
  | str b => exact kitAny_cons (kL K _) (fun _ => kitAny_cons (kT K _) (fun _ => rfl) (fun h => by cases h)) (fun h => by cases h)
  | dict b => exact kitAny_cons (kL K _) (fun _ => kitAny_cons (kT K _) (fun _ => rfl) (fun h => by cases h)) (fun h => by cases h)
end
mutual
/-- texts within are short -/
def okS : PyData → Bool
  | .str x => decide (x.length ≤ 1000)
  | .list ds | .tuple ds => okSs ds
  | _ => true
def okSs : List PyData → Bool
  | [] => true
  | d :: ds => okS d && okSs ds
end
/-! ### a comprehension that gives data -/
section
variable {J : It} {n : Nat} {G : Hp → Prop} {Y : Nat → Hp → V → Hp → Prop}
theorem lc_data (w : Walk J n G Y) {g : TG} {tt : TT} {te : TE} {sl : List Nat} {σ : St} {R1 H1 : Hp} {D : Addr} {Qd : Hp → Prop} (M : List Addr) (ff : Nat → List PyData) (E : Nat → Hp → Hp → Prop)
    (k : Same R1 H1) (hD : H1 D = none) (hM : D ∉ M) (hn : ∀ i, i < n → (ff i).length < sizeLine) (f0 : ff 0 = []) (e0 : E 0 R1 (upd H1 D (.lst [])))
    (hG : ∀ i R H, i ≤ n → Fx M R1 H1 R H → E i R H → G H)
    (hE : ∀ i R H l, R D = none → E i R H → E i R (upd H D (.lst l)))
    (hs : ∀ i x R H H' vs (Cy : V → Hp → Prop) (Cn : Hp → Prop), i < n → Fx M R1 H1 R H → R D = none → H D = some (.lst vs) → AtL R vs (ff i) → E i R H → Y i H x H' →
      (∀ R4 H4 y d, Fx M R H R4 H4 → At R4 y d → ff (i + 1) = ff i ++ [d] → E (i + 1) R4 H4 → Cy y H4) →
      (∀ R3 H3, Fx M R H R3 H3 → ff (i + 1) = ff i → E (i + 1) R3 H3 → Cn H3) →
      g x (wipe σ sl) H' fun σ2 H2 => wipe σ2 sl = wipe σ sl ∧ tt σ2 H2 fun b H3 => if b = true then te σ2 H3 Cy else Cn H3)
    (hd : ∀ R H vs, Fx M R1 H1 R H → R D = none → H D = some (.lst vs) → AtL R vs (ff n) → E n R H → Qd H) :
    ∃ W : Nat → Nat → Hp → Prop, (∃ m, W 0 m (upd H1 D (.lst []))) ∧ ∀ i m H, W i m H →
      (J.stop i H ∧ Qd H) ∨ (J.go i H ∧ ∃ Nx : Hp → Prop, (∀ H', Nx H' → ∃ m', m' < m ∧ W (i + 1) m' H') ∧ ∀ x H', J.yld i H x H' → g x (wipe σ sl) H' fun σ2 H2 => wipe σ2 sl = wipe σ sl ∧ tt σ2 H2 fun b H3 =>
        if b = true then te σ2 H3 fun y H4 => ∃ acc, H4 D = some (.lst acc) ∧ acc.length < sizeLine ∧ Nx (upd H4 D (.lst (acc ++ [y]))) else Nx H3) := by
  have F0 : Fx M R1 H1 R1 (upd H1 D (.lst [])) := (Fx.refl k).newH hD
  have rD : R1 D = none := by
    cases q : R1 D with
    | none => rfl
    | some o => have := k _ _ q; rw [hD] at this; cases this
  refine lc_it w (fun i H => ∃ R vs, Fx M R1 H1 R H ∧ R D = none ∧ H D = some (.lst vs) ∧ AtL R vs (ff i) ∧ E i R H) ⟨R1, [], F0, rD, upd_same, by rw [f0]; exact .nil, e0⟩ (fun i H hi ⟨R, vs, f, _, _, _, e⟩ => hG i R H hi f e) (fun i x H H' hi ⟨R, vs, f, r, hv, a, e⟩ y => ?_) (fun H ⟨R, vs, f, r, hv, a, e⟩ => hd R H vs f r hv a e)
  refine hs i x R H H' vs _ _ hi f r hv a e y (fun R4 H4 y d f4 h4 ef e4 => ?_) (fun R3 H3 f3 ef e3 => ?_)
  · have r4 : R4 D = none := f4.nr r hv
    have h4D : H4 D = some (.lst vs) := f4.kp _ _ hv hM
    refine ⟨vs, h4D, by rw [a.length]; exact hn i hi, R4, vs ++ [y], (f.trans f4).put r4 (.inr hD), r4, upd_same, ?_, hE _ _ _ _ r4 e4⟩
    rw [ef]
    exact (a.up f4.rr).app (.cons h4 .nil)
  · exact ⟨R3, vs, f.trans f3, f3.nr r hv, f3.kp _ _ hv hM, by rw [ef]; exact a.up f3.rr, e3⟩
end
end Ld
/-! Fb: what is a whole number, between, a list, a name, a length, an edge. -/
namespace Ld
open PySem L2 PyProof.Rows
/-- one datum in, True or False out -/
def spB (f : PyData → Bool) : Sp := fun vs H Q _ => ∃ (R : Hp) (v : V) (d : PyData), vs = [v] ∧ Same R H ∧ At R v d ∧ okS d = true ∧ ∀ R' H', Fx [] R H R' H' → Q (.bl (f d)) H'
def spBtw (f : PyData → Int → Int → Bool) : Sp := fun vs H Q _ => ∃ (R : Hp) (v : V) (d : PyData) (lo hi : Int), vs = [v, .int lo, .int hi] ∧ Same R H ∧ At R v d ∧ okS d = true ∧ ∀ R' H', Fx [] R H R' H' → Q (.bl (f d lo hi)) H'
def spEdge (f : PyData → List Str → Bool) : Sp := fun vs H Q _ => ∃ (R : Hp) (v : V) (d : PyData) (p : Addr) (ns : List Str), vs = [v, .ref p] ∧ Same R H ∧ At R v d ∧ okS d = true ∧ (R p = some (.lst (ns.map V.str)) ∨ R p = some (.tup (ns.map V.str))) ∧ ∀ R' H', Fx [] R H R' H' → Q (.bl (f d ns)) H'
def isInt : PyData → Bool
  | .int _ => true
  | _ => false
def isBtw (d : PyData) (lo hi : Int) : Bool := match d with
  | .int i => decide (lo ≤ i) && decide (i ≤ hi)
  | _ => false
def letters : Str := "abcdefghijklmnopqrstuvwxyz"
def isNameS (s : Str) : Bool := decide (1 ≤ s.length) && decide (s.length ≤ 8) && s.cps.toList.all fun c => decide (c ∈ letters.cps.toList)
def isName : PyData → Bool
  | .str s => isNameS s
  | _ => false
def isLen (d : PyData) : Bool := isBtw d (-1000000) 1000000
def isEdge (d : PyData) (ns : List Str) : Bool := match d with
  | .tuple [.str n, .str u, .str v, l] => isNameS n && isNameS u && isNameS v && inS (.str u) ns && inS (.str v) ns && !(u == v) && isLen l
  | _ => false
section
variable {P : Program} {w : World} {K : PySem.W.Frag} {mg : Str → Option Value} {base : Heap}
theorem len_spB {f : PyData → Bool} {n : Str} (vs : List V) (H : Hp) (Q : VK) (E : XK) (h : spB f vs H Q E) : vs.length = [n].length := by
  obtain ⟨R, v, d, rfl, _⟩ := h
  rfl
theorem len_spBtw {f : PyData → Int → Int → Bool} {a b c : Str} (vs : List V) (H : Hp) (Q : VK) (E : XK) (h : spBtw f vs H Q E) : vs.length = [a, b, c].length := by
  obtain ⟨R, v, d, lo, hi, rfl, _⟩ := h
  rfl
theorem len_spEdge {f : PyData → List Str → Bool} {a b : Str} (vs : List V) (H : Hp) (Q : VK) (E : XK) (h : spEdge f vs H Q E) : vs.length = [a, b].length := by
  obtain ⟨R, v, d, p, ns, rfl, _⟩ := h
  rfl
theorem ok_is_integer (T : Tx w K mg) : FnOk P w K mg base CX0 1 (a_is_integer K) (f_is_integer K) P_is_integer (spB isInt) := by
  refine T.d_is_integer.ok sc_is_integer len_spB (fun cdv A outer s H vs Q E hr h => ?_)
  obtain ⟨R, v, d, rfl, k, hd, ho, q⟩ := h
  have hu := hu_of hr
  have nd := sc_is_integer.nd
  refine ⟨_, PSs.nox (pss_one (ps_ret (pe_and (pe_callB call_isi (by rfl) T.f_isinstance boot_isinstance (pa_cons (pv 0) (pa_cons (pe_bltn (v := .ty "int") (by rfl) T.f_int boot_int rfl) pa_nil))) (pe_one (pe_not (pe_callB call_isi (by rfl) T.f_isinstance boot_isinstance (pa_cons (pv 0) (pa_cons (pe_bltn (v := .ty "bool") (by rfl) T.f_bool boot_bool rfl) pa_nil)))))))), ?_⟩
  refine ⟨v, rfl, v, _, _, _, _, rfl, .ty _, hd.tyx k, kI K d, _, rfl, ?_⟩
  refine ite2 (fun h => ?_) (fun h => ?_)
  · refine ⟨v, rfl, v, _, _, _, _, rfl, .ty _, hd.tyx k, kB K d, _, rfl, ?_⟩
    have e : isInt d = !isB d := by cases d <;> first | rfl | cases h
    have q := q R H (Fx.refl k)
    rw [e] at q
    exact q
  · have e : isInt d = false := by cases d <;> first | rfl | exact absurd rfl h
    have q := q R H (Fx.refl k)
    rw [e] at q
    exact q
theorem ok_is_between (T : Tx w K mg) : FnOk P w K mg base CX0 2 (a_is_between K) (f_is_between K) P_is_between (spBtw isBtw) := by
  refine T.d_is_between.ok sc_is_between len_spBtw (fun cdv A outer s H vs Q E hr h => ?_)
  obtain ⟨R, v, d, lo, hi, rfl, k, hd, ho, q⟩ := h
  have hu := hu_of hr
  have nd := sc_is_between.nd
  refine ⟨_, PSs.nox (pss_one (ps_ret (pe_and (pe_call (ok_is_integer T) (hr.mono (by decide)) (by rfl) T.g_is_integer T.k_is_integer T.b_is_integer .nil pass0 (pa_cons (pv 0) pa_nil)) (pe_one (pe_chain op_le op_le (pv 1) (pv 0) (pv 2)))))), ?_⟩
  refine ⟨v, rfl, R, v, d, rfl, k, hd, ho, fun R1 H1 f1 => ?_⟩
  refine ⟨_, rfl, ?_⟩
  refine ite2 (fun h => ?_) (fun h => ?_)
  · cases d with
    | int i =>
      cases hd
      refine ⟨_, rfl, _, rfl, _, _, rfl, rfl, _, rfl, ?_⟩
      have q := q R1 H1 f1
      refine ite2 (fun h => ?_) (fun h => ?_)
      · refine ⟨_, rfl, _, _, rfl, rfl, ?_⟩
        rw [show isBtw (.int i) lo hi = (decide (lo ≤ i) && decide (i ≤ hi)) from rfl, h, Bool.true_and] at q
        exact q
      · rw [show isBtw (.int i) lo hi = (decide (lo ≤ i) && decide (i ≤ hi)) from rfl, Bool.eq_false_iff.mpr h, Bool.false_and] at q
        exact q
    | _ => cases h
  · have e : isBtw d lo hi = false := by cases d <;> first | rfl | exact absurd rfl h
    have q := q R1 H1 f1
    rw [e] at q
    exact q
theorem ok_lis_between (T : Tx w K mg) : FnOk P w K mg base CX0 1 (a_lis_between K) (f_lis_between K) P_lis_between (spBtw isBtw) := by
  refine T.d_lis_between.ok sc_lis_between len_spBtw (fun cdv A outer s H vs Q E hr h => ?_)
  obtain ⟨R, v, d, lo, hi, rfl, k, hd, ho, q⟩ := h
  have hu := hu_of hr
  have nd := sc_lis_between.nd
  have q := q R H (Fx.refl k)
  refine ⟨_, PSs.nox (pss_one (ps_ret (pe_and (pe_callB call_isi (by rfl) T.f_isinstance boot_isinstance (pa_cons (pv 0) (pa_cons (pe_bltn (v := .ty "int") (by rfl) T.f_int boot_int rfl) pa_nil))) (pe_and (pe_not (pe_callB call_isi (by rfl) T.f_isinstance boot_isinstance (pa_cons (pv 0) (pa_cons (pe_bltn (v := .ty "bool") (by rfl) T.f_bool boot_bool rfl) pa_nil)))) (pe_one (pe_chain op_le op_le (pv 1) (pv 0) (pv 2))))))), ?_⟩
  refine ⟨v, rfl, v, _, _, _, _, rfl, .ty _, hd.tyx k, kI K d, _, rfl, ?_⟩
  refine ite2 (fun h => ?_) (fun h => ?_)
  · refine ⟨v, rfl, v, _, _, _, _, rfl, .ty _, hd.tyx k, kB K d, _, rfl, _, rfl, ?_⟩
    refine ite2 (fun h2 => ?_) (fun h2 => ?_)
    · cases d with
      | int i =>
        cases hd
        refine ⟨_, rfl, _, rfl, _, _, rfl, rfl, _, rfl, ?_⟩
        refine ite2 (fun h => ?_) (fun h => ?_)
        · refine ⟨_, rfl, _, _, rfl, rfl, ?_⟩
          rw [show isBtw (.int i) lo hi = (decide (lo ≤ i) && decide (i ≤ hi)) from rfl, h, Bool.true_and] at q
          exact q
        · rw [show isBtw (.int i) lo hi = (decide (lo ≤ i) && decide (i ≤ hi)) from rfl, Bool.eq_false_iff.mpr h, Bool.false_and] at q
          exact q
      | bool b => cases h2
      | _ => cases h
    · have e : isBtw d lo hi = false := by cases d <;> first | rfl | exact absurd rfl h2
      rw [e] at q
      exact q
  · have e : isBtw d lo hi = false := by cases d <;> first | rfl | exact absurd rfl h
    rw [e] at q
    exact q
theorem ok_is_list (T : Tx w K mg) : FnOk P w K mg base CX0 1 (a_is_list K) (f_is_list K) P_is_list (spB isLT) := by
  refine T.d_is_list.ok sc_is_list len_spB (fun cdv A outer s H vs Q E hr h => ?_)
  obtain ⟨R, v, d, rfl, k, hd, ho, q⟩ := h
  have hu := hu_of hr
  have nd := sc_is_list.nd
  refine ⟨_, PSs.nox (pss_one (ps_ret (pe_callB call_isiT (by rfl) T.f_isinstance boot_isinstance (pa_cons (pv 0) (pa_cons (pe_tup (pa_cons (pe_bltn (v := .ty "list") (by rfl) T.f_list boot_list rfl) (pa_cons (pe_bltn (v := .ty "tuple") (by rfl) T.f_tuple boot_tuple rfl) pa_nil))) pa_nil))))), ?_⟩
  refine ⟨v, rfl, by show 2 ≤ sizeLine; decide, fun t ht => ?_⟩
  have f1 := (Fx.refl (M := []) k).newH (o := .tup [.ty "list", .ty "tuple"]) ht
  exact ⟨v, t, _, _, _, _, rfl, upd_same, .cons (.ty _) (.cons (.ty _) .nil), hd.tyx f1.rh, kLT K d, q _ _ f1⟩
theorem ok_is_length (T : Tx w K mg) : FnOk P w K mg base CX0 3 (a_is_length K) (f_is_length K) P_is_length (spB isLen) := by
  refine T.d_is_length.ok sc_is_length len_spB (fun cdv A outer s H vs Q E hr h => ?_)
  obtain ⟨R, v, d, rfl, k, hd, ho, q⟩ := h
  have hu := hu_of hr
  have nd := sc_is_length.nd
  refine ⟨_, PSs.nox (pss_one (ps_ret (pe_call (ok_is_between T) (hr.mono (by decide)) (by rfl) T.g_is_between T.k_is_between T.b_is_between .nil pass0 (pa_cons (pv 0) (pa_cons (pe_un un_neg (pe_globI (by rfl) T.c_MAX_LENGTH)) (pa_cons (pe_globI (by rfl) T.c_MAX_LENGTH) pa_nil)))))), ?_⟩
  exact ⟨v, rfl, _, rfl, R, v, d, _, _, rfl, k, hd, ho, q⟩
end
section
variable {P : Program} {w : World} {K : PySem.W.Frag} {mg : Str → Option Value} {base : Heap}
theorem bools_all (z : Str) : ∀ i ≤ z.cps.size, ((z.cps.toList.take i).map fun c => PyData.bool (decide (c ∈ letters.cps.toList))).length < sizeLine → True := fun _ _ _ => trivial
theorem take_snoc {α : Type} (l : List α) (i : Nat) (h : i < l.length) : l.take (i + 1) = l.take i ++ [l[i]] := by
  rw [List.take_succ, List.getElem?_eq_getElem h]
  rfl
theorem atL_bools {R : Hp} : ∀ {bs : List Bool} {vs : List V}, AtL R vs (bs.map PyData.bool) → vs = bs.map V.bl
  | [], _, h => by cases h; rfl
  | n :: r, _, h => by
    cases h with
    | cons x y => cases x; rw [atL_bools y]; rfl
theorem ok_is_name (T : Tx w K mg) : FnOk P w K mg base CX0 1 (a_is_name K) (f_is_name K) P_is_name (spB isName) := by
  refine T.d_is_name.ok sc_is_name len_spB (fun cdv A outer s H vs Q E hr h => ?_)
  obtain ⟨R, v, d, rfl, k, hd, ho, q⟩ := h
  have hu := hu_of hr
  have nd := sc_is_name.nd
  refine ⟨_, PSs.nox (pss_cons (ps_if (PW.pt (pw_or (pt_not (pt_val (pe_callB call_isi (by rfl) T.f_isinstance boot_isinstance (pa_cons (pv 0) (pa_cons (pe_bltn (v := .ty "str") (by rfl) T.f_str boot_str rfl) pa_nil))))) (pw_or1 (pt_not (pt_chain op_le op_le pe_int (pe_callB call_len_str (by rfl) T.f_len boot_len (pa_cons (pv 0) pa_nil)) (pe_globI (by rfl) T.c_MAX_NAME))))))
      (pss_one (ps_ret pe_bl))
      pss_nil)
    (pss_one (ps_ret (pe_callB (cr_all rfl) (by rfl) T.f_all boot_all (pa_cons (pe_lc (own := [("letter", 1)]) (g := (gName 1)) (tt := tYes) (by rfl) nd (pi_str (pv 0)) (blkOk_by (N := N_is_name) (sc := defScope st_is_name) (by decide +kernel)) (fun _ _ _ _ _ => (pg_name (i := 1) nd rfl (Or.inl rfl))) (fun _ _ _ _ _ => pts_nil) (fun _ _ _ _ _ => (pe_cmpR op_in_sign (pv 1) (pe_globS (by rfl) T.c_LETTERS) (by rfl)))) pa_nil))))), ?_⟩
  refine ⟨v, rfl, v, _, _, _, _, rfl, .ty _, hd.tyx k, kS K d, _, rfl, ?_⟩
  have no : isSt d = false → isName d = false := by cases d <;> first | (intro _; rfl) | (intro h; cases h)
  cases hS : isSt d with
  | false =>
    refine iteT ?_
    have q := q R H (Fx.refl k)
    rw [no hS] at q
    exact iteT q
  | true =>
    cases d with
    | str z =>
      cases hd
      have hz : z.length ≤ 1000 := of_decide_eq_true ho
      refine iteF ?_
      refine ⟨_, rfl, z, rfl, by have := sizeLine_eq; omega, _, _, rfl, rfl, _, rfl, ?_⟩
      have q0 := q R H (Fx.refl k)
      refine ite2 (fun h1 => ?_) (fun h1 => ?_)
      · have h1 := of_decide_eq_true h1
        refine ⟨_, _, rfl, rfl, _, rfl, ?_⟩
        refine ite2 (fun h2 => ?_) (fun h2 => ?_)
        · have h2' : ¬ (z.length : Int) ≤ 8 := by simpa using h2
          have e : isName (.str z) = false := by
            show (_ && _ && _) = false
            rw [decide_eq_false (by omega : ¬ z.length ≤ 8), Bool.and_false, Bool.false_and]
          rw [e] at q0
          exact q0
        · have h2' : (z.length : Int) ≤ 8 := by simpa using h2
          have e : isName (.str z) = z.cps.toList.all fun c => decide (c ∈ letters.cps.toList) := by
            show (_ && _ && _) = _
            rw [decide_eq_true (by omega : 1 ≤ z.length), decide_eq_true (by omega : z.length ≤ 8), Bool.true_and, Bool.true_and]
          refine ⟨_, rfl, _, rfl, fun D hD => ?_⟩
          refine lc_data walk_str [] (fun i => (z.cps.toList.take i).map fun c => PyData.bool (decide (c ∈ letters.cps.toList))) (fun _ _ _ => True) k hD (by simp) (fun i hi => ?_) rfl trivial (fun _ _ _ _ _ _ => trivial) (fun _ _ _ _ _ _ => trivial) (fun i x R' H' H'' vs Cy Cn hi f r hv a e y ky kn => ?_) (fun R' H' vs f r hv a _ => ?_)
          · have := sizeLine_eq
            simp only [List.length_map, List.length_take]
            have : z.cps.size = z.length := rfl
            omega
          · obtain ⟨rfl, c, hc, rfl⟩ := y
            refine ⟨rfl, ?_⟩
            refine iteT (B := Cn H'') ?_
            refine ⟨_, rfl, c, _, rfl, rfl, ?_⟩
            refine ky R' H'' _ _ (Fx.refl f.rh) (.bl _) ?_ trivial
            have hi' : i < z.cps.toList.length := by simpa using hi
            rw [take_snoc _ _ hi', List.map_append]
            have : z.cps.toList[i] = c := by
              have := (Array.getElem?_eq_some_iff.mp hc).2
              simpa using this
            rw [this]
            rfl
          · have ev := atL_bools (bs := z.cps.toList.map fun c => decide (c ∈ letters.cps.toList)) (R := R') (vs := vs) (by
              have : z.cps.toList.take z.cps.size = z.cps.toList := by rw [List.take_of_length_le (by simp)]
              rw [this] at a
              rw [List.map_map]
              exact a)
            rw [ev] at hv
            refine ⟨D, _, rfl, SqL.of hv, ?_⟩
            have q := q R' H' f
            rw [e] at q
            rw [List.all_map]
            exact q
      · have e : isName (.str z) = false := by
          show (_ && _ && _) = false
          have h1' : ¬ (1 : Int) ≤ (z.length : Int) := by simpa using h1
          rw [decide_eq_false (by omega : ¬ 1 ≤ z.length), Bool.false_and, Bool.false_and]
        rw [e] at q0
        exact ⟨_, rfl, iteT q0⟩
    | _ => cases hS
end
end Ld
/-! Fc: is_edge, _law_is_name, _law_is_edge. -/
namespace Ld
open PySem L2 PyProof.Rows
theorem AtL.four {R : Hp} {vs : List V} {a b c d : PyData} (h : AtL R vs [a, b, c, d]) : ∃ va vb vc vd, vs = [va, vb, vc, vd] ∧ At R va a ∧ At R vb b ∧ At R vc c ∧ At R vd d := by
  cases h with
  | cons h1 h =>
    cases h with
    | cons h2 h =>
      cases h with
      | cons h3 h =>
        cases h with
        | cons h4 h =>
          cases h
          exact ⟨_, _, _, _, rfl, h1, h2, h3, h4⟩
theorem isName_str {d : PyData} (h : isName d = true) : ∃ s, d = .str s ∧ isNameS s = true := by
  cases d with
  | str s => exact ⟨s, rfl, h⟩
  | _ => cases h
theorem isEdge_a {a b c l : PyData} {ns : List Str} (h : isName a = false) : isEdge (.tuple [a, b, c, l]) ns = false := by
  cases a <;> first | rfl | skip
  cases b <;> first | rfl | skip
  cases c <;> first | rfl | skip
  show (_ && _ && _ && _ && _ && _ && _) = false
  have h : isNameS _ = false := h
  rw [h]; rfl
theorem isEdge_b {a b c l : PyData} {ns : List Str} (h : isName b = false) : isEdge (.tuple [a, b, c, l]) ns = false := by
  cases a <;> first | rfl | skip
  cases b <;> first | rfl | skip
  cases c <;> first | rfl | skip
  show (_ && _ && _ && _ && _ && _ && _) = false
  have h : isNameS _ = false := h
  rw [h, Bool.and_false]; rfl
theorem isEdge_c {a b c l : PyData} {ns : List Str} (h : isName c = false) : isEdge (.tuple [a, b, c, l]) ns = false := by
  cases a <;> first | rfl | skip
  cases b <;> first | rfl | skip
  cases c <;> first | rfl | skip
  show (_ && _ && _ && _ && _ && _ && _) = false
  have h : isNameS _ = false := h
  rw [h, Bool.and_false]; rfl
section
variable {P : Program} {w : World} {K : PySem.W.Frag} {mg : Str → Option Value} {base : Heap}
theorem seq_of (R : Hp) (p : Addr) (xs : List V) (h : R p = some (.lst xs) ∨ R p = some (.tup xs)) (K : PySem.W.Frag) {H : Hp} (k : Same R H) : SqL K H p xs ∨ SqT K H p xs := h.elim (fun h => .inl (SqL.of (k _ _ h))) (fun h => .inr (SqT.of (k _ _ h)))
theorem ok_is_edge (T : Tx w K mg) : FnOk P w K mg base CX0 4 (a_is_edge K) (f_is_edge K) P_is_edge (spEdge isEdge) := by
  refine T.d_is_edge.ok sc_is_edge len_spEdge (fun cdv A outer s H vs Q E hr h => ?_)
  obtain ⟨R, v, d, p, ns, rfl, k, hd, ho, hp, q⟩ := h
  have hu := hu_of hr
  have hu3 : (A.deeper (envOfC "is_edge" (defScope st_is_edge) s.heap.objs.size (a_is_edge K) cdv)).units + 65 < cLine := by have := hr.un; omega
  have nd := sc_is_edge.nd
  refine ⟨_, PSs.nox (pss_cons (ps_if (PW.pt (pw_or (pt_not (pt_val (pe_callB call_isi (by rfl) T.f_isinstance boot_isinstance (pa_cons (pv 0) (pa_cons (pe_bltn (v := .ty "tuple") (by rfl) T.f_tuple boot_tuple rfl) pa_nil))))) (pw_or1 (pt_cmpR op_ne (pe_callB call_len_seq (by rfl) T.f_len boot_len (pa_cons (pv 0) pa_nil)) pe_int (nomark _)))))
      (pss_one (ps_ret pe_bl))
      pss_nil)
    (pss_cons (ps_asg (pv 0) (pg_tup rfl (pgs_cons (pg_name (i := 2) nd rfl (Or.inl rfl)) (pgs_cons (pg_name (i := 3) nd rfl (Or.inl rfl)) (pgs_cons (pg_name (i := 4) nd rfl (Or.inl rfl)) (pgs_cons (pg_name (i := 5) nd rfl (Or.inl rfl)) pgs_nil))))))
    (pss_one (ps_ret (pe_and (pe_call (ok_is_name T) (hr.mono (by decide)) (by rfl) T.g_is_name T.k_is_name T.b_is_name .nil pass0 (pa_cons (pv 2) pa_nil)) (pe_and (pe_call (ok_is_name T) (hr.mono (by decide)) (by rfl) T.g_is_name T.k_is_name T.b_is_name .nil pass0 (pa_cons (pv 3) pa_nil)) (pe_and (pe_call (ok_is_name T) (hr.mono (by decide)) (by rfl) T.g_is_name T.k_is_name T.b_is_name .nil pass0 (pa_cons (pv 4) pa_nil)) (pe_and (pe_cmpR (op_inN hu3) (pv 3) (pv 1) (by rfl)) (pe_and (pe_cmpR (op_inN hu3) (pv 4) (pv 1) (by rfl)) (pe_and (pe_cmpR op_ne (pv 3) (pv 4) (nomark _)) (pe_one (pe_call (ok_is_length T) (hr.mono (by decide)) (by rfl) T.g_is_length T.k_is_length T.b_is_length .nil pass0 (pa_cons (pv 5) pa_nil))))))))))))), ?_⟩
  refine ⟨v, rfl, v, _, _, _, _, rfl, .ty _, hd.tyx k, kT K d, _, rfl, ?_⟩
  have no : isTu d = false → isEdge d ns = false := by cases d <;> first | (intro _; rfl) | (intro h; cases h)
  cases hS : isTu d with
  | false =>
    refine iteT ?_
    have q := q R H (Fx.refl k)
    rw [no hS] at q
    exact iteT q
  | true =>
    cases d with
    | tuple ds =>
      cases hd with
      | tup e hds =>
        refine iteF ?_
        rename_i a vs
        refine ⟨_, rfl, a, vs, rfl, .inr (SqT.of (k _ _ e)), rfl, _, rfl, ?_⟩
        have hl := hds.length
        refine ite2 (fun h => ?_) (fun h => ?_)
        · have h4 : ds.length ≠ 4 := by
            intro z
            rw [z] at hl
            simp [hl] at h
          have e : isEdge (.tuple ds) ns = false := by
            match ds, h4 with
            | [], _ => rfl
            | [a], _ => cases a <;> rfl
            | [a, b], _ => cases a <;> cases b <;> rfl
            | [a, b, c], _ => cases a <;> cases b <;> cases c <;> rfl
            | [a, b, c, d], h => simp at h
            | a :: b :: c :: d :: e :: r, _ => cases a <;> cases b <;> cases c <;> rfl
          have q := q R H (Fx.refl k)
          rw [e] at q
          exact q
        · have h4 : ds.length = 4 := by
            rw [← hl]
            have := h
            simp at this
            omega
          match ds, h4 with
          | [da, db, dc, dl], _ =>
            obtain ⟨va, vb, vc, vl, rfl, ha, hb, hc, hl'⟩ := hds.four
            have ho : (okS da && (okS db && (okS dc && (okS dl && true)))) = true := ho
            simp only [Bool.and_true, Bool.and_eq_true] at ho
            obtain ⟨oa, ob, oc, ol⟩ := ho
            refine ⟨_, rfl, a, _, rfl, SqT.of (k _ _ e), rfl, _, _, rfl, _, _, rfl, _, _, rfl, _, _, rfl, rfl, ?_⟩
            refine ⟨_, rfl, R, va, da, rfl, k, ha, oa, fun R1 H1 f1 => ⟨_, rfl, ?_⟩⟩
            refine iteB (fun h1 => ?_) (fun h1 => ?_)
            · have q := q R1 H1 f1
              rw [isEdge_a h1] at q
              exact q
            refine ⟨_, rfl, R1, vb, db, rfl, f1.rh, hb.up f1.rr, ob, fun R2 H2 f2 => ⟨_, rfl, ?_⟩⟩
            have f2 := f1.trans f2
            refine iteB (fun h2 => ?_) (fun h2 => ?_)
            · have q := q R2 H2 f2
              rw [isEdge_b h2] at q
              exact q
            refine ⟨_, rfl, R2, vc, dc, rfl, f2.rh, hc.up f2.rr, oc, fun R3 H3 f3 => ⟨_, rfl, ?_⟩⟩
            have f3 := f2.trans f3
            refine iteB (fun h3 => ?_) (fun h3 => ?_)
            · have q := q R3 H3 f3
              rw [isEdge_c h3] at q
              exact q
            obtain ⟨sa, rfl, na⟩ := isName_str h1
            obtain ⟨sb, rfl, nb⟩ := isName_str h2
            obtain ⟨sc, rfl, nc⟩ := isName_str h3
            cases ha
            cases hb
            cases hc
            have ee : isEdge (.tuple [.str sa, .str sb, .str sc, dl]) ns = (inS (.str sb) ns && inS (.str sc) ns && !(sb == sc) && isLen dl) := by
              show (isNameS sa && isNameS sb && isNameS sc && _ && _ && _ && _) = _
              rw [na, nb, nc]
              rfl
            rw [ee] at q
            have hp3 := seq_of R p _ hp K (f3.rr.trans f3.rh)
            refine ⟨_, rfl, _, rfl, p, ns, R3, .str sb, rfl, hp3, f3.rh, .str _, _, rfl, ?_⟩
            refine iteB (fun h4 => ?_) (fun h4 => ?_)
            · have q := q R3 H3 f3
              rw [show inS (.str sb) ns = false from h4] at q
              exact q
            refine ⟨_, rfl, _, rfl, p, ns, R3, .str sc, rfl, hp3, f3.rh, .str _, _, rfl, ?_⟩
            refine iteB (fun h5 => ?_) (fun h5 => ?_)
            · have q := q R3 H3 f3
              rw [show inS (.str sc) ns = false from h5, Bool.and_false] at q
              exact q
            have h4 : inS (.str sb) ns = true := h4
            have h5 : inS (.str sc) ns = true := h5
            rw [h4, h5, Bool.true_and, Bool.true_and] at q
            refine ⟨_, rfl, _, rfl, rfl, _, rfl, ?_⟩
            rw [dec_str]
            refine iteB (fun h6 => ?_) (fun h6 => ?_)
            · have q := q R3 H3 f3
              rw [h6] at q
              exact q
            rw [h6, Bool.true_and] at q
            exact ⟨_, rfl, R3, vl, dl, rfl, f3.rh, hl'.up f3.rr, ol, fun R4 H4 f4 => q R4 H4 (f3.trans f4)⟩
    | _ => cases hS
end
end Ld
/-! Fd: _law_is_name, _law_is_edge. -/
namespace Ld
open PySem L2 PyProof.Rows
theorem all_isE (l : List Nat) : (l.all fun c => decide (c ∈ letters.cps.toList)) = isE ((l.filter fun c => !decide (c ∈ letters.cps.toList)).map fun c => PyData.str ⟨#[c]⟩) := by
  induction l with
  | nil => rfl
  | cons a l ih =>
    rw [List.all_cons, List.filter_cons]
    by_cases h : a ∈ letters.cps.toList
    · rw [decide_eq_true h, Bool.true_and, ih]; rfl
    · rw [decide_eq_false h]; rfl
theorem isEdge_len {ds : List PyData} {ns : List Str} (h4 : ds.length ≠ 4) : isEdge (.tuple ds) ns = false := by
  match ds, h4 with
  | [], _ => rfl
  | [a], _ => cases a <;> rfl
  | [a, b], _ => cases a <;> cases b <;> rfl
  | [a, b, c], _ => cases a <;> cases b <;> cases c <;> rfl
  | [a, b, c, d], h => simp at h
  | a :: b :: c :: d :: e :: r, _ => cases a <;> cases b <;> cases c <;> rfl
section
variable {P : Program} {w : World} {K : PySem.W.Frag} {mg : Str → Option Value} {base : Heap}
theorem ok_lis_name (T : Tx w K mg) : FnOk P w K mg base CX0 1 (a_lis_name K) (f_lis_name K) P_lis_name (spB isName) := by
  refine T.d_lis_name.ok sc_lis_name len_spB (fun cdv A outer s H vs Q E hr h => ?_)
  obtain ⟨R, v, d, rfl, k, hd, ho, q⟩ := h
  have hu := hu_of hr
  have hu2 := hr.units
  have nd := sc_lis_name.nd
  refine ⟨_, PSs.nox (pss_cons (ps_set (i := 1) nd rfl (Or.inr rfl) pe_str)
    (pss_cons (ps_if (PW.pt (pw_or (pt_not (pt_val (pe_callB call_isi (by rfl) T.f_isinstance boot_isinstance (pa_cons (pv 0) (pa_cons (pe_bltn (v := .ty "str") (by rfl) T.f_str boot_str rfl) pa_nil))))) (pw_or1 (pt_not (pt_chain op_le op_le pe_int (pe_callB call_len_str (by rfl) T.f_len boot_len (pa_cons (pv 0) pa_nil)) pe_int)))))
      (pss_one (ps_ret pe_bl))
      pss_nil)
    (pss_one (ps_ret (pe_cmpR (op_eqL0 hu2) (pe_lc (own := [("_law_sign", 2)]) (g := (gName 2)) (by rfl) nd (pi_str (pv 0)) (blkOk_by (N := N_lis_name) (sc := defScope st_lis_name) (by decide +kernel)) (fun _ _ _ _ _ => (pg_name (i := 2) nd rfl (Or.inl rfl))) (fun _ _ _ _ _ => (pts_one (pt_cmpR op_notIn_sign (pv 2) (pv 1) (by rfl)))) (fun _ _ _ _ _ => (pv 2))) (pe_lst pa_nil) (nomark _)))))), ?_⟩
  refine ⟨v, rfl, v, _, _, _, _, rfl, .ty _, hd.tyx k, kS K d, _, rfl, ?_⟩
  have no : isSt d = false → isName d = false := by cases d <;> first | (intro _; rfl) | (intro h; cases h)
  refine iteB (fun hS => ?_) (fun hS => ?_)
  · have hS : isSt d = true := by simpa using hS
    cases d with
    | str z =>
      cases hd
      have hz : z.length ≤ 1000 := of_decide_eq_true ho
      refine ⟨_, rfl, z, rfl, by have := sizeLine_eq; omega, _, _, rfl, rfl, _, rfl, ?_⟩
      have q0 := q R H (Fx.refl k)
      refine iteB (fun h1 => ?_) (fun h1 => ?_)
      · have e : isName (.str z) = false := by
          show (_ && _ && _) = false
          have h1' : ¬ (1 : Int) ≤ (z.length : Int) := by simpa using h1
          rw [decide_eq_false (by omega : ¬ 1 ≤ z.length), Bool.false_and, Bool.false_and]
        rw [e] at q0
        exact ⟨_, rfl, iteT q0⟩
      · have h1 := of_decide_eq_true h1
        refine ⟨_, _, rfl, rfl, _, rfl, ?_⟩
        refine iteB (fun h2 => ?_) (fun h2 => ?_)
        · have h2' : (z.length : Int) ≤ 8 := by simpa using h2
          have e : isName (.str z) = z.cps.toList.all fun c => decide (c ∈ letters.cps.toList) := by
            show (_ && _ && _) = _
            rw [decide_eq_true (by omega : 1 ≤ z.length), decide_eq_true (by omega : z.length ≤ 8), Bool.true_and, Bool.true_and]
          refine ⟨_, rfl, _, rfl, fun D hD => ?_⟩
          refine lc_data walk_str [] (fun i => ((z.cps.toList.take i).filter fun c => !decide (c ∈ letters.cps.toList)).map fun c => PyData.str ⟨#[c]⟩) (fun _ _ _ => True) k hD (by simp) (fun i hi => ?_) rfl trivial (fun _ _ _ _ _ _ => trivial) (fun _ _ _ _ _ _ => trivial) (fun i x R' H' H'' vs Cy Cn hi f r hv a e y ky kn => ?_) (fun R' H' vs f r hv a _ => ?_)
          · have := sizeLine_eq
            simp only [List.length_map]
            have h1 := List.length_filter_le (fun c => !decide (c ∈ letters.cps.toList)) (z.cps.toList.take i)
            have h2 : (z.cps.toList.take i).length ≤ i := by simp only [List.length_take]; omega
            have : z.cps.size = z.length := rfl
            omega
          · obtain ⟨rfl, c, hc, rfl⟩ := y
            have hi' : i < z.cps.toList.length := by simpa using hi
            have hc' : z.cps.toList[i] = c := by
              have := (Array.getElem?_eq_some_iff.mp hc).2
              simpa using this
            refine ⟨rfl, _, rfl, _, rfl, c, _, rfl, rfl, _, rfl, ?_⟩
            refine iteB (fun h => ?_) (fun h => ?_)
            · refine kn R' H'' (Fx.refl f.rh) ?_ trivial
              rw [take_snoc _ _ hi', List.filter_append, List.map_append, hc']
              have h : (!decide (c ∈ letters.cps.toList)) = false := h
              rw [List.filter_cons, h]
              simp
            · refine ⟨_, rfl, ky R' H'' _ _ (Fx.refl f.rh) (.str _) ?_ trivial⟩
              rw [take_snoc _ _ hi', List.filter_append, List.map_append, hc']
              have h : (!decide (c ∈ letters.cps.toList)) = true := h
              rw [List.filter_cons, h]
              simp
          · refine ⟨Nat.zero_le _, fun D2 hD2 => ?_⟩
            have f2 := f.newH (o := .lst []) hD2
            have hv2 : upd H' D2 (.lst []) D = some (.lst vs) := by rw [upd_ne (ne_of_none hv hD2)]; exact hv
            refine ⟨D, D2, vs, rfl, rfl, SqL.of hv2, SqL.of upd_same, ?_⟩
            have q := q R' _ f2
            rw [e, all_isE, ← isE_len (by
              rw [a.length]
              have : z.cps.toList.take z.cps.size = z.cps.toList := by rw [List.take_of_length_le (by simp)]
              rw [this])] at q
            exact q
        · have h2' : ¬ (z.length : Int) ≤ 8 := by simpa using h2
          have e : isName (.str z) = false := by
            show (_ && _ && _) = false
            rw [decide_eq_false (by omega : ¬ z.length ≤ 8), Bool.and_false, Bool.false_and]
          rw [e] at q0
          exact q0
    | _ => cases hS
  · have q := q R H (Fx.refl k)
    rw [no (by simpa using hS)] at q
    exact q
theorem ok_lis_edge (T : Tx w K mg) : FnOk P w K mg base CX0 2 (a_lis_edge K) (f_lis_edge K) P_lis_edge (spEdge isEdge) := by
  refine T.d_lis_edge.ok sc_lis_edge len_spEdge (fun cdv A outer s H vs Q E hr h => ?_)
  obtain ⟨R, v, d, p, ns, rfl, k, hd, ho, hp, q⟩ := h
  have hu := hu_of hr
  have hu2 := hr.units
  have hu3 : (A.deeper (envOfC "_law_is_edge" (defScope st_lis_edge) s.heap.objs.size (a_lis_edge K) cdv)).units + 65 < cLine := by have := hr.un; omega
  have nd := sc_lis_edge.nd
  refine ⟨_, PSs.nox (pss_cons (ps_if (PW.pt (pw_or (pt_not (pt_val (pe_callB call_isi (by rfl) T.f_isinstance boot_isinstance (pa_cons (pv 0) (pa_cons (pe_bltn (v := .ty "tuple") (by rfl) T.f_tuple boot_tuple rfl) pa_nil))))) (pw_or1 (pt_cmpR op_ne (pe_callB call_len_seq (by rfl) T.f_len boot_len (pa_cons (pv 0) pa_nil)) pe_int (nomark _)))))
      (pss_one (ps_ret pe_bl))
      pss_nil)
    (pss_cons (ps_if (PW.pt (pw_or (pt_cmpR (op_neL0 hu2) (pe_lc (own := [("_law_part", 2)]) (g := (gName 2)) (by rfl) nd (pi_tup (pe_slice sl_tupX (pv 0) po_none (po_some pe_int))) (blkOk_by (N := N_lis_edge) (sc := defScope st_lis_edge) (by decide +kernel)) (fun _ _ _ _ _ => (pg_name (i := 2) nd rfl (Or.inl rfl))) (fun _ _ _ _ _ => (pts_one (pt_not (pt_val (pe_call (ok_lis_name T) (hr.mono (by decide)) (by rfl) T.g_lis_name T.k_lis_name T.b_lis_name .nil pass0 (pa_cons (pv 2) pa_nil)))))) (fun _ _ _ _ _ => (pv 2))) (pe_lst pa_nil) (nomark _)) (pw_or1 (pt_not (pt_val (pe_call (ok_lis_between T) (hr.mono (by decide)) (by rfl) T.g_lis_between T.k_lis_between T.b_lis_between .nil pass0 (pa_cons (pe_ix ix_tup (pv 0) pe_int (fun _ _ => rfl)) (pa_cons (pe_un un_neg pe_int) (pa_cons pe_int pa_nil)))))))))
      (pss_one (ps_ret pe_bl))
      pss_nil)
    (pss_one (ps_ret (pe_and (pe_cmpR (op_inN hu3) (pe_ix ix_tup (pv 0) pe_int (fun _ _ => rfl)) (pv 1) (by rfl)) (pe_and (pe_cmpR (op_inN hu3) (pe_ix ix_tup (pv 0) pe_int (fun _ _ => rfl)) (pv 1) (by rfl)) (pe_one (pe_cmpR op_ne (pe_ix ix_tup (pv 0) pe_int (fun _ _ => rfl)) (pe_ix ix_tup (pv 0) pe_int (fun _ _ => rfl)) (nomark _))))))))), ?_⟩
  refine ⟨v, rfl, v, _, _, _, _, rfl, .ty _, hd.tyx k, kT K d, _, rfl, ?_⟩
  have no : isTu d = false → isEdge d ns = false := by cases d <;> first | (intro _; rfl) | (intro h; cases h)
  cases hS : isTu d with
  | false =>
    refine iteT ?_
    have q := q R H (Fx.refl k)
    rw [no hS] at q
    exact iteT q
  | true =>
    cases d with
    | tuple ds =>
      cases hd with
      | tup e hds =>
        refine iteF ?_
        rename_i a vs
        refine ⟨_, rfl, a, vs, rfl, .inr (SqT.of (k _ _ e)), rfl, _, rfl, ?_⟩
        have hl := hds.length
        refine ite2 (fun h => ?_) (fun h => ?_)
        · have h4 : ds.length ≠ 4 := by
            intro z
            rw [z] at hl
            simp [hl] at h
          have q := q R H (Fx.refl k)
          rw [isEdge_len h4] at q
          exact q
        · have h4 : ds.length = 4 := by
            rw [← hl]
            have := h
            simp at this
            omega
          match ds, h4 with
          | [da, db, dc, dl], _ =>
            obtain ⟨va, vb, vc, vl, rfl, ha, hb, hc, hl'⟩ := hds.four
            have ho : (okS da && (okS db && (okS dc && (okS dl && true)))) = true := ho
            simp only [Bool.and_true, Bool.and_eq_true] at ho
            obtain ⟨oa, ob, oc, ol⟩ := ho
            refine ⟨_, rfl, _, rfl, R, a, [va, vb, vc, vl], rfl, k, e, fun R1 H1 p1 f1 e1 => ?_⟩
            refine ⟨_, rfl, ⟨_, SqT.of (f1.rh _ _ e1)⟩, fun D hD => ?_⟩
            have ha := ha.up f1.rr
            have hb := hb.up f1.rr
            have hc := hc.up f1.rr
            refine lc_data (walk_tup (xs := [va, vb, vc])) [] (fun i => ([da, db, dc].take i).filter fun d => !isName d) (fun _ _ _ => True) f1.rh hD (by simp) (fun i hi => ?_) rfl trivial (fun i R H _ f _ => SqT.of (f.rh _ _ (f.rr _ _ e1))) (fun _ _ _ _ _ _ => trivial) (fun i x R' H' H'' vs Cy Cn hi f r hv ac e y ky kn => ?_) (fun R' H' vs f r hv ac _ => ?_)
            · have := sizeLine_eq
              have h1 := List.length_filter_le (fun d => !isName d) ([da, db, dc].take i)
              have h2 : ([da, db, dc].take i).length ≤ i := by simp only [List.length_take]; omega
              have : i < 3 := hi
              omega
            · obtain ⟨rfl, hx⟩ := y
              have key : ∃ d, [da, db, dc][i]? = some d ∧ At R1 x d ∧ okS d = true := by
                match i, hi with
                | 0, _ => cases hx; exact ⟨_, rfl, ha, oa⟩
                | 1, _ => cases hx; exact ⟨_, rfl, hb, ob⟩
                | 2, _ => cases hx; exact ⟨_, rfl, hc, oc⟩
              obtain ⟨dx, h1, h2, h3⟩ := key
              obtain ⟨hi', hx'⟩ := List.getElem?_eq_some_iff.mp h1
              refine ⟨rfl, _, rfl, R', x, dx, rfl, f.rh, h2.up f.rr, h3, fun R4 H4 f4 => ⟨_, rfl, ?_⟩⟩
              refine iteB (fun h => ?_) (fun h => ?_)
              · refine kn R4 H4 f4 ?_ trivial
                rw [take_snoc _ _ hi', List.filter_append, hx', List.filter_cons, h]
                simp
              · refine ⟨_, rfl, ky R4 H4 _ dx f4 (h2.up (f.rr.trans f4.rr)) ?_ trivial⟩
                rw [take_snoc _ _ hi', List.filter_append, hx', List.filter_cons, h]
                simp
            · refine ⟨Nat.zero_le _, fun D2 hD2 => ?_⟩
              have f2 := (f1.trans f).newH (o := .lst []) hD2
              have hv2 : upd H' D2 (.lst []) D = some (.lst vs) := by rw [upd_ne (ne_of_none hv hD2)]; exact hv
              refine ⟨D, D2, vs, rfl, rfl, SqL.of hv2, SqL.of upd_same, _, rfl, ?_⟩
              rw [isE_len ac.length]
              have f3 := f1.trans f
              have f3 : Fx [] R H R' (upd H' D2 (.lst [])) := f2
              have eT : R' a = some (.tup [va, vb, vc, vl]) := f3.rr _ _ e
              generalize upd H' D2 (.lst []) = H2 at f3 ⊢
              have h3e : isE (List.filter (fun d => !isName d) (List.take [va, vb, vc].length [da, db, dc])) = (isName da && isName db && isName dc) := by
                show isE (List.filter (fun d => !isName d) [da, db, dc]) = _
                simp only [List.filter_cons, List.filter_nil]
                cases isName da <;> cases isName db <;> cases isName dc <;> rfl
              rw [h3e]
              refine iteB (fun h3 => ?_) (fun h3 => ?_)
              rotate_left
              · have q := q R' H2 f3
                have e0 : isEdge (.tuple [da, db, dc, dl]) ns = false := by
                  cases ja : isName da with
                  | false => exact isEdge_a ja
                  | true =>
                    cases jb : isName db with
                    | false => exact isEdge_b jb
                    | true =>
                      cases jc : isName dc with
                      | false => exact isEdge_c jc
                      | true => rw [ja, jb, jc] at h3; cases h3
                rw [e0] at q
                exact iteT q
              have g3 : (isName da && isName db && isName dc) = true := by simpa using h3
              simp only [Bool.and_eq_true] at g3
              obtain ⟨⟨h1, h2⟩, g3⟩ := g3
              obtain ⟨sa, rfl, na⟩ := isName_str h1
              obtain ⟨sb, rfl, nb⟩ := isName_str h2
              obtain ⟨sc, rfl, nc⟩ := isName_str g3
              cases ha
              cases hb
              cases hc
              have ee : isEdge (.tuple [.str sa, .str sb, .str sc, dl]) ns = (inS (.str sb) ns && inS (.str sc) ns && !(sb == sc) && isLen dl) := by
                show (isNameS sa && isNameS sb && isNameS sc && _ && _ && _ && _) = _
                rw [na, nb, nc]
                rfl
              rw [ee] at q
              have eS := SqT.of (K := K) (f3.rh _ _ eT)
              refine ⟨_, rfl, a, _, _, _, rfl, rfl, eS, atI_nat (j := 3) rfl, _, rfl, ?_⟩
              refine ⟨R', vl, dl, _, _, rfl, f3.rh, hl'.up f3.rr, ol, fun R4 H4 f4 => ⟨_, rfl, ?_⟩⟩
              have f4 := f3.trans f4
              have eT : R4 a = some (.tup [V.str sa, V.str sb, V.str sc, vl]) := f4.rr _ _ e
              have eS := SqT.of (K := K) (f4.rh _ _ eT)
              have hp4 := seq_of R p _ hp K (f4.rr.trans f4.rh)
              refine iteB (fun h5 => ?_) (fun h5 => ?_)
              rotate_left
              · have q := q R4 H4 f4
                have h5 : isLen dl = false := by simpa [isLen] using h5
                rw [h5, Bool.and_false] at q
                exact q
              have h5 : isLen dl = true := by simpa [isLen] using h5
              rw [h5, Bool.and_true] at q
              refine ⟨_, rfl, a, _, _, _, rfl, rfl, eS, atI_nat (j := 1) rfl, _, rfl, p, ns, R4, .str sb, rfl, hp4, f4.rh, .str _, _, rfl, ?_⟩
              refine iteB (fun h6 => ?_) (fun h6 => ?_)
              · have q := q R4 H4 f4
                rw [show inS (.str sb) ns = false from h6] at q
                exact q
              refine ⟨_, rfl, a, _, _, _, rfl, rfl, eS, atI_nat (j := 2) rfl, _, rfl, p, ns, R4, .str sc, rfl, hp4, f4.rh, .str _, _, rfl, ?_⟩
              refine iteB (fun h7 => ?_) (fun h7 => ?_)
              · have q := q R4 H4 f4
                rw [show inS (.str sc) ns = false from h7, Bool.and_false] at q
                exact q
              refine ⟨_, rfl, a, _, _, _, rfl, rfl, eS, atI_nat (j := 1) rfl, _, rfl, a, _, _, _, rfl, rfl, eS, atI_nat (j := 2) rfl, rfl, ?_⟩
              have q := q R4 H4 f4
              rw [show inS (.str sb) ns = true from h6, show inS (.str sc) ns = true from h7, Bool.true_and, Bool.true_and] at q
              rw [dec_str]
              exact q
    | _ => cases hS
end
end Ld
/-! Fa: draw, pick. -/
namespace Ld
open PySem L2 PyProof.Rows
abbrev lim : Nat := 1000000000
def spDraw : Sp := fun vs H Q _ => ∃ (R : Hp) (p : Addr) (u : Nat) (m : Int), vs = [.ref p, .int m] ∧ Same R H ∧ PenAt R H p u ∧ 1 ≤ m ∧ m ≤ lim ∧ u ≤ lim ∧
  ∀ (k : Int) (u' : Nat) (H' : Hp), 0 ≤ k → k < m → u' ≤ u + 1 → PenAt R H' p u' → Fx [p] R H R H' → Q (.int k) H'
section
variable {P : Program} {w : World} {K : PySem.W.Frag} {mg : Str → Option Value} {base : Heap}
theorem len_draw (vs : List V) (H : Hp) (Q : VK) (E : XK) (h : spDraw vs H Q E) : vs.length = P_ldraw.length := by
  obtain ⟨R, p, u, m, rfl, _⟩ := h
  rfl
theorem ok_ldraw (T : Tx w K mg) : FnOk P w K mg base CX0 1 (a_ldraw K) (f_ldraw K) P_ldraw spDraw := by
  refine T.d_ldraw.ok sc_ldraw len_draw (fun cdv A outer s H vs Q E hr h => ?_)
  obtain ⟨R, p, u, m, rfl, hRH, hp, hm, hm2, hu0, k⟩ := h
  have hu := hu_of hr
  have hu2 := hr.units
  have nd := sc_ldraw.nd
  refine ⟨_, PSs.nox (pss_cons (ps_if (pt_cmpR op_gt (pe_dget hu (pv 0) pe_str (fun _ _ => rfl)) pe_int (nomark _))
      (pss_cons (ps_set (i := 2) nd rfl (Or.inl rfl) (pe_op op_mod (pe_dget hu (pv 0) pe_str (fun _ _ => rfl)) (pv 1)))
      (pss_cons (ps_dput hu (pv 0) pe_str (pe_op op_fdiv (pe_dget hu (pv 0) pe_str (fun _ _ => rfl)) (pv 1)) rfl)
      (pss_one (ps_ret (pv 2)))))
      pss_nil)
    (pss_cons (ps_set (i := 3) nd rfl (Or.inl rfl) (pe_dget hu (pv 0) pe_str (fun _ _ => rfl)))
    (pss_cons (ps_dput hu (pv 0) pe_str (pe_op op_add (pv 3) pe_int) rfl)
    (pss_cons (ps_set (i := 4) nd rfl (Or.inl rfl) (pe_op op_add (pe_op op_mul pe_int (pv 3)) pe_int))
    (pss_cut2 (ps_if (pt_cmpR (op_neD hu2) (pe_dget hu (pv 0) pe_str (fun _ _ => rfl)) (pe_lst pa_nil) (nomark _))
      (pss_one (ps_set (i := 4) nd rfl (Or.inl rfl) (pe_ix ix_list (pe_dget hu (pv 0) pe_str (fun _ _ => rfl)) (pe_op op_mod (pv 3) (pe_callB call_len_seq (by rfl) T.f_len boot_len (pa_cons (pe_dget hu (pv 0) pe_str (fun _ _ => rfl)) pa_nil))) (fun _ _ => rfl))))
      pss_nil)
    (pss_cut2 (ps_if (PW.pt (pw_and (pt_cmpR op_lt (pv 3) (pe_callB call_len_seq (by rfl) T.f_len boot_len (pa_cons (pe_dget hu (pv 0) pe_str (fun _ _ => rfl)) pa_nil)) (nomark _)) (pw_and1 (pt_cmpR op_ge (pe_callB call_abs (by rfl) T.f_abs boot_abs (pa_cons (pv 4) pa_nil)) (pe_op op_pow pe_int pe_int) (nomark _)))))
      (pss_cons (ps_dput hu (pv 0) pe_str (pe_op op_fdiv (pe_op op_sub (pe_callB call_abs (by rfl) T.f_abs boot_abs (pa_cons (pv 4) pa_nil)) (pe_op op_pow pe_int pe_int)) (pv 1)) rfl)
      (pss_one (ps_ret (pe_op op_mod (pe_op op_sub (pe_callB call_abs (by rfl) T.f_abs boot_abs (pa_cons (pv 4) pa_nil)) (pe_op op_pow pe_int pe_int)) (pv 1)))))
      pss_nil)
    (pss_cons (ps_set (i := 5) nd rfl (Or.inl rfl) (pe_op op_mod (pe_op op_add (pe_op op_add (pe_op op_add (pe_op op_mul (pe_op op_mod (pv 4) pe_int) pe_int) (pe_op op_mul (pe_op op_mul pe_int (pv 3)) (pv 3))) (pe_op op_mul pe_int (pv 3))) pe_int) pe_int))
    (pss_cons (ps_set (i := 5) nd rfl (Or.inl rfl) (pe_op op_mod (pe_op op_add (pe_op op_add (pe_op op_add (pe_op op_mul (pv 5) (pv 5)) (pe_op op_mul pe_int (pv 5))) (pe_op op_mul pe_int (pv 3))) pe_int) pe_int))
    (pss_one (ps_ret (pe_op op_mod (pe_op op_fdiv (pe_op op_mod (pe_op op_mul (pv 5) (pe_op op_add (pv 5) pe_int)) pe_int) pe_int) (pv 1)))))))))))), ?_⟩
  obtain ⟨hfr, c, cs, l, e1, e2, e3⟩ := hp
  have eC : H c = some (.lst (cs.map V.int)) := hRH _ _ e3
  have ncp : c ≠ p := fun z => by rw [z, hfr] at e3; cases e3
  -- if pen['left'] > 0
  refine ⟨_, rfl, p, _, rfl, dgetS e1 (pen_left c u l), _, _, rfl, rfl, _, rfl, ?_⟩
  refine ite2 (fun hl => ?_) (fun hl => ?_)
  · have hl := of_decide_eq_true hl
    refine ⟨_, rfl, p, _, rfl, dgetS e1 (pen_left c u l), _, rfl, _, _, rfl, rfl, by omega, ?_⟩
    refine ⟨_, rfl, p, _, rfl, dgetS e1 (pen_left c u l), _, rfl, _, _, rfl, rfl, ⟨by omega, by have : m ≤ 1000000000 := hm2; omega⟩, _, rfl, p, _, rfl, dputS e1 (by show 3 ≤ 1000; decide) (pen_put_left c u l (l / m)), ?_⟩
    refine ⟨_, rfl, ?_⟩
    exact k (l % m) u _ (Int.emod_nonneg _ (by omega)) (Int.emod_lt_of_pos _ (by omega)) (Nat.le_succ _) ⟨hfr, c, cs, l / m, upd_same, Int.ediv_nonneg e2 (by omega), e3⟩ ((Fx.refl hRH).put hfr (.inl List.mem_cons_self))
  · -- used
    refine ⟨_, rfl, p, _, rfl, dgetS e1 (pen_used c u l), ?_⟩
    refine ⟨_, rfl, _, _, rfl, rfl, _, rfl, p, _, rfl, dputS e1 (by show 3 ≤ 1000; decide) (pen_put_used c u l), ?_⟩
    have F1 : Fx [p] R H R (upd H p (penO c (u + 1) l)) := (Fx.refl hRH).put hfr (.inl List.mem_cons_self)
    have o1 : (upd H p (penO c (u + 1) l)) p = some (penO c (u + 1) l) := upd_same
    change tSeq _ _ _ _ (upd H p (penO c (u + 1) l))
    generalize upd H p (penO c (u + 1) l) = H1 at F1 o1 ⊢
    refine ⟨_, rfl, _, _, rfl, rfl, .inl ⟨by decide, by decide⟩, _, _, rfl, rfl, ?_⟩
    -- cells
    refine ⟨fun σ' H' => ∃ (z : Int), σ' = [some (.ref p), some (.int m), none, some (.int (u : Int)), some (.int z), none] ∧ H' p = some (penO c (u + 1) l) ∧ Fx [p] R H R H', ?_, ?_⟩
    · refine ⟨_, rfl, p, _, rfl, dgetS o1 (pen_cells c (u + 1) l), Nat.zero_le _, fun q hq => ?_⟩
      have F2 := F1.newH (o := .lst []) hq
      have npq : p ≠ q := ne_of_none o1 hq
      have o2 : upd H1 q (.lst []) p = some (penO c (u + 1) l) := by rw [upd_ne npq]; exact o1
      refine ⟨_, _, .lst (SqL.of (F2.rh _ _ e3)) (dp_ints cs), dp_nil upd_same, shaped_ints cs, shaped_nil, _, rfl, ?_⟩
      cases cs with
      | nil => exact iteF ⟨_, rfl, o2, F2⟩
      | cons z0 r =>
        refine iteT ?_
        refine ⟨_, rfl, p, _, rfl, dgetS o2 (pen_cells c (u + 1) l), _, rfl, _, rfl, p, _, rfl, dgetS o2 (pen_cells c (u + 1) l), c, _, rfl, .inl (SqL.of (F2.rh _ _ e3)), ?_⟩
        have hi : u % ((z0 :: r).map V.int).length < (z0 :: r).length := by
          rw [List.length_map]
          exact Nat.mod_lt _ (by simp)
        refine ⟨_, _, rfl, rfl, by simp, c, _, _, V.int ((z0 :: r)[u % ((z0 :: r).map V.int).length]'hi), rfl, rfl, SqL.of (F2.rh _ _ e3), at_of (j := u % ((z0 :: r).map V.int).length) (by rw [Int.natCast_emod]) (by rw [List.getElem?_map, List.getElem?_eq_getElem hi]; rfl), ?_⟩
        exact ⟨_, rfl, o2, F2⟩
    · rintro σ' H' ⟨z, rfl, o3, F3⟩
      have eC3 : H' c = some (.lst (cs.map V.int)) := F3.rh _ _ e3
      have p3 : PenAt R H' p (u + 1) := ⟨hfr, c, cs, l, o3, e2, e3⟩
      -- if used < len(cells) and abs(cell) >= 10 ** 18
      refine ⟨fun σ' H' => ∃ (z : Int), σ' = [some (.ref p), some (.int m), none, some (.int (u : Int)), some (.int z), none] ∧ PenAt R H' p (u + 1) ∧ Fx [p] R H R H', ?_, ?_⟩
      · refine ⟨_, rfl, _, rfl, p, _, rfl, dgetS o3 (pen_cells c (u + 1) l), c, _, rfl, .inl (SqL.of eC3), _, _, rfl, rfl, _, rfl, ?_⟩
        refine ite2 (fun _ => ?_) (fun _ => iteF ⟨z, rfl, p3, F3⟩)
        refine ⟨_, rfl, _, rfl, _, _, rfl, rfl, ⟨by decide, by decide, by decide⟩, _, _, rfl, rfl, _, rfl, ?_⟩
        refine ite2 (fun hg => ?_) (fun _ => ⟨z, rfl, p3, F3⟩)
        have hg : (10 : Int) ^ (18 : Int).toNat ≤ (if z < 0 then -z else z) := of_decide_eq_true hg
        refine ⟨_, rfl, _, rfl, _, _, rfl, rfl, ⟨by decide, by decide, by decide⟩, _, _, rfl, rfl, _, rfl, _, _, rfl, rfl, ⟨by omega, by have : m ≤ 1000000000 := hm2; omega⟩, _, rfl, p, _, rfl, dputS o3 (by show 3 ≤ 1000; decide) (pen_put_left c (u + 1) l _), ?_⟩
        refine ⟨_, rfl, _, rfl, _, _, rfl, rfl, ⟨by decide, by decide, by decide⟩, _, _, rfl, rfl, _, rfl, _, _, rfl, rfl, by omega, ?_⟩
        exact k _ (u + 1) _ (Int.emod_nonneg _ (by omega)) (Int.emod_lt_of_pos _ (by omega)) (Nat.le_refl _) ⟨hfr, c, cs, _, upd_same, Int.ediv_nonneg (by omega) (by omega), e3⟩ (F3.put hfr (.inl List.mem_cons_self))
      · rintro σ'' H'' ⟨z, rfl, p4, F4⟩
        have b1 : 0 ≤ z % 2147483647 := Int.emod_nonneg _ (by decide)
        have b2 : z % 2147483647 < 2147483647 := Int.emod_lt_of_pos _ (by decide)
        have hu1 : (u : Int) ≤ 1000000000 := by have : u ≤ 1000000000 := hu0; omega
        refine ⟨_, rfl, _, _, rfl, rfl, (by decide : (0 : Int) < 2147483647), _, _, rfl, rfl, .inr ⟨by decide, by decide⟩, _, rfl, _, _, rfl, rfl, .inl ⟨by decide, by decide⟩, _, rfl, _, _, rfl, rfl, .inr ⟨by omega, by omega⟩, _, _, rfl, rfl, _, rfl, _, _, rfl, rfl, .inl ⟨by decide, by decide⟩, _, _, rfl, rfl, _, _, rfl, rfl, _, _, rfl, rfl, (by decide : (0 : Int) < 2147483629), ?_⟩
        generalize hg1 : (z % 2147483647 * 39373 + 52501 * (u : Int) * (u : Int) + 8117 * (u : Int) + 23) % 2147483629 = x1
        have c1 : 0 ≤ x1 := by rw [← hg1]; exact Int.emod_nonneg _ (by decide)
        have c2 : x1 < 2147483629 := by rw [← hg1]; exact Int.emod_lt_of_pos _ (by decide)
        refine ⟨_, rfl, _, rfl, _, _, rfl, rfl, .inl ⟨by omega, by omega⟩, _, rfl, _, _, rfl, rfl, .inl ⟨by decide, by decide⟩, _, _, rfl, rfl, _, rfl, _, _, rfl, rfl, .inl ⟨by decide, by decide⟩, _, _, rfl, rfl, _, _, rfl, rfl, _, _, rfl, rfl, (by decide : (0 : Int) < 2147483587), ?_⟩
        generalize hg2 : (x1 * x1 + 28411 * x1 + 11 * (u : Int) + 5) % 2147483587 = x2
        have d1 : 0 ≤ x2 := by rw [← hg2]; exact Int.emod_nonneg _ (by decide)
        have d2 : x2 < 2147483587 := by rw [← hg2]; exact Int.emod_lt_of_pos _ (by decide)
        refine ⟨_, rfl, _, rfl, _, _, rfl, rfl, _, _, rfl, rfl, .inl ⟨by omega, by omega⟩, _, _, rfl, rfl, (by decide : (0 : Int) < 2147483563), _, _, rfl, rfl, ⟨by decide, by decide⟩, _, rfl, _, _, rfl, rfl, by omega, ?_⟩
        exact k _ (u + 1) _ (Int.emod_nonneg _ (by omega)) (Int.emod_lt_of_pos _ (by omega)) (Nat.le_refl _) p4 F4
end
end Ld
/-! Fe: pick, pen, shuffled. -/
namespace Ld
open PySem L2 PyProof.Rows
theorem at_of2 {α : Type} {xs : List α} {i : Int} {j : Nat} {v : α} (e : (j : Int) = i) (h : xs[j]? = some v) : atI xs i = some v := by
  rw [← e]
  exact atI_nat h
theorem erase_map {α β : Type} (f : α → β) : ∀ (l : List α) (i : Nat), (l.map f).eraseIdx i = (l.eraseIdx i).map f
  | [], _ => rfl
  | _ :: _, 0 => rfl
  | x :: r, i + 1 => by
    simp only [List.map_cons, List.eraseIdx_cons_succ]
    rw [erase_map f r i]
theorem erase_perm {α : Type} : ∀ (l : List α) (i : Nat) (h : i < l.length), (l[i] :: l.eraseIdx i).Perm l
  | [], _, h => by simp at h
  | x :: r, 0, h => by simp
  | x :: r, i + 1, h => by
    simp only [List.getElem_cons_succ, List.eraseIdx_cons_succ]
    exact (List.Perm.swap x _ _).trans ((erase_perm r i (by simpa using h)).cons x)
theorem ixR_or {X : Cx} {r r' : R2} (h : IxR X r) (h' : IxR X r') : IxR X (fun x y H Q => r x y H Q ∨ r' x y H Q) := by
  intro value slice pins s σ H x y v u Q I rx ry q hs
  rcases q with q | q
  · exact h value slice pins s σ H x y v u Q I rx ry q hs
  · exact h' value slice pins s σ H x y v u Q I rx ry q hs
def spPickL : Sp := fun vs H Q _ => ∃ (R : Hp) (p : Addr) (u : Nat) (a : Addr) (xs : List V), vs = [.ref p, .ref a] ∧ Same R H ∧ PenAt R H p u ∧ H a = some (.lst xs) ∧ 1 ≤ xs.length ∧ xs.length ≤ 1000 ∧ u ≤ lim ∧
  ∀ (k : Nat) (x : V) (u' : Nat) (H' : Hp), xs[k]? = some x → u' ≤ u + 1 → PenAt R H' p u' → Fx [p] R H R H' → Q x H'
def spPickS : Sp := fun vs H Q _ => ∃ (R : Hp) (p : Addr) (u : Nat) (z : Str), vs = [.ref p, .str z] ∧ Same R H ∧ PenAt R H p u ∧ 1 ≤ z.length ∧ z.length ≤ 1000 ∧ u ≤ lim ∧
  ∀ (k : Nat) (c : Nat) (u' : Nat) (H' : Hp), z.cps.toList[k]? = some c → u' ≤ u + 1 → PenAt R H' p u' → Fx [p] R H R H' → Q (.str ⟨#[c]⟩) H'
def spPick : Sp := fun vs H Q E => spPickL vs H Q E ∨ spPickS vs H Q E
/-- the pen is made of the script's first cells -/
def spPen (K : PySem.W.Frag) : Sp := fun vs H Q _ => ∃ (R : Hp) (a : Addr) (ns : List Int), vs = [.ref a] ∧ Same R H ∧ (∀ H', Same R H' → SqL K H' a (ns.map V.int)) ∧ ∀ (R' H' : Hp) (p : Addr), Fx [] R H R' H' → H p = none → PenAt R' H' p 0 → Q (.ref p) H'
/-- the texts of a list, in any order -/
def spShuf : Sp := fun vs H Q _ => ∃ (R : Hp) (p : Addr) (u : Nat) (a : Addr) (ns : List Str), vs = [.ref p, .ref a] ∧ Same R H ∧ PenAt R H p u ∧ R a = some (.lst (ns.map V.str)) ∧ ns.length ≤ 1000 ∧ u + 1000 ≤ lim ∧
  ∀ (ms : List Str) (u' : Nat) (R' H' : Hp) (b : Addr), ms.Perm ns → u' ≤ u + ns.length → PenAt R' H' p u' → Fx [p] R H R' H' → R' b = some (.lst (ms.map V.str)) → Q (.ref b) H'
section
variable {P : Program} {w : World} {K : PySem.W.Frag} {mg : Str → Option Value} {base : Heap}
theorem PenAt.ne {R H : Hp} {p a : Addr} {u : Nat} {xs : List V} (h : PenAt R H p u) (e : H a = some (.lst xs)) : a ≠ p := by
  obtain ⟨c, cs, l, e1, _⟩ := h.ob
  intro z
  rw [z, e1] at e
  cases e
theorem ok_lpick (T : Tx w K mg) : FnOk P w K mg base CX0 2 (a_lpick K) (f_lpick K) P_lpick spPick := by
  refine T.d_lpick.ok sc_lpick (fun vs H Q E h => by rcases h with ⟨_, _, _, _, _, rfl, _⟩ | ⟨_, _, _, _, rfl, _⟩ <;> rfl) (fun cdv A outer s H vs Q E hr h => ?_)
  have hu := hu_of hr
  have nd := sc_lpick.nd
  refine ⟨_, PSs.nox (pss_one (ps_ret (pe_ix (ixR_or ix_list ix_str) (pv 1) (pe_call (ok_ldraw T) (hr.mono (by decide)) (by rfl) T.g_ldraw T.k_ldraw T.b_ldraw .nil pass0 (pa_cons (pv 0) (pa_cons (pe_callB (CallR.or call_len_seq call_len_str) (by rfl) T.f_len boot_len (pa_cons (pv 1) pa_nil)) pa_nil))) (fun _ _ => rfl)))), ?_⟩
  rcases h with ⟨R, p, u, a, xs, rfl, k, hp, ha, h1, h2, hu0, q⟩ | ⟨R, p, u, z, rfl, k, hp, h1, h2, hu0, q⟩
  · refine ⟨_, rfl, _, rfl, _, rfl, .inl ⟨a, xs, rfl, .inl (SqL.of ha), ?_⟩⟩
    refine ⟨R, p, u, _, rfl, k, hp, by omega, by show (xs.length : Int) ≤ 1000000000; omega, hu0, fun k u' H' k0 k1 hu' hp' f => ?_⟩
    have ha' : H' a = some (.lst xs) := f.kp _ _ ha (by simp [hp.ne ha])
    have hk : k.toNat < xs.length := by omega
    refine .inl ⟨a, xs, k, xs[k.toNat], rfl, rfl, SqL.of ha', ?_, q k.toNat _ u' H' (List.getElem?_eq_getElem hk) hu' hp' f⟩
    exact at_of (j := k.toNat) (Int.toNat_of_nonneg k0).symm (List.getElem?_eq_getElem hk)
  · have hs := sizeLine_eq
    refine ⟨_, rfl, _, rfl, _, rfl, .inr ⟨z, rfl, by omega, ?_⟩⟩
    refine ⟨R, p, u, _, rfl, k, hp, by omega, by show (z.length : Int) ≤ 1000000000; omega, hu0, fun k u' H' k0 k1 hu' hp' f => ?_⟩
    have hz : z.cps.toList.length = z.length := by simp [Str.length]
    have hk : k.toNat < z.cps.toList.length := by omega
    refine .inr ⟨z, k, z.cps.toList[k.toNat], rfl, rfl, by omega, ?_, q k.toNat _ u' H' (List.getElem?_eq_getElem hk) hu' hp' f⟩
    exact at_of2 (j := k.toNat) (Int.toNat_of_nonneg k0) (List.getElem?_eq_getElem hk)
theorem ok_lpen (T : Tx w K mg) : FnOk P w K mg base CX0 1 (a_lpen K) (f_lpen K) P_lpen (spPen K) := by
  refine T.d_lpen.ok sc_lpen (fun vs H Q E h => by obtain ⟨_, _, _, rfl, _⟩ := h; rfl) (fun cdv A outer s H vs Q E hr h => ?_)
  have hu := hu_of hr
  have nd := sc_lpen.nd
  refine ⟨_, PSs.nox (pss_one (ps_ret (pe_disp (pps_cons pe_str (pe_callTy call_list_of (by rfl) T.f_list boot_list (pa_cons (pe_slice sl_list (pv 0) po_none (po_some pe_int)) pa_nil)) (pps_cons pe_str pe_int (pps_cons pe_str pe_int pps_nil))) (by rfl) (by rfl) (fun z => by cases z) (by decide)))), ?_⟩
  obtain ⟨R, a, ns, rfl, k, ha, q⟩ := h
  refine fun p hp => ?_
  have f0 := (Fx.refl (M := []) k).newH (o := .dK []) hp
  have rp : R p = none := (Fx.refl (M := []) k).rhn hp
  refine ⟨_, rfl, _, rfl, a, _, rfl, ha _ f0.rh, fun p1 hp1 => ?_⟩
  have f1 := f0.newH (o := .lst (cutV (ns.map V.int) none (some 63))) hp1
  have np1 : p ≠ p1 := ne_of_none upd_same hp1
  refine ⟨p1, _, rfl, .inl (SqL.of upd_same), fun c hc => ?_⟩
  have f2 := f1.newR (o := .lst (cutV (ns.map V.int) none (some 63))) hc
  have e1 : (upd (upd H p (.dK [])) p1 (.lst (cutV (ns.map V.int) none (some 63)))) p = some (.dK []) := by rw [upd_ne np1]; exact upd_same
  have npc : p ≠ c := ne_of_none e1 hc
  have e2 : (upd (upd (upd H p (.dK [])) p1 (.lst (cutV (ns.map V.int) none (some 63)))) c (.lst (cutV (ns.map V.int) none (some 63)))) p = some (.dK []) := by rw [upd_ne npc]; exact e1
  have e3 : (upd R c (.lst (cutV (ns.map V.int) none (some 63)))) p = none := by rw [upd_ne npc]; exact rp
  have e4 : (upd R c (.lst (cutV (ns.map V.int) none (some 63)))) c = some (.lst (cutV (ns.map V.int) none (some 63))) := upd_same
  generalize (upd (upd (upd H p (.dK [])) p1 (.lst (cutV (ns.map V.int) none (some 63)))) c (.lst (cutV (ns.map V.int) none (some 63)))) = H2 at f2 e2 ⊢
  generalize upd R c (.lst (cutV (ns.map V.int) none (some 63))) = R2 at f2 e3 e4 ⊢
  refine ⟨e2, [((Sum.inr "cells" : Key), V.ref c), (Sum.inr "used", .int 0), (Sum.inr "left", .int 0)], rfl, by show 3 ≤ 15; decide, ?_⟩
  refine q R2 _ p (f2.put e3 (.inr hp)) hp ⟨e3, c, ?_⟩
  obtain ⟨ms, hm⟩ : ∃ ms : List Int, cutV (ns.map V.int) none (some 63) = ms.map V.int := by
    unfold cutV
    exact ⟨(ns.drop _).take _, by rw [List.map_take, List.map_drop]⟩
  exact ⟨ms, 0, upd_same, Int.le_refl _, by rw [e4, hm]⟩
theorem ok_lshuffled (T : Tx w K mg) : FnOk P w K mg base CX0 2 (a_lshuffled K) (f_lshuffled K) P_lshuffled spShuf := by
  refine T.d_lshuffled.ok sc_lshuffled (fun vs H Q E h => by obtain ⟨_, _, _, _, _, rfl, _⟩ := h; rfl) (fun cdv A outer s H vs Q E hr h => ?_)
  have hu := hu_of hr
  have hu2 := hr.units
  have nd := sc_lshuffled.nd
  refine ⟨_, PSs.nox (pss_cons (ps_par (i := 2) (j := 3) (by rfl) nd rfl rfl (by decide) rfl rfl (pa_cons (pe_callTy call_list_of (by rfl) T.f_list boot_list (pa_cons (pv 1) pa_nil)) (pa_cons (pe_lst pa_nil) pa_nil)) (by rfl))
    (pss_cons (ps_while PassesOwn.never (pt_cmpR (op_neL0 hu2) (pv 2) (pe_lst pa_nil) (nomark _))
      (pss_one (ps_expr (pe_bm PySem.F.plainAttrs_list PySem.F.slot_list_append PySem.F.type_list_append mt_append (pv 3) (pa_cons (pe_bm PySem.F.plainAttrs_list PySem.F.slot_list_pop PySem.F.type_list_pop mt_popAt (pv 2) (pa_cons (pe_call (ok_ldraw T) (hr.mono (by decide)) (by rfl) T.g_ldraw T.k_ldraw T.b_ldraw .nil pass0 (pa_cons (pv 0) (pa_cons (pe_callB call_len_seq (by rfl) T.f_len boot_len (pa_cons (pv 2) pa_nil)) pa_nil))) pa_nil)) pa_nil)))))
    (pss_one (ps_ret (pv 3))))), ?_⟩
  obtain ⟨R, p, u, a, ns, rfl, k, hp, ha, hn, hu0, q⟩ := h
  refine ⟨_, rfl, a, _, rfl, .inl (SqL.of (k _ _ ha)), fun l hl => ?_⟩
  have f1 := (Fx.refl (M := [p]) k).newH (o := .lst (ns.map V.str)) hl
  refine ⟨Nat.zero_le _, fun m hm => ?_⟩
  have nlm : l ≠ m := ne_of_none upd_same hm
  have f2 := f1.newH (o := .lst []) hm
  refine ⟨_, _, rfl, ?_⟩
  have rl : R l = none := (Fx.refl (M := []) k).rhn hl
  have hm0 : H m = none := by
    cases z : H m with
    | none => rfl
    | some o => obtain ⟨o', e'⟩ := f1.th _ _ z; rw [hm] at e'; cases e'
  have rm : R m = none := (Fx.refl (M := []) k).rhn hm0
  have npl : p ≠ l := by
    obtain ⟨_, _, _, e, _⟩ := hp.ob
    exact ne_of_none e hl
  have npm : p ≠ m := by
    obtain ⟨_, _, _, e, _⟩ := hp.ob
    exact ne_of_none e hm0
  have ep : PenAt R (upd (upd H l (.lst (ns.map V.str))) m (.lst [])) p u := by
    obtain ⟨c, cs, ll, e1, e2, e3⟩ := hp.ob
    exact ⟨hp.fr, c, cs, ll, by rw [upd_ne npm, upd_ne npl]; exact e1, e2, e3⟩
  have el : (upd (upd H l (.lst (ns.map V.str))) m (.lst [])) l = some (.lst (ns.map V.str)) := by rw [upd_ne nlm]; exact upd_same
  have em : (upd (upd H l (.lst (ns.map V.str))) m (.lst [])) m = some (.lst []) := upd_same
  show tSeq _ _ _ _ (upd (upd H l (.lst (ns.map V.str))) m (.lst []))
  generalize upd (upd H l (.lst (ns.map V.str))) m (.lst []) = H2 at f2 ep el em ⊢
  refine while_by (fun σ H' => ∃ (rest found : List Str) (u' : Nat), σ = [some (.ref p), some (.ref a), some (.ref l), some (.ref m)] ∧ Fx [p] R H R H' ∧ PenAt R H' p u' ∧ H' l = some (.lst (rest.map V.str)) ∧ H' m = some (.lst (found.map V.str)) ∧ (rest ++ found).Perm ns ∧ u' + rest.length ≤ u + ns.length)
    (fun σ H' => match H' l with | some (.lst xs) => xs.length | _ => 0) ⟨ns, [], u, rfl, f2, ep, el, em, by rw [List.append_nil], Nat.le_refl _⟩ ?_ ?_
  · rintro σ H' ⟨rest, found, u', rfl, f, pu, hl', hm', perm, hu'⟩
    have hlen : (rest ++ found).length = ns.length := perm.length_eq
    rw [List.length_append] at hlen
    refine ⟨_, rfl, Nat.zero_le _, fun e he => ?_⟩
    have f3 := f.newH (o := .lst []) he
    have nle : l ≠ e := ne_of_none hl' he
    have nme : m ≠ e := ne_of_none hm' he
    have hl3 : upd H' e (.lst []) l = some (.lst (rest.map V.str)) := by rw [upd_ne nle]; exact hl'
    have hm3 : upd H' e (.lst []) m = some (.lst (found.map V.str)) := by rw [upd_ne nme]; exact hm'
    have pu3 : PenAt R (upd H' e (.lst [])) p u' := by
      obtain ⟨c, cs, ll, e1, e2, e3⟩ := pu.ob
      exact ⟨pu.fr, c, cs, ll, by rw [upd_ne (ne_of_none e1 he)]; exact e1, e2, e3⟩
    refine ⟨l, e, _, rfl, rfl, SqL.of hl3, SqL.of upd_same, _, rfl, ?_⟩
    have hμ : (match H' l with | some (.lst xs) => xs.length | _ => 0) = rest.length := by rw [hl']; simp
    rw [hμ]
    cases rest with
    | nil =>
      refine iteF ?_
      refine ⟨_, rfl, ?_⟩
      refine q found u' (upd R m (.lst (found.map V.str))) _ m (by simpa using perm) (by simp at hu'; omega) ?_ (f3.freeze hm3 hm0) upd_same
      obtain ⟨c, cs, ll, e1, e2, e3⟩ := pu3.ob
      exact ⟨by rw [upd_ne npm]; exact pu.fr, c, cs, ll, e1, e2, by rw [upd_ne (ne_of_none e3 rm)]; exact e3⟩
    | cons x r =>
      refine iteT ?_
      refine ⟨_, rfl, .inl ⟨rfl, _, SqL.of hm3⟩, _, rfl, .inl ⟨rfl, _, SqL.of hl3⟩, _, rfl, _, rfl, l, _, rfl, .inl (SqL.of hl3), ?_⟩
      simp only [List.length_cons] at hu' hlen
      refine ⟨R, p, u', _, rfl, f3.rh, pu3, by simp; omega, by show (((x :: r).map V.str).length : Int) ≤ 1000000000; simp; omega, by show u' ≤ 1000000000; have : u + 1000 ≤ 1000000000 := hu0; omega, fun k2 u2 H4 k0 k1 hu2' hp4 f4 => ?_⟩
      have f5 := f3.trans f4
      have hl4 : H4 l = some (.lst ((x :: r).map V.str)) := f4.kp _ _ hl3 (by simp [Ne.symm npl])
      have hm4 : H4 m = some (.lst (found.map V.str)) := f4.kp _ _ hm3 (by simp [Ne.symm npm])
      have hk : k2.toNat < (x :: r).length := by simp at k1 ⊢; omega
      refine ⟨l, _, k2, k2.toNat, .str ((x :: r)[k2.toNat]), rfl, rfl, hl4, by omega, by simp at k1; omega, seqIndex_of k0 k1, by rw [List.getElem?_map, List.getElem?_eq_getElem hk]; rfl, ?_⟩
      have hm5 : upd H4 l (.lst (((x :: r).map V.str).eraseIdx k2.toNat)) m = some (.lst (found.map V.str)) := by rw [upd_ne (Ne.symm nlm)]; exact hm4
      refine ⟨m, _, _, rfl, rfl, hm5, by rw [List.length_map, sizeLine_eq]; omega, ?_⟩
      have f6 := (f5.put (o := .lst (((x :: r).map V.str).eraseIdx k2.toNat)) rl (.inr hl)).put (l := m) (o := .lst (found.map V.str ++ [V.str ((x :: r)[k2.toNat])])) rm (.inr hm0)
      have eE : ((x :: r).map V.str).eraseIdx k2.toNat = ((x :: r).eraseIdx k2.toNat).map V.str := by exact erase_map _ _ _
      have hlE : ((x :: r).eraseIdx k2.toNat).length = r.length := by rw [List.length_eraseIdx_of_lt hk]; simp
      refine ⟨⟨(x :: r).eraseIdx k2.toNat, found ++ [(x :: r)[k2.toNat]], u2, rfl, f6, ?_, ?_, ?_, ?_, ?_⟩, ?_⟩
      · obtain ⟨c, cs, ll, e1, e2, e3⟩ := hp4.ob
        exact ⟨hp4.fr, c, cs, ll, by rw [upd_ne npm, upd_ne npl]; exact e1, e2, e3⟩
      · rw [upd_ne nlm, upd_same, eE]
      · rw [upd_same, List.map_append]; rfl
      · refine List.Perm.trans ?_ perm
        have h1 : ((x :: r)[k2.toNat] :: (x :: r).eraseIdx k2.toNat).Perm (x :: r) := erase_perm _ _ hk
        have h2 : ((x :: r).eraseIdx k2.toNat ++ (found ++ [(x :: r)[k2.toNat]])).Perm ((x :: r)[k2.toNat] :: ((x :: r).eraseIdx k2.toNat ++ found)) := by
          rw [← List.append_assoc]
          exact List.perm_append_comm
        exact h2.trans (h1.append_right found)
      · rw [hlE]; omega
      · rw [upd_ne nlm, upd_same]
        simp only [List.length_map, eE, hlE, List.length_cons]
        omega
  · rintro σ H' Q1 Q2 mo ⟨v, e, z, g⟩
    refine ⟨v, e, z, fun p hp => ?_⟩
    obtain ⟨a1, a2, a3, b1, b2, b3, b4, b5, b6, b7⟩ := g p hp
    exact ⟨a1, a2, a3, b1, b2, b3, b4, b5, b6, mo _ _ b7⟩
end
end Ld
/-! Kf: a comprehension over data whose items aren't told ahead; a text times 0; texts by signs. -/
namespace Ld
open PySem L2 PyProof.Rows
section
variable {J : It} {n : Nat} {G : Hp → Prop} {Y : Nat → Hp → V → Hp → Prop}
theorem same_none {R H : Hp} {D : Addr} (k : Same R H) (hD : H D = none) : R D = none := by
  cases q : R D with
  | none => rfl
  | some o => have := k _ _ q; rw [hD] at this; cases this
theorem lc_any (w : Walk J n G Y) {g : TG} {tt : TT} {te : TE} {sl : List Nat} {σ : St} {R1 H1 : Hp} {D : Addr} {Qd : Hp → Prop} (M : List Addr) (E : Nat → List PyData → Hp → Hp → Prop)
    (k : Same R1 H1) (hD : H1 D = none) (hM : D ∉ M) (hn : ∀ i ds R H, i < n → E i ds R H → ds.length < sizeLine) (e0 : E 0 [] R1 (upd H1 D (.lst [])))
    (hG : ∀ i R H, i ≤ n → Fx M R1 H1 R H → G H)
    (hE : ∀ i ds R H l, R D = none → E i ds R H → E i ds R (upd H D (.lst l)))
    (hs : ∀ i x R H H' vs ds (Cy : V → Hp → Prop) (Cn : Hp → Prop), i < n → Fx M R1 H1 R H → R D = none → H D = some (.lst vs) → AtL R vs ds → E i ds R H → Y i H x H' →
      (∀ R4 H4 y d, Fx M R H R4 H4 → At R4 y d → E (i + 1) (ds ++ [d]) R4 H4 → Cy y H4) →
      (∀ R3 H3, Fx M R H R3 H3 → E (i + 1) ds R3 H3 → Cn H3) →
      g x (wipe σ sl) H' fun σ2 H2 => wipe σ2 sl = wipe σ sl ∧ tt σ2 H2 fun b H3 => if b = true then te σ2 H3 Cy else Cn H3)
    (hd : ∀ R H vs ds, Fx M R1 H1 R H → R D = none → H D = some (.lst vs) → AtL R vs ds → E n ds R H → Qd H) :
    ∃ W : Nat → Nat → Hp → Prop, (∃ m, W 0 m (upd H1 D (.lst []))) ∧ ∀ i m H, W i m H →
      (J.stop i H ∧ Qd H) ∨ (J.go i H ∧ ∃ Nx : Hp → Prop, (∀ H', Nx H' → ∃ m', m' < m ∧ W (i + 1) m' H') ∧ ∀ x H', J.yld i H x H' → g x (wipe σ sl) H' fun σ2 H2 => wipe σ2 sl = wipe σ sl ∧ tt σ2 H2 fun b H3 =>
        if b = true then te σ2 H3 fun y H4 => ∃ acc, H4 D = some (.lst acc) ∧ acc.length < sizeLine ∧ Nx (upd H4 D (.lst (acc ++ [y]))) else Nx H3) := by
  have F0 : Fx M R1 H1 R1 (upd H1 D (.lst [])) := (Fx.refl k).newH hD
  have rD : R1 D = none := same_none k hD
  refine lc_it w (fun i H => ∃ R vs ds, Fx M R1 H1 R H ∧ R D = none ∧ H D = some (.lst vs) ∧ AtL R vs ds ∧ E i ds R H) ⟨R1, [], [], F0, rD, upd_same, .nil, e0⟩ (fun i H hi ⟨R, vs, ds, f, _, _, _, e⟩ => hG i R H hi f) (fun i x H H' hi ⟨R, vs, ds, f, r, hv, a, e⟩ y => ?_) (fun H ⟨R, vs, ds, f, r, hv, a, e⟩ => hd R H vs ds f r hv a e)
  refine hs i x R H H' vs ds _ _ hi f r hv a e y (fun R4 H4 y d f4 h4 e4 => ?_) (fun R3 H3 f3 e3 => ?_)
  · have r4 : R4 D = none := f4.nr r hv
    have h4D : H4 D = some (.lst vs) := f4.kp _ _ hv hM
    exact ⟨vs, h4D, by rw [a.length]; exact hn i ds R H hi e, R4, vs ++ [y], ds ++ [d], (f.trans f4).put r4 (.inr hD), r4, upd_same, (a.up f4.rr).app (.cons h4 .nil), hE _ _ _ _ _ r4 e4⟩
  · exact ⟨R3, vs, ds, f.trans f3, f3.nr r hv, f3.kp _ _ hv hM, a.up f3.rr, e3⟩
end
section
variable {X : Cx}
/-- s * n, n below 1 -/
theorem op_mul_str : OpR X (binaryOp .Mult) (fun x y H Q => ∃ (z : Str) (n : Int), x = .str z ∧ y = .int n ∧ n < 1 ∧ -1 ≤ n ∧ Q (.str Str.empty) H) := by
  intro pins s σ H x y v u Q I rx ry h
  obtain ⟨z, n, rfl, rfl, h1, h2, q⟩ := h
  obtain ⟨t, rfl⟩ := rx
  obtain ⟨t', rfl⟩ := ry
  exact PySem.P.mul_str_none h1 (by omega) ⟨.str Str.empty, H, I.tok _, ⟨_, rfl⟩, q⟩
end
/-! ### texts by their signs -/
def cp (z : Str) : List Nat := z.cps.toList
theorem cp_len (z : Str) : (cp z).length = z.length := by simp [cp, Str.length]
theorem cp_app (a b : Str) : cp (a ++ b) = cp a ++ cp b := by
  show (a.cps ++ b.cps).toList = _
  simp [cp]
theorem cp_inj {a b : Str} (h : cp a = cp b) : a = b := by
  obtain ⟨⟨l⟩⟩ := a
  obtain ⟨⟨m⟩⟩ := b
  simp only [cp] at h
  rw [h]
theorem cp_one (c : Nat) : cp ⟨#[c]⟩ = [c] := rfl
theorem cp_empty : cp Str.empty = [] := rfl
theorem joinL_one : ∀ cs : List Nat, TL.joinL [] (cs.map fun c => [c]) = cs
  | [] => rfl
  | [c] => rfl
  | c :: d :: r => by
    have ih := joinL_one (d :: r)
    simp only [List.map_cons] at ih ⊢
    show [c] ++ ([] ++ TL.joinL [] _) = _
    rw [ih]
    rfl
theorem cp_join0 (z : Str) (hz : cp z = []) (cs : List Nat) : cp (Txt.join z (cs.map fun c => ⟨#[c]⟩)) = cs := by
  rw [TL.join_eq]
  show TL.tl _ = cs
  rw [TL.tl_join, show TL.tl z = [] from hz, List.map_map]
  exact joinL_one cs
theorem cp_cut (z : Str) (lo hi : Option Int) : cp (cutS z lo hi) = ((cp z).drop (HT.sIx z.length 0 lo)).take (HT.sIx z.length z.length hi - HT.sIx z.length 0 lo) := by
  simp [cutS, cp]
theorem cp_cut_lo (z : Str) (k : Nat) : cp (cutS z none (some (k : Int))) = (cp z).take k := by
  rw [cp_cut, HT.sIx_none, HT.sIx_nat]
  simp only [List.drop_zero, Nat.sub_zero]
  rw [← cp_len, Nat.min_def]
  split
  · rfl
  · rw [List.take_of_length_le (Nat.le_refl _), List.take_of_length_le (by omega)]
theorem cp_cut_hi (z : Str) (k : Nat) : cp (cutS z (some (k : Int)) none) = (cp z).drop k := by
  rw [cp_cut, HT.sIx_none, HT.sIx_nat]
  rw [← cp_len, Nat.min_def]
  split
  · rw [List.take_of_length_le (by simp)]
  · rw [List.drop_of_length_le (Nat.le_refl _), List.drop_of_length_le (by omega)]; simp
def letter (c : Nat) : Bool := decide (97 ≤ c) && decide (c < 123)

end Ld
/-! Km: networks as plain data. -/
namespace Ld
open PySem L2 PyProof.Rows
structure Edg where
  n : Str
  u : Str
  v : Str
  l : Int
def Edg.d (e : Edg) : PyData := .tuple [.str e.n, .str e.u, .str e.v, .int e.l]
structure Net where
  ns : List Str
  es : List Edg
def Net.d (N : Net) : PyData := .tuple [.list (N.ns.map PyData.str), .list (N.es.map Edg.d)]
/-- how often v ends an edge below 0 -/
def cnt (v : Str) : List Edg → Nat
  | [] => 0
  | e :: r => (if e.l < 0 then (if e.u = v then 1 else 0) + (if e.v = v then 1 else 0) else 0) + cnt v r
/-- L: the odd ends -/
def OddL (es : List Edg) (L : List Str) : Prop := L.Nodup ∧ ∀ v, v ∈ L ↔ cnt v es % 2 = 1
def ends : List Edg → List Str
  | [] => []
  | e :: r => e.u :: e.v :: ends r
def uniq : List Str → List Str
  | [] => []
  | x :: r => if x ∈ r then uniq r else x :: uniq r
theorem mem_uniq {v : Str} : ∀ {l : List Str}, v ∈ uniq l ↔ v ∈ l
  | [] => Iff.rfl
  | x :: r => by
    unfold uniq
    split
    · rename_i h
      rw [mem_uniq, List.mem_cons]
      exact ⟨.inr, fun g => g.elim (fun e => by rw [e]; exact h) id⟩
    · rw [List.mem_cons, List.mem_cons, mem_uniq]
theorem nodup_uniq : ∀ l : List Str, (uniq l).Nodup
  | [] => List.nodup_nil
  | x :: r => by
    unfold uniq
    split
    · exact nodup_uniq r
    · rename_i h
      exact List.nodup_cons.mpr ⟨fun g => h (mem_uniq.mp g), nodup_uniq r⟩
def oddL (es : List Edg) : List Str := (uniq (ends es)).filter fun v => decide (cnt v es % 2 = 1)
theorem cnt_end {v : Str} : ∀ {es : List Edg}, cnt v es ≠ 0 → v ∈ ends es
  | [], h => absurd rfl h
  | e :: r, h => by
    simp only [cnt] at h
    simp only [ends, List.mem_cons]
    by_cases h1 : e.u = v
    · exact .inl h1.symm
    · by_cases h2 : e.v = v
      · exact .inr (.inl h2.symm)
      · right; right
        refine cnt_end (es := r) ?_
        simpa [h1, h2] using h
theorem oddL_ok (es : List Edg) : OddL es (oddL es) := by
  refine ⟨?_, fun v => ?_⟩
  · exact List.Nodup.sublist List.filter_sublist (nodup_uniq _)
  · unfold oddL
    rw [List.mem_filter, decide_eq_true_iff, mem_uniq]
    exact ⟨fun h => h.2, fun h => ⟨cnt_end (by omega), h⟩⟩
theorem OddL.len {es fs : List Edg} {L M : List Str} (h : OddL es L) (g : OddL fs M) (e : ∀ v, cnt v es = cnt v fs) : L.length = M.length := by
  refine List.Perm.length_eq ((List.perm_ext_iff_of_nodup h.1 g.1).mpr fun v => ?_)
  rw [h.2, g.2, e]
def fits (es : List Edg) : Bool := decide ((oddL es).length ≤ 10)
/-- a network that stands -/
structure Good (N : Net) : Prop where
  nm : ∀ n ∈ N.ns, isNameS n = true
  nd : N.ns.Nodup
  ne : 1 ≤ N.ns.length
  nl : N.ns.length ≤ 40
  ed : ∀ e ∈ N.es, isEdge e.d N.ns = true
  en : (N.es.map Edg.n).Nodup
  el : N.es.length ≤ 100
  ft : fits N.es = true
theorem nodup_len : ∀ {L M : List Str}, L.Nodup → (∀ x ∈ L, x ∈ M) → L.length ≤ M.length
  | [], _, _, _ => Nat.zero_le _
  | x :: r, M, h, s => by
    rw [List.nodup_cons] at h
    have hx : x ∈ M := s x List.mem_cons_self
    have ih := nodup_len (L := r) (M := M.erase x) h.2 (fun y hy => (List.mem_erase_of_ne (fun e => h.1 (by rw [← e]; exact hy))).mpr (s y (List.mem_cons_of_mem _ hy)))
    rw [List.length_erase_of_mem hx] at ih
    have : 1 ≤ M.length := List.length_pos_of_mem hx
    simp only [List.length_cons]
    omega
theorem inS_mem {x : Str} {ns : List Str} : inS (.str x) ns = true ↔ x ∈ ns := by
  unfold inS
  rw [List.any_eq_true]
  refine ⟨fun ⟨y, hy, e⟩ => ?_, fun h => ⟨x, h, ?_⟩⟩
  · have : y = x := eq_of_beq e
    rw [← this]; exact hy
  · exact beq_self_eq_true x
theorem isEdge_iff {e : Edg} {ns : List Str} : isEdge e.d ns = true ↔ isNameS e.n = true ∧ isNameS e.u = true ∧ isNameS e.v = true ∧ e.u ∈ ns ∧ e.v ∈ ns ∧ e.u ≠ e.v ∧ -1000000 ≤ e.l ∧ e.l ≤ 1000000 := by
  show (isNameS e.n && isNameS e.u && isNameS e.v && inS (.str e.u) ns && inS (.str e.v) ns && !(e.u == e.v) && (decide (-1000000 ≤ e.l) && decide (e.l ≤ 1000000))) = true ↔ _
  simp only [Bool.and_eq_true, inS_mem, decide_eq_true_iff, Bool.not_eq_true', beq_eq_false_iff_ne, ne_eq]
  constructor
  · rintro ⟨⟨⟨⟨⟨⟨a, b⟩, c⟩, d⟩, e⟩, f⟩, g, h⟩
    exact ⟨a, b, c, d, e, f, g, h⟩
  · rintro ⟨a, b, c, d, e, f, g, h⟩
    exact ⟨⟨⟨⟨⟨⟨a, b⟩, c⟩, d⟩, e⟩, f⟩, g, h⟩
theorem ends_mem {v : Str} {ns : List Str} : ∀ {es : List Edg}, (∀ e ∈ es, isEdge e.d ns = true) → v ∈ ends es → v ∈ ns
  | [], _, h => by cases h
  | e :: r, g, h => by
    have ge := isEdge_iff.mp (g e List.mem_cons_self)
    simp only [ends, List.mem_cons] at h
    rcases h with rfl | rfl | h
    · exact ge.2.2.2.1
    · exact ge.2.2.2.2.1
    · exact ends_mem (fun x hx => g x (List.mem_cons_of_mem _ hx)) h
theorem fits_small {es : List Edg} {ns : List Str} (h : ∀ e ∈ es, isEdge e.d ns = true) (hn : ns.length ≤ 10) : fits es = true := by
  refine decide_eq_true (Nat.le_trans (nodup_len (oddL_ok es).1 fun v hv => ?_) hn)
  unfold oddL at hv
  rw [List.mem_filter, mem_uniq] at hv
  exact ends_mem h hv.1
end Ld
/-! Ki: readings over data that stands still. -/
namespace Ld
open PySem L2 PyProof.Rows
section
variable {K : PySem.W.Frag} {R H : Hp} {x y v : V} {Q : VK} {ds es : List PyData} {d : PyData} {xs : List V} {M : List Addr} {R1 H1 : Hp} {a : Addr} {o : HO}
theorem Fx.s0 (f : Fx [] R H R1 H1) : Fx M R H R1 H1 := f.sub (by simp)
theorem PenAt.up0 {p : Addr} {u : Nat} (h : PenAt R H p u) (f : Fx [] R H R1 H1) : PenAt R1 H1 p u := h.up f (by simp)
theorem AtL.mem {d : PyData} : ∀ {vs : List V} {ds : List PyData}, AtL R vs ds → d ∈ ds → ∃ v, v ∈ vs ∧ At R v d
  | [], [], _, h => by cases h
  | _ :: _, _ :: _, g, h => by
    cases g with
    | cons x y =>
      rcases List.mem_cons.mp h with rfl | h
      · exact ⟨_, List.mem_cons_self, x⟩
      · obtain ⟨v, h1, h2⟩ := y.mem h
        exact ⟨v, List.mem_cons_of_mem _ h1, h2⟩
theorem Fx.at1 (k : Same R H) (h : H a = none) : ∃ R1, Fx [] R H R1 (upd H a o) ∧ R1 a = some o ∧ Same R R1 := by
  refine ⟨upd R a o, (Fx.refl k).newR h, upd_same, fun b x e => ?_⟩
  rw [upd_ne (ne_of_none (k _ _ e) h)]
  exact e
theorem nw_lst {p : Addr} (k : Same R H) (h : AtL R xs ds) (hp : H p = none) : ∃ R', Fx [] R H R' (upd H p (.lst xs)) ∧ At R' (.ref p) (.list ds) ∧ Same R R' := by
  obtain ⟨R1, f, e, m⟩ := Fx.at1 (o := .lst xs) k hp
  exact ⟨R1, f, .lst e (h.up m), m⟩
theorem nw_tup {p : Addr} (k : Same R H) (h : AtL R xs ds) (hp : H p = none) : ∃ R', Fx [] R H R' (upd H p (.tup xs)) ∧ At R' (.ref p) (.tuple ds) ∧ Same R R' := by
  obtain ⟨R1, f, e, m⟩ := Fx.at1 (o := .tup xs) k hp
  exact ⟨R1, f, .tup e (h.up m), m⟩
theorem AtL.rep (h : AtL R xs ds) : ∀ c, AtL R (List.replicate c xs).flatten (List.replicate c ds).flatten
  | 0 => .nil
  | c + 1 => by
    rw [List.replicate_succ, List.replicate_succ, List.flatten_cons, List.flatten_cons]
    exact h.app (AtL.rep h c)
theorem cutAtL {vs : List V} (h : AtL R vs ds) (k : Nat) : AtL R (cutV vs none (some (k : Int))) (ds.take k) := by
  unfold cutV
  rw [HT.sIx_none, HT.sIx_nat, Nat.sub_zero, List.drop_zero]
  have e := h.length
  have h' := h.take k
  have : vs.take (min k vs.length) = vs.take k := by
    rw [Nat.min_def]
    split
    · rfl
    · rw [List.take_of_length_le (Nat.le_refl _), List.take_of_length_le (by omega)]
  rw [this]
  exact h'
theorem At.ixL {j : Nat} (hx : At R x (.list ds)) (K : PySem.W.Frag) (k : Same R H) (hj : ds[j]? = some d) : ∃ a vs v, x = .ref a ∧ SqL K H a vs ∧ vs[j]? = some v ∧ At R v d := by
  cases hx with
  | lst e h =>
    obtain ⟨v, h1, h2⟩ := h.get' hj
    exact ⟨_, _, v, rfl, SqL.of (k _ _ e), h1, h2⟩
theorem At.ixT {j : Nat} (hx : At R x (.tuple ds)) (K : PySem.W.Frag) (k : Same R H) (hj : ds[j]? = some d) : ∃ a vs v, x = .ref a ∧ SqT K H a vs ∧ vs[j]? = some v ∧ At R v d := by
  cases hx with
  | tup e h =>
    obtain ⟨v, h1, h2⟩ := h.get' hj
    exact ⟨_, _, v, rfl, SqT.of (k _ _ e), h1, h2⟩
theorem At.isL (h : At R x (.list ds)) (K : PySem.W.Frag) (k : Same R H) : ∃ a vs, x = .ref a ∧ R a = some (.lst vs) ∧ AtL R vs ds ∧ SqL K H a vs := by
  cases h with
  | lst e h => exact ⟨_, _, rfl, e, h, SqL.of (k _ _ e)⟩
theorem At.isT (h : At R x (.tuple ds)) (K : PySem.W.Frag) (k : Same R H) : ∃ a vs, x = .ref a ∧ R a = some (.tup vs) ∧ AtL R vs ds ∧ SqT K H a vs := by
  cases h with
  | tup e h => exact ⟨_, _, rfl, e, h, SqT.of (k _ _ e)⟩
end
end Ld
/-! Kj: dicts whose keys are texts. -/
namespace Ld
open PySem L2 PyProof.Rows
def kv (ks : List Str) (f : Str → V) : List (Key × V) := ks.map fun v => ((Sum.inr v : Key), f v)
theorem kv_any (u : Str) (f : Str → V) : ∀ ks : List Str, ((kv ks f).any fun p => decide (p.1 = (Sum.inr u : Key))) = decide (u ∈ ks)
  | [] => rfl
  | k :: r => by
    show (decide ((Sum.inr k : Key) = Sum.inr u) || (kv r f).any _) = _
    rw [kv_any u f r]
    by_cases h : k = u
    · subst h
      simp
    · have h1 : decide ((Sum.inr k : Key) = Sum.inr u) = false := decide_eq_false (fun e => h (Sum.inr.inj e))
      rw [h1, Bool.false_or]
      by_cases h2 : u ∈ r
      · rw [decide_eq_true h2, decide_eq_true (List.mem_cons_of_mem _ h2)]
      · rw [decide_eq_false h2, decide_eq_false (by rw [List.mem_cons]; rintro (e | e); exact h e.symm; exact h2 e)]
theorem valV_kv (u : Str) (f : Str → V) : ∀ ks : List Str, valV (kv ks f) (Sum.inr u : Key) = if u ∈ ks then some (f u) else none
  | [] => rfl
  | k :: r => by
    show valV (((Sum.inr k : Key), f k) :: kv r f) _ = _
    by_cases h : k = u
    · subst h
      rw [valV_pos rfl, if_pos List.mem_cons_self]
    · rw [valV_neg (fun e => h (Sum.inr.inj e)), valV_kv u f r]
      by_cases h2 : u ∈ r
      · rw [if_pos h2, if_pos (List.mem_cons_of_mem _ h2)]
      · rw [if_neg h2, if_neg (by rw [List.mem_cons]; rintro (e | e); exact h e.symm; exact h2 e)]
/-- the keys after u is stored -/
def addK (ks : List Str) (u : Str) : List Str := if u ∈ ks then ks else ks ++ [u]
theorem putK_kv (ks : List Str) (f : Str → V) (u : Str) (x : V) : putK (kv ks f) (Sum.inr u : Key) x = kv (addK ks u) (fun v => if v = u then x else f v) := by
  unfold putK addK
  rw [kv_any]
  by_cases h : u ∈ ks
  · rw [if_pos (decide_eq_true h), if_pos h]
    unfold kv
    rw [List.map_map]
    refine List.map_congr_left fun v _ => ?_
    show (if (Sum.inr v : Key) = Sum.inr u then ((Sum.inr v : Key), x) else (Sum.inr v, f v)) = ((Sum.inr v : Key), if v = u then x else f v)
    by_cases e : v = u
    · rw [if_pos (by rw [e]), if_pos e]
    · rw [if_neg (fun z => e (Sum.inr.inj z)), if_neg e]
  · rw [if_neg (by simpa using h), if_neg h]
    unfold kv
    rw [List.map_append]
    congr 1
    · refine List.map_congr_left fun v hv => ?_
      have e : v ≠ u := fun e => h (by rw [← e]; exact hv)
      show _ = ((Sum.inr v : Key), if v = u then x else f v)
      rw [if_neg e]
    · show _ = [((Sum.inr u : Key), if u = u then x else f u)]
      rw [if_pos rfl]
theorem addK_nodup {ks : List Str} {u : Str} (h : ks.Nodup) : (addK ks u).Nodup := by
  unfold addK
  split
  · exact h
  · rename_i g
    rw [List.nodup_append]
    exact ⟨h, List.nodup_cons.mpr ⟨by simp, List.nodup_nil⟩, fun a ha b hb e => g (by rw [List.mem_singleton.mp hb] at e; rw [← e]; exact ha)⟩
theorem addK_mem {ks : List Str} {u v : Str} : v ∈ addK ks u ↔ v ∈ ks ∨ v = u := by
  unfold addK
  split
  · rename_i g
    exact ⟨.inl, fun h => h.elim id fun e => by rw [e]; exact g⟩
  · rw [List.mem_append, List.mem_singleton]
theorem addK_len {ks : List Str} {u : Str} : (addK ks u).length ≤ ks.length + 1 := by
  unfold addK
  split
  · omega
  · simp
theorem kv_len (ks : List Str) (f : Str → V) : (kv ks f).length = ks.length := by simp [kv]
theorem kv_congr {ks : List Str} {f g : Str → V} (h : ∀ v ∈ ks, f v = g v) : kv ks f = kv ks g := List.map_congr_left fun v hv => by rw [h v hv]
theorem dgetR {H : Hp} {a : Addr} {kvs : List (Key × V)} {z : Str} {r : Option V} (h : Rd H a (.dK kvs)) (e : valV kvs (Sum.inr z : Key) = r) : DGet H a (.str z) r := .inl ⟨kvs, Sum.inr z, h, rfl, e.symm⟩
/-- half edges: the end, and whether the edge is below 0 -/
def halves : List Edg → List (Str × Bool)
  | [] => []
  | e :: r => (e.u, decide (e.l < 0)) :: (e.v, decide (e.l < 0)) :: halves r
def cntH (v : Str) : List (Str × Bool) → Nat
  | [] => 0
  | h :: r => (if h.1 = v ∧ h.2 = true then 1 else 0) + cntH v r
theorem cntH_app (v : Str) : ∀ a b : List (Str × Bool), cntH v (a ++ b) = cntH v a + cntH v b
  | [], b => by simp [cntH]
  | h :: r, b => by
    show _ + cntH v (r ++ b) = _ + cntH v r + _
    rw [cntH_app v r b]
    omega
theorem cntH_halves (v : Str) : ∀ es : List Edg, cntH v (halves es) = cnt v es
  | [] => rfl
  | e :: r => by
    simp only [halves, cntH, cnt]
    rw [cntH_halves v r]
    by_cases h : e.l < 0
    · simp only [h, decide_true, and_true, if_true]
      omega
    · simp only [h, decide_false, Bool.false_eq_true, and_false, if_false]
      omega
theorem halves_app : ∀ a b : List Edg, halves (a ++ b) = halves a ++ halves b
  | [], b => rfl
  | e :: r, b => by
    show _ :: _ :: halves (r ++ b) = _
    rw [halves_app r b]
    rfl
theorem halves_ends : ∀ es : List Edg, (halves es).map Prod.fst = ends es
  | [] => rfl
  | e :: r => by
    show e.u :: e.v :: (halves r).map Prod.fst = _
    rw [halves_ends r]
    rfl
end Ld
/-! Kx0: an own exception over a built-in one whose own __new__ may stand further up: its making. -/
namespace Ld
open PySem PySem.HandSPX
/-- the built-in __init__ of B -/
structure InF (B initId : String) : Prop where
  kind : builtinKind initId = some .slot
  row : Manifest.signature? initId = some ⟨.positional, "*", B, .self, [⟨"args", .varPos, false⟩]⟩
  noStar : (B != "*") = true
  entry : entryFor table initId = some Builtin.«BaseException.__init__»
  plain : plainId initId = true
theorem inF_of {B newId initId : String} {bm : List Value} (F : ExcBaseFacts B newId initId bm) : InF B initId := ⟨F.initKind, F.initRow, F.noStar, F.initEntry, F.init.plain⟩
theorem inF_KeyError : InF "KeyError" "KeyError.__init__" where
  kind := by kernel_rfl
  row := by kernel_rfl
  noStar := by decide +kernel
  entry := entryFor_alias (id' := "BaseException.__init__") (by rw [fastTable_eq_tree]; kernel_rfl) (by first | rfl | decide +kernel) (by decide +kernel) (by rw [fastTable_eq_tree]; kernel_rfl)
  plain := by decide +kernel
theorem kxs_KeyError : PySem.W.KxsFacts "KeyError" "KeyError.__init__" := ⟨by show builtinType _ = _; rw [builtinType_eq_fast]; kernel_rfl, by first | kernel_rfl | rfl⟩
/-- what is asked of the classes above: bm; O: where __new__ stands -/
structure Abv (O newId iO : String) (bmO bm : List Value) : Prop where
  F : ExcBaseFacts O newId iO bmO
  hO : bm.contains (.type O) = true
  hA : bm.contains (.type "AttributeError") = false
  hN : bm.contains (.type "NameError") = false
section
variable {M : Model} {A : Around} {E : Value → Shared → Prop} {h : Heap} {g : Array GenState} {d : Drawn} {t : Nat} {os : OsState}
variable {nm q : Str} {C N : Addr} {bs bm bmO : List Value} {hdct : Bool} {sn : List Str} {sub : List Value} {ab : Bool} {col : Option Bool} {dd : Option Addr} {k0 k1 k2 k3 k5 : Option Value} {O newId iO : String}
theorem xcheck_new (T : Abv O newId iO bmO bm) {rest : List Value} {Q : Unit → Shared → Prop}
    (hC : h.get? C = some (excClassObj nm q C N bs bm hdct sn sub ab col dd k0 k1 k2 k3 k5 newId)) (hq : Q () ⟨h, g, d, t, os⟩) : wpAny M A (checkBuiltinCall newId ⟨.ref C :: rest, []⟩) Q E ⟨h, g, d, t, os⟩ := by
  have F := T.F
  have hcont : (Value.ref C :: bm).contains (.type O) = true := by rw [List.contains_cons, T.hO, Bool.or_true]
  have hstar := F.noStar
  simp only [checkBuiltinCall, F.newKind, F.newSplit, F.newRow]
  repeat (first | refine wpAny_loadPart_at hC ?_ | (refine wpAny_isSubtype_exc hC ?_; rw [hcont]) | refine wpAny_staticBase_exc hC ?_ | refine wpAny_madeBy_exc hC ?_ | simp only [bne_self_eq_false, Bool.false_eq_true, if_false] | wp_step)
  exact hq
end
section
variable {prog : Program} {w : World} {A : Around} {E : Value → Shared → Prop} {R : Result → Shared → Prop} {h : Heap} {g : Array GenState} {d : Drawn} {t : Nat} {os : OsState}
variable {nm q : Str} {C N : Addr} {bs bm bmO : List Value} {hdct : Bool} {sn : List Str} {sub : List Value} {ab : Bool} {col : Option Bool} {dd : Option Addr} {k0 k1 k2 k3 k5 : Option Value} {O newId iO : String}
theorem xnew (T : Abv O newId iO bmO bm) {rest : List Value}
    (hC : h.get? C = some (excClassObj nm q C N bs bm hdct sn sub ab col dd k0 k1 k2 k3 k5 newId))
    (hq : R (.ok (.ret (.ref (h.objs.size + 1)))) ⟨(h.push { cls := .type "tuple", data := .seq rest.toArray }).push
      { cls := .ref C, data := .fields #[.ref h.objs.size, .none, .none, .none, .bool false, .none] }, g, d, t, os⟩) (hrest : rest.length ≤ sizeLine) :
    codeAny (model prog w) A (.builtin newId ⟨.ref C :: rest, []⟩) R ⟨h, g, d, t, os⟩ := by
  have F := T.F
  have hends := F.ends
  have hcB : (Value.ref C :: bm).contains (.type O) = true := by rw [List.contains_cons, T.hO, Bool.or_true]
  have hcA : (Value.ref C :: bm).contains (.type "AttributeError") = false := by rw [List.contains_cons, T.hA]; rfl
  have hcN : (Value.ref C :: bm).contains (.type "NameError") = false := by rw [List.contains_cons, T.hN]; rfl
  refine codeAny_builtinAt F.entry ?_
  unfold Builtin.«BaseException.__new__»
  refine wpAt_bind ?_
  show wpAt _ _ _ (stack >>= _) _ _ _
  refine wpAt_bind (wpAt_stack fun p below => wpAt_of_wpAny ?_)
  wp_walk
  refine wpAt_of_wpAny ?_
  rw [F.owner]
  repeat (first | with_reducible refine wpAny_madeHere_exc F.canon hC ?_ | with_reducible refine wpAny_loadPart_at hC ?_ | (with_reducible refine wpAny_isSubtype_exc hC ?_; first | rw [hcB] | rw [hcA] | rw [hcN]) | wp_step)
  show R _ _
  rw [Heap.size_push]
  exact hq
theorem xtype_call (T : Abv O newId iO bmO bm) {rest : List Value} {fI : Addr} {Q : Fin → Shared → Prop}
    (hC : h.get? C = some (excClassObj nm q C N bs bm hdct sn sub ab col dd k0 k1 k2 k3 k5 newId))
    (hi : W.Looks (model prog w) h (typeLookup (.ref C) "__init__") (some (.ref fI))) (hb : ∀ self, W.Looks (model prog w) h (bindSpecial (.ref fI) self) (.ref fI, [self])) (hrest : rest.length ≤ sizeLine)
    (hq : codeAny (model prog w) A (.call (.ref fI) ⟨.ref (h.objs.size + 1) :: rest, []⟩)
      (fun r s' => match r with | .ok (.ret v) => v = .none ∧ Q (.done (.ret (.ref (h.objs.size + 1)))) s' | .ok _ => False | .error e => E e s')
      ⟨(h.push (W.kdv_tup rest)).push (excO C h.objs.size), g, d, t, os⟩) :
    wpAny (model prog w) A (Builtin.«type.__call__» ⟨.ref C :: rest, []⟩) Q E ⟨h, g, d, t, os⟩ := by
  repeat (first | with_reducible refine wpAny_loadPart_at hC ?_ | with_reducible refine wpAny_madeBy_exc hC ?_ | wp_step)
  refine codeAny_call_builtin_code (Code.quiet_builtin _ T.F.quiet) (xcheck_new T hC ?_)
  refine xnew T hC ?_ hrest
  show wpAny _ _ _ _ _ _
  have k : ∀ b o, h.get? b = some o → ((h.push (W.kdv_tup rest)).push (excO C h.objs.size)).get? b = some o := fun b o e => Heap.get?_push_of_some _ (Heap.get?_push_of_some _ e)
  have hC₁ := k _ _ hC
  have hget : ((h.push (W.kdv_tup rest)).push (excO C h.objs.size)).get? (h.objs.size + 1) = some (excO C h.objs.size) := by heap_get
  have hcC : (Value.ref C :: bm).contains (.ref C) = true := by simp
  have i1 := hi.keeps k
  have b1 := (hb (.ref (h.objs.size + 1))).keeps k
  unfold isInstance
  repeat (first | with_reducible refine wpAny_loadPart_at hget ?_ | (with_reducible refine wpAny_isSubtype_exc hC₁ ?_; rw [hcC]) | wp_step)
  show wpAny _ _ (typeLookup (.ref C) _) _ _ _
  refine i1.at ?_
  refine wpAny_holding (wpAny_bind (b1.at ?_))
  refine wpAny_bind (wpAny_call (codeAny_mono hq fun r s' z => ?_))
  rcases r with e | (v | _ | _ | _) <;> first | exact z | exact z.elim | skip
  obtain ⟨rfl, z⟩ := z
  first
    | exact wpAny_pure (wpAny_pure z)
    | (wp_walk; exact z)
theorem xcall (T : Abv O newId iO bmO bm) {rest : List Value} {fI : Addr}
    (hC : h.get? C = some (excClassObj nm q C N bs bm hdct sn sub ab col dd k0 k1 k2 k3 k5 newId))
    (hi : W.Looks (model prog w) h (typeLookup (.ref C) "__init__") (some (.ref fI))) (hb : ∀ self, W.Looks (model prog w) h (bindSpecial (.ref fI) self) (.ref fI, [self])) (hrest : rest.length ≤ sizeLine)
    (hq : codeAny (model prog w) (A.under (.builtin "type.__call__" ⟨.ref C :: rest, []⟩)) (.call (.ref fI) ⟨.ref (h.objs.size + 1) :: rest, []⟩) (W.InitBack (h.objs.size + 1) R)
      ⟨(h.push (W.kdv_tup rest)).push (excO C h.objs.size), g, d, t, os⟩) :
    codeAny (model prog w) A (.call (.ref C) ⟨rest, []⟩) R ⟨h, g, d, t, os⟩ := by
  have f1 := tc_lookup
  have f2 := tc_bind (.ref C)
  have hTy : (⟨h, g, d, t, os⟩ : Shared).TypeIs (.ref C) "type" := ⟨_, hC, rfl⟩
  refine codeAny_of_tree ?_
  show wpAny _ _ (callAny (.ref C) _) _ _ _
  repeat (any_goals (first | assumption | with_reducible refine wpAny_loadPart_at hC ?_ | wp_step))
  refine ⟨rfl, ?_⟩
  refine codeAny_call_builtin_at (Code.quiet_builtin _ (by decide +kernel)) entry_typeCall (wpAny_check_type_call_sub hC (xtype_call T hC hi hb hrest ?_))
  refine codeAny_mono hq fun r s' z => ?_
  rcases r with e | (v | _ | _ | _) <;> exact z
end
end Ld
/-! Kx1: an own exception whose __init__ says super().__init__(f); self.f = f: its making, by the model's own words. -/
namespace Ld
open PySem PySem.HandSPX PySem.W PySem.Calls
/-- the text of such an __init__ -/
def xArgs (f : Str) (q1 q2 : Pos) : Arguments := { posonlyargs := [], args := [{ arg := "self", annotation := none, pos := q1 }, { arg := f, annotation := none, pos := q2 }], vararg := none, kwonlyargs := [], kw_defaults := [], kwarg := none, defaults := [] }
def xBody (f : Str) (p1 p2 p3 p4 p5 p6 p7 p8 p9 p10 : Pos) : List Stmt :=
  [.Expr (.Call (.Attribute (.Call (.Name "super" p1) [] [] p2) "__init__" p3) [.Name f p4] [] p5) p6, .Assign [.Attribute (.Name "self" p7) f p8] (.Name f p9) p10]
structure XTxt (f : Str) (ar : Arguments) (bd : List Stmt) (sc : Scope) : Prop where
  ar : ∃ q1 q2, ar = xArgs f q1 q2
  bd : ∃ p1 p2 p3 p4 p5 p6 p7 p8 p9 p10, bd = xBody f p1 p2 p3 p4 p5 p6 p7 p8 p9 p10 ∧ ∀ (q : Str) (L a cc : Addr) (cd : Value), ∃ pl : Sem Bool,
    eval (.Call (.Attribute (.Call (.Name "super" p1) [] [] p2) "__init__" p3) [.Name f p4] [] p5) (envX q sc L a cd [("__class__", cc)]) = (do
      let ov ← attributeBase (.Call (.Name "super" p1) [] [] p2) "__init__" (envX q sc L a cd [("__class__", cc)]) (eval (.Call (.Name "super" p1) [] [] p2) (envX q sc L a cd [("__class__", cc)]))
      standAt p3.atName
      let (g, first) ← holding [ov] (getMethod ov "__init__" pl)
      callWith p5 g first (backTo p5 (starEach [.Name f p4] (envX q sc L a cd [("__class__", cc)]))) [])
  ks : sc.names.lookup ("super" : Str) = some .globalImplicit
  kc : sc.names.lookup ("__class__" : Str) = some .free
  k1 : sc.names.lookup ("self" : Str) = some .local
  k2 : sc.names.lookup f = some .local
  kd : sc.kind = .function
  cell : ∀ x ∈ sc.names, x.2 ≠ .cell
  co : sc.isCoroutine = false
  gen : sc.isGenerator = false
/-- the program's own file and top -/
structure PFacts (P : Program) : Prop where
  top : (P.main.scope.names.lookup ("super" : Str)).isSome = false
/-- what the written part says of such a class (at C, its __init__ at fI) -/
structure XT (P : Program) (K : Frag) (C fI : Addr) (f : Str) (B O newId iO initId : String) (bmO bm : List Value) : Prop where
  ab : Abv O newId iO bmO bm
  ini : InF B initId
  kx : KxsFacts B initId
  pass : ∀ self, refuseLoop self "__setattr__" bm = pure ()
  hob : bm.contains (.type "object") = true
  hB : bm.contains (.type B) = true
  al : alongIn K "__init__" bm = some (some (.builtin initId))
  cls : ∃ nm q N bs sn sub ab col dd k0 k1 k2 k3 k5, K.lookup C = some (excClassObj nm q C N bs bm true sn sub ab col dd k0 k1 k2 k3 k5 newId)
  sa : findIn K (.ref C) "__setattr__" = some (some (.builtin "object.__setattr__"))
  ga : findIn K (.ref C) "__getattribute__" = some (some (.builtin "BaseException.__getattribute__"))
  gg : findIn K (.ref C) "__getattr__" = some none
  noN : findIn K (.ref C) f = some none
  iC : findIn K (.ref C) "__init__" = some (some (.ref fI))
  tC : typeIn K (.ref fI) = some (.type "function")
  kC : keepIn K (.ref C) = true
  exC : subIn K (.ref C) (.type "BaseException") = some true
  tyC : typeIn K (.ref C) = some (.type "type")
  hdC : hasDictIn K C = true
  op : nsIn K cStatics "thirdparty.any" = some none
  ff : (f == ("__class__" : Str)) = false ∧ (f == ("self" : Str)) = false ∧ (f == ("__debug__" : Str)) = false
  bi : ∀ (name qual : Str) (q1 q2 : Pos) (bd : List Stmt) (sc : Scope) (cl : List (Str × Addr)) (kV doc pm : Value) (an : Option Addr) (cdv ct a b : Value), bindArgs (fnX name qual (xArgs f q1 q2) bd sc cl .none kV doc pm an cdv ct) ⟨[a, b], []⟩ = pure [(("self" : Str), a), (f, b)]
  fn : ∃ (name qual : Str) (ar : Arguments) (bd : List Stmt) (sc : Scope) (cc : Addr) (kV doc pm ct oc : Value) (an od : Option Addr) (osl : Array (Option Value)) (cda : Addr),
    K.lookup fI = some ⟨oc, od, .func (fnX name qual ar bd sc [("__class__", cc)] .none kV doc pm an (.ref cda) ct), osl⟩ ∧ codeIn K (.ref cda) qual = true ∧ XTxt f ar bd sc ∧
    (∃ (cl : Value) (cld : Option Addr) (csl : Array (Option Value)), K.lookup cc = some ⟨cl, cld, .cell (some (.ref C)), csl⟩) ∧
    ∃ (ccl : Value) (cdd : Option Addr) (ccs : Array (Option Value)) (vs : Array Value) (file : Str) (tf : Tok), K.lookup cda = some ⟨ccl, cdd, .fields vs, ccs⟩ ∧ vs[2]? = some (.str file tf) ∧ ((P.main.file : Str) == file) = true
/-- what __init__ leaves of a fresh exception at x -/
structure XEnd (h h' : Heap) (x C dx t1 : Addr) (f : Str) (v : Value) : Prop where
  keep : ∀ b o, b ≠ x → h.get? b = some o → h'.get? b = some o
  obj : h'.get? x = some { cls := .ref C, dict := some dx, data := .fields #[.ref t1, .none, .none, .none, .bool false, .none] }
  dbig : h.objs.size ≤ dx
  dne : dx ≠ x
  ns : h'.Ns1 dx (fun y => if y = f then some v else none)
section
variable {prog : Program} {w : World} {A : Around} {E : Value → Shared → Prop} {R : Result → Shared → Prop} {s : Shared} {K : Frag} {mg : Str → Option Value} {C fI : Addr} {f : Str} {B O newId iO initId : String} {bmO bm : List Value}
theorem xcheck_bound {M : Model} {A : Around} {E : Value → Shared → Prop} {h : Heap} {g : Array GenState} {d : Drawn} {t : Nat} {os : OsState} (F : InF B initId) {nm q : Str} {C N e : Addr} {oe : Obj} {bs bm : List Value} {hdct : Bool} {sn : List Str} {sub : List Value} {ab : Bool} {col : Option Bool} {dd : Option Addr} {k0 k1 k2 k3 k5 : Option Value} {rest : List Value} {Q : Unit → Shared → Prop}
    (hC : h.get? C = some (excClassObj nm q C N bs bm hdct sn sub ab col dd k0 k1 k2 k3 k5 newId)) (he : h.get? e = some oe) (hcls : oe.cls = .ref C) (hq : Q () ⟨h, g, d, t, os⟩) : wpAny M A (checkBoundCall initId ⟨.ref e :: rest, []⟩) Q E ⟨h, g, d, t, os⟩ := by
  have hshort := F.noStar
  simp only [checkBoundCall, F.kind, F.row]
  repeat (first | (with_reducible refine wpAny_loadPart_at he ?_; rw [hcls]) | with_reducible refine wpAny_loadPart_at hC ?_ | wp_step)
  refine wpAny_onRaise ?_
  rw [show ∀ (a b : String) (n : Nat), Bind.check ⟨.positional, "*", B, .self, [⟨"args", .varPos, false⟩]⟩ a b n (List.map (fun x => x.fst) ({ pos := Value.ref e :: rest } : Args).kw) = pure () from
    fun a b n => check_star_args _ _ _ _ _ _]
  exact wpAny_pure hq
open Builtin Builtin.ObjectAttr in
theorem xosa {hp : Heap} {g : Array GenState} {d : Drawn} {t : Nat} {os : OsState} {name : Str} {tk : Tok} {v : Value} {x C : Addr} {fv : Array Value} {cd : ClassData}
    (hpass : ∀ self, refuseLoop self "__setattr__" bm = pure ()) (hob : bm.contains (.type "object") = true)
    (X : K.In hp) (hx : hp.get? x = some { cls := .ref C, data := .fields fv }) (hcd : clsIn K C = some cd) (hm : cd.mro = .ref C :: bm) (hh : cd.hasDict = true) (ha : findIn K (.ref C) name = some none)
    (hq : ∀ h' tk' dx, (∀ b o, b ≠ x → hp.get? b = some o → h'.get? b = some o) → hp.objs.size ≤ dx → dx ≠ x → h'.get? x = some { cls := .ref C, dict := some dx, data := .fields fv } →
      h'.Ns1 dx (fun y => if y = name then some v else none) → R (.ok (.ret .none)) ⟨h', g, d, tk', os⟩) :
    codeAny (model prog w) A (.call (.builtin "object.__setattr__") ⟨[.ref x, .str name tk, v], []⟩) R ⟨hp, g, d, t, os⟩ := by
  have I : InstAt hp x { cls := .ref C, data := .fields fv } C none := ⟨hx, rfl, rfl, trivial⟩
  have SF := F.store_object
  have hxs : x ≠ hp.objs.size := Nat.ne_of_lt (Heap.lt_size hx)
  have sub : Looks (model prog w) hp (isInstance (.ref x) (.type "object")) true := I.type.andThen (looks_mroIn X (by unfold mroIn; rw [hcd, Option.bind_some, hm, if_neg (by simp)]; simp only [List.contains_cons, hob, Bool.or_true]))
  refine codeAny_call_builtin SF.slot.plain SF.entry (@check_slot (model prog w) _ _ ⟨hp, g, d, t, os⟩ "object.__setattr__" "object" "__setattr__" (.ref x) [.str name tk, v] [] _ SF.kind SF.split sub (SF.args (.ref x) (.str name tk) v) ?_)
  have hmr : Looks (model prog w) hp (mroOf (.ref C)) cd.mro := (looks_clsIn X hcd).andThen .now
  have L3 : Looks (model prog w) hp (storeTaker? none) none := .now
  have hcls : Looks (model prog w) hp (classData C) cd := looks_clsIn X hcd
  have hpass2 : refuseLoop (.ref x) "__setattr__" cd.mro = pure () := by
    rw [hm, refuseLoop_ref]
    exact hpass _
  rw [osa_eq, refuse_eq]
  refine wpAny_bind (wpAny_bind (I.type.at (wpAny_bind (hmr.at ?_))))
  rw [hpass2]
  refine wpAny_pure (wpAny_bind (I.type.at (wpAny_bind ((looks_findIn X ha).at (wpAny_bind (L3.at ?_))))))
  show wpAny _ _ (storeInOwnDict (.ref x) (.ref C) (.str name tk) name v false) _ _ _
  obtain ⟨nm, bs, mro, ns, qn, hd, sn, sb, ab, col, del⟩ := cd
  dsimp only at hh
  subst hh
  unfold storeInOwnDict ownDictForStores
  repeat (first | with_reducible refine store_in_new ?_ ?_ | with_reducible refine wpAny_loadPart_at hx ?_ | with_reducible refine hcls.at ?_ | wp_step)
  · exact ⟨_, #[], _, (Heap.get?_update_ne _ _ _ _ hxs.symm).trans (Heap.get?_push_at rfl rfl), rfl, fun e he => absurd he (by simp), fun _ => rfl⟩
  · intro h' tk' hn' hs
    have hx₁ : (hp.push { cls := .type "dict", data := .dict #[] }).get? x = some { cls := .ref C, data := .fields fv } := Heap.get?_push_of_some _ hx
    refine hq h' tk' hp.objs.size (fun b o hb ho => ?_) (Nat.le_refl _) hxs.symm ?_ hn'
    · exact (hs.2 b (Nat.ne_of_lt (Heap.lt_size ho))).trans ((Heap.get?_update_ne _ _ _ _ hb).trans (Heap.get?_push_of_some _ ho))
    · exact (hs.2 x hxs).trans (Heap.get?_update_self _ hx₁ rfl)
theorem sup_init (PF : PFacts prog) (T : XT prog K C fI f B O newId iO initId bmO bm) {x t0 : Addr} {v : Value} {mb : Str → Option Value} (X : K.In s.heap) (hlim : s.heap.NoLimit) (hg : s.heap.Ns mainGlobals mg) (hms : mg "super" = none) (hb : s.heap.Ns builtinsNs mb) (hmb : mb "super" = some (.type "super"))
    (hx : s.heap.get? x = some (excO C t0)) (hnx : K.lookup x = none) (hroom : A.depth < recursionLimit)
    (hq : ∀ h' tk dx t1, XEnd s.heap h' x C dx t1 f v → R (.ok (.ret .none)) { s with heap := h', toks := tk }) :
    codeAny (model prog w) A (.call (.ref fI) ⟨[.ref x, v], []⟩) R s := by
  obtain ⟨name, qual, ar, bd, sc, cc, kV, doc, pm, ct, oc, an, od, osl, cda, ho, hcd, TX, ⟨cl, cld, csl, hcell⟩, ccl, cdd, ccs, vs, file, tf, hcode, hvs, hfile⟩ := T.fn
  obtain ⟨⟨q1, q2, rfl⟩, ⟨p1, p2, p3, p4, p5, p6, p7, p8, p9, p10, rfl, hev⟩, ks, kc, k1, k2, kd, hcl, hco, hgen⟩ := TX
  obtain ⟨nm, q, N, bs, sn, sub, ab, col, dd, k0, k1', k2', k3, k5, hC⟩ := T.cls
  obtain ⟨kind, names, isGen, isCo, more⟩ := sc
  simp only at kd hco hgen ks kc k1 k2 hcl
  subst kd hco hgen
  have hclC : clsIn K C = some { name := nm, bases := bs, mro := .ref C :: bm, ns := N, qualname := q, hasDict := true, slotNames := sn, subclasses := sub, abstract := ab, collection := col, hasDel := false } := by unfold clsIn; rw [hC] <;> rfl
  refine ks_codeAny_call_defAt (binds := [("self", .ref x), (f, v)]) hroom (X _ _ ho) rfl hlim (codeRec_of X hcd) rfl (BindsTo.of_eq (T.bi _ _ _ _ _ _ _ _ _ _ _ _ _ _ _)) hcl ?_ (fun h₁ hns hk₁ => ?_) rfl rfl rfl
  · intro y hy
    simp only [List.mem_cons, List.not_mem_nil, or_false] at hy
    rcases hy with rfl | rfl
    · exact k1
    · exact k2
  have X₁ : K.In h₁ := X.keeps hk₁
  have hx₁ := hk₁ _ _ hx
  have hb₁ := hb.keeps hk₁
  have hg₁ := hg.keeps hk₁
  have hL : s.heap.objs.size < h₁.objs.size := hns.lt
  have hxL : s.heap.objs.size ≠ x := Nat.ne_of_gt (Heap.lt_size hx)
  have hxC : x ≠ C := by
    intro z
    rw [z] at hx
    have := X _ _ hC
    rw [hx] at this
    cases this
  have m1 : (fun y => [(("self" : Str), Value.ref x), (f, v)].reverse.lookup y) ("self" : Str) = some (.ref x) := by
    have h : (("self" : Str) == f) = false := by
      have := T.ff.2.1
      rw [beq_eq_false_iff_ne] at this ⊢
      exact fun e => this e.symm
    simp only [List.reverse_cons, List.reverse_nil, List.nil_append, List.cons_append, List.lookup, h, beq_self_eq_true]
  have m2 : (fun y => [(("self" : Str), Value.ref x), (f, v)].reverse.lookup y) f = some v := by simp [List.lookup]
  obtain ⟨pl, hev⟩ := hev qual s.heap.objs.size fI cc (.ref cda)
  refine ks_wpAt_execs_cons (ks_wpAt_Expr_any (ks_wpAt_MethodCall (he := hev) (ks_wpAt_super_base (env := callEnv _ s.heap.objs.size fI) ks kc (by decide) rfl (X₁ _ _ ho) rfl rfl rfl (X₁ _ _ hcode) rfl hvs hfile PF.top ?_)))
  refine ks_loadName_global rfl ks (PySem.Calls.loadGlobal_builtin (env := callEnv _ s.heap.objs.size fI) hg₁ hms hb₁ hmb ⟨rfl, ?_⟩)
  refine wpAny_loadName_free (env := callEnv _ s.heap.objs.size fI) rfl kc rfl ⟨_, X₁ _ _ hcell, rfl⟩ ?_
  refine wpAny_loadName_local (env := callEnv _ s.heap.objs.size fI) rfl k1 hns m1 ?_
  refine ks_wpAny_isType_cls (X₁ _ _ hC) rfl ⟨rfl, ?_⟩
  have hsub : Looks (model prog w) h₁ (isSubtype (.ref C) (.ref C)) true := looks_mroIn X₁ (by unfold mroIn; rw [hclC, Option.bind_some, if_neg (by simp)]; simp)
  refine ks_wpAny_call_super (X₁ _ _ hC) rfl hx₁ rfl (fun c e => by cases e) hsub (fun h₂ hso k₂ => ?_)
  have X₂ := X₁.keeps k₂
  have hx₂ := k₂ _ _ hx₁
  have hn₂ := hns.keeps k₂
  have I₂ : InstAt h₂ x (excO C t0) C none := ⟨hx₂, rfl, rfl, trivial⟩
  have hI : Looks (model prog w) h₂ (isInstance (.ref x) (.type B)) true := I₂.type.andThen (looks_mroIn X₂ (by unfold mroIn; rw [hclC, Option.bind_some, if_neg (by simp)]; simp only [List.contains_cons, T.hB, Bool.or_true]))
  refine kxs_getMethod T.kx hso (looks_opaque X₂ T.op) (l₀ := .ref C :: bm) (fun A Q E s k q => wpAny_bind ((looks_clsIn X₂ hclC) A _ E s k (wpAny_pure q))) (ESX.drop_own C bm) X₂ T.al hI hxC (by decide) ?_
  have hu : (h₂.push (kxs_mw initId x)).get? h₂.objs.size = some (kxs_mw initId x) := Heap.get?_push_at rfl rfl
  have k₃ : ∀ b o, h₂.get? b = some o → (h₂.push (kxs_mw initId x)).get? b = some o := fun b o e => Heap.get?_push_of_some _ e
  have hz₃ : h₂.objs.size < (h₂.push (kxs_mw initId x)).objs.size := Heap.lt_size hu
  generalize hh3 : h₂.push (kxs_mw initId x) = h₃ at hu k₃ hz₃ ⊢
  have X₃ := X₂.keeps k₃
  have hx₃ := k₃ _ _ hx₂
  have hn₃ := hn₂.keeps k₃
  refine kxs_callWith (i := initId) (x := x) rfl (PySem.Calls.evalArgs_plain (PySem.Calls.spliced_cons ?_))
  refine wpAny_Name ?_ T.ff.2.2
  refine wpAny_loadName_local rfl k2 hn₃ m2 ?_
  refine PySem.Calls.spliced_nil ⟨hu, ?_⟩
  -- the wrapper is called
  refine wpAny_call (codeAny_of_tree ?_)
  show wpAny _ _ (callAny (.ref h₂.objs.size) ⟨[v], []⟩) _ _ _
  simp only [callAny]
  refine wpAny_bind (wpAny_load hu ?_)
  simp only [kxs_mw, show (Value.type "method-wrapper" == Value.type "method" || Value.type "method-wrapper" == Value.type "builtin_function_or_method" || Value.type "method-wrapper" == Value.type "method-wrapper") = true by decide, if_true]
  refine KFB.if_so (by decide) ?_
  have hC₃ := X₃ _ _ hC
  refine wpAny_bind (xcheck_bound T.ini hC₃ hx₃ rfl ?_)
  refine wpAny_pure ?_
  refine ⟨plainId_quiet T.ini.plain _, codeAny_builtin T.ini.entry ?_⟩
  refine exc_init_tree (cls := .ref C) (t0 := t0) (dv := none) (c2 := .none) (c3 := .none) (b4 := .bool false) hx₃ (by rw [sizeLine_eq]; show 1 ≤ 16777216; decide) (fun h₄ k₄ hx₄ ht₄ => ?_)
  -- self.f = f
  show _root_.PySem.wpAt _ _ _ (execs _ _) _ _ _
  have hxh : h₁.objs.size ≠ x := Nat.ne_of_gt (Heap.lt_size hx₁)
  have X₄ : K.In h₄ := fun a o e => k₄ a o (fun z => by rw [z, hnx] at e; cases e) (X₃ a o e)
  have hn₄ : h₄.Ns s.heap.objs.size fun y => [(("self" : Str), Value.ref x), (f, v)].reverse.lookup y := by
    obtain ⟨oL, es, ep, hoL, r⟩ := hn₃
    exact ⟨oL, es, ep, k₄ _ _ hxL hoL, r⟩
  refine ks_wpAt_execs_cons (ks_wpAt_Assign_Attr (wpAt_of_wpAny (wpAny_Name (wpAny_loadName_local rfl k2 hn₄ m2 ?_) T.ff.2.2)))
  refine wpAny_Name (wpAny_loadName_local rfl k1 hn₄ m1 ?_) (by decide)
  refine set_plain X₄ (ox := excO C h₃.objs.size) (od := none) ⟨hx₄, rfl, rfl, trivial⟩ T.sa ?_
  refine xosa T.pass T.hob X₄ hx₄ hclC rfl rfl T.noN (fun h₅ tk₅ dx k₅ dn dne hx₅ hn₅ => ?_)
  show _root_.PySem.wpAt _ _ _ (execs [] _) _ _ _
  have z1 : h₁.objs.size < h₂.objs.size := Heap.lt_size hso
  have z3 : h₃.objs.size < h₄.objs.size := Heap.lt_size ht₄
  have dn' : h₄.objs.size ≤ dx := dn
  refine wpAt_of_wpAny (wpAny_execs_nil (hq h₅ tk₅ dx h₃.objs.size ⟨fun b o hb e => k₅ b o hb (k₄ b o hb (k₃ _ _ (k₂ _ _ (hk₁ _ _ e)))), hx₅, ?_, dne, hn₅⟩))
  omega
/-- a made one -/
structure XMade (h h' : Heap) (e C d : Addr) (f : Str) (v : Value) : Prop where
  keep : ∀ b o, h.get? b = some o → h'.get? b = some o
  new : h.objs.size ≤ e
  obj : ∃ oe vs, h'.get? e = some oe ∧ oe.cls = .ref C ∧ oe.dict = some d ∧ oe.data = .fields vs ∧ vs[1]? = some .none ∧ vs[2]? = some .none
  dbig : h.objs.size ≤ d
  dne : d ≠ e
  ns : h'.Ns1 d (fun y => if y = f then some v else none)
theorem xmade (PF : PFacts prog) (T : XT prog K C fI f B O newId iO initId bmO bm) {v : Value} {mb : Str → Option Value} (X : K.In s.heap) (hlim : s.heap.NoLimit) (hg : s.heap.Ns mainGlobals mg) (hms : mg "super" = none) (hb : s.heap.Ns builtinsNs mb) (hmb : mb "super" = some (.type "super")) (hroom : A.depth + 1 < recursionLimit)
    (hq : ∀ h' tk e d, XMade s.heap h' e C d f v → R (.ok (.ret (.ref e))) { s with heap := h', toks := tk }) :
    codeAny (model prog w) A (.call (.ref C) ⟨[v], []⟩) R s := by
  obtain ⟨nm, q, N, bs, sn, sub, ab, col, dd, k0, k1, k2, k3, k5, hC⟩ := T.cls
  obtain ⟨hp, g, dr, tk, os⟩ := s
  have k : ∀ b o, hp.get? b = some o → ((hp.push (kdv_tup [v])).push (excO C hp.objs.size)).get? b = some o := fun b o e => Heap.get?_push_of_some _ (Heap.get?_push_of_some _ e)
  have hget : ((hp.push (kdv_tup [v])).push (excO C hp.objs.size)).get? (hp.objs.size + 1) = some (excO C hp.objs.size) := by heap_get
  have hnx : K.lookup (hp.objs.size + 1) = none := by
    cases e : K.lookup (hp.objs.size + 1) with
    | none => rfl
    | some o =>
      have z : hp.get? (hp.objs.size + 1) = some o := X _ _ e
      exact absurd (Nat.lt_of_succ_lt (Heap.lt_size z)) (Nat.lt_irrefl _)
  refine xcall T.ab (X _ _ hC) (looks_findIn X T.iC) (fun self => bind_fn X self T.tC) (by rw [sizeLine_eq]; show 1 ≤ 16777216; decide) ?_
  refine sup_init PF T (s := ⟨(hp.push (kdv_tup [v])).push (excO C hp.objs.size), g, dr, tk, os⟩) (X.keeps k) (hlim.keeps k) (hg.keeps k) hms (hb.keeps k) hmb hget hnx ?_ fun h' tk' dx t1 ⟨k', hx, dn, dne, hns⟩ => ?_
  · show A.depth + 1 < recursionLimit
    exact hroom
  · have old : ∀ b o, hp.get? b = some o → h'.get? b = some o := fun b o e => k' b o (Nat.ne_of_lt (Nat.lt_succ_of_lt (Heap.lt_size e))) (k b o e)
    have z : hp.objs.size + 1 + 1 ≤ dx := by
      first
        | (simpa only [Heap.size_push] using dn)
        | exact dn
        | (have q := dn; rw [Heap.size_push, Heap.size_push] at q; exact q)
    exact ⟨rfl, hq h' tk' (hp.objs.size + 1) dx ⟨old, Nat.le_succ _, ⟨_, _, hx, rfl, rfl, rfl, rfl, rfl⟩, Nat.le_trans (Nat.le_trans (Nat.le_succ _) (Nat.le_succ _)) z, dne, hns⟩⟩
end
end Ld
/-! Kx2: raise X(e), by the layer's words. -/
namespace Ld
open PySem L2 PyProof.Rows
theorem relO_x {f0 : Str} {v : V} {v' : Value} (r : RelV v v') (f : Str) : RelO (List.lookup f [((f0 : Str), v)]) (if f = f0 then some v' else none) := by
  by_cases hw : f = f0
  · subst hw
    rw [if_pos rfl]
    have q : List.lookup f [((f : Str), v)] = some v := by simp [List.lookup]
    rw [q]
    exact r
  · rw [if_neg hw]
    have qw : (f == f0) = false := by simpa using hw
    have q2 : List.lookup f [((f0 : Str), v)] = none := by simp [List.lookup, qw]
    rw [q2]
    trivial
/-- X(e) -/
def tMkX (C : Addr) (f : Str) (ta : TA) : St → Hp → XK → Prop := fun σ H Q => ta σ H fun vs H1 => ∃ v, vs = [v] ∧ ∀ d, H1 d = none → Q (.ref C) (some d) (upd H1 d (.xd [(f, v)]))
section
variable {X : Cx} {C fI : Addr} {f : Str} {B O newId iO initId : String} {bmO bm : List Value}
theorem pmk_x {x : Str} {a : Expr} {ta : TA} {p pos : Pos} {k : Nat} (PF : PFacts X.prog) (T : XT X.prog X.K C fI f B O newId iO initId bmO bm) (hm : X.mg x = some (.ref C)) (hms : X.mg "super" = none) (hr : Room k X.A) (ha : PA X [a] ta) (hg : Gl X x := by rfl)
    (hdb : (x == ("__debug__" : Str)) = false := by decide) (he : starEach (a :: []) X.env = (false, eval a X.env) :: starEach [] X.env := by rfl) (hpl : (backTo pos (starEach [] X.env)).any (·.1) = false := by rfl) :
    L2N.PMk X (.Call (.Name x p) [a] [] pos) (tMkX C f ta) := by
  intro pins s σ H Q I h
  refine wpAny_Call_Name_kw (ld_glob I hg hm ?_ hdb)
  refine PySem.W.callWith_K (h₀ := X.base) I.ok.mod.kin T.kC (thn (ha.run pos pins s σ H _ I h) fun us s1 hh => ?_) he hpl
  obtain ⟨vs, H1, I1, r1, v, ev, q1⟩ := hh
  subst ev
  refine ⟨I1.kIn, ?_⟩
  cases r1 with
  | cons rv rn =>
    rename_i v' us'
    cases rn
    show wpAny _ _ (call (.ref C) [v']) _ _ _
    have hlim := I1.nolimit
    obtain ⟨mb, hb1, hb2⟩ := I1.mod.blt
    have hbk := hb1.keeps I1.bk
    have hgk := I1.mod.glob.keeps I1.bk
    obtain ⟨hp, g, dr, tk, os⟩ := s1
    refine wpAny_call (xmade PF T I1.kIn hlim hgk hms hbk ((hb2 _ (by decide)).trans PyProof.Rows.Boot.«super») (by have := hr.dp; omega) fun h' tk' e d M => ?_)
    show L2N.MkP X pins σ Q (.ref e) ⟨h', g, dr, tk', os⟩
    obtain ⟨oe, fv, hoe, hc, hd, hdat, h1, h2⟩ := M.obj
    have hns := M.ns
    obtain ⟨G', g1, g2⟩ := restrict h' fun b => decide (b ≠ e)
    have gk : ∀ b, b ≠ e → G'.get? b = h'.get? b := fun b hb => g1 b (decide_eq_true hb)
    have ge : G'.get? e = none := g2 e (by simp)
    have old : ∀ b o, hp.get? b = some o → G'.get? b = some o := fun b o q => (gk b (Nat.ne_of_lt (Nat.lt_of_lt_of_le (Heap.lt_size q) M.new))).trans (M.keep b o q)
    have ob : ObjOk X.prog X.w (upd H1 d (.xd [(f, v)])) G' d (.xd [(f, v)]) :=
      ⟨_, hns.at (fun o q => (gk d M.dne).trans q), fun f => relO_x rv f⟩
    have J : Inv X pins σ (upd H1 d (.xd [(f, v)])) ⟨G', g, dr, tk', os⟩ := I1.laid (t' := tk') old M.dbig ob
    refine ⟨e, oe, fv, ⟨G', g, dr, tk', os⟩, _, .ref C, some d, rfl, J, fun b o q => ?_, ge, hoe, ⟨hc, hd, fun vs q => by rw [hdat] at q; cases q; exact h2⟩, hdat, h1, ?_, rfl, I1.bare, raises_own T.exC T.tyC, q1 d (I1.hok.fresh M.dbig)⟩
    · by_cases hb : b = e
      · have q' : G'.get? b = some o := q
        rw [hb, ge] at q'; cases q'
      · exact (gk b hb).symm.trans q
    · rw [upd_ne (Ne.symm M.dne)]
      exact I1.hok.fresh M.new
/-- raise X(e) -/
def tRaiseX (C : Addr) (f : Str) (W : WX) (ta : TA) : TS := fun _ σ H => tMkX C f ta σ H fun cls d H' => W cls d σ H'
theorem ps_raiseX {x : Str} {a : Expr} {ta : TA} {W : WX} {p pos pos2 : Pos} {k : Nat} (hc : X.calm = true) (PF : PFacts X.prog) (T : XT X.prog X.K C fI f B O newId iO initId bmO bm) (hm : X.mg x = some (.ref C)) (hms : X.mg "super" = none) (hr : Room k X.A) (tk : L2N.Takes X W) (ha : PA X [a] ta) (hg : Gl X x := by rfl)
    (hdb : (x == ("__debug__" : Str)) = false := by decide) (he : starEach (a :: []) X.env = (false, eval a X.env) :: starEach [] X.env := by rfl) (hpl : (backTo pos (starEach [] X.env)).any (·.1) = false := by rfl) :
    PS X (.Raise (some (.Call (.Name x p) [a] [] pos)) none pos2) (tRaiseX C f W ta) := L2N.ps_raise hc tk (pmk_x PF T hm hms hr ha hg hdb he hpl)
end
end Ld
/-! Kz: what is asked of the heap about the own exceptions; XT of each. -/
namespace Ld
open PySem L2 PyProof.Rows
structure XRow where
  c : Str
  f : Str
  B : String
  newId : String
  initId : String
  bm : List Value
def bmVE : List Value := [.type "ValueError", .type "Exception", .type "BaseException", .type "object"]
def bmKE : List Value := [.type "KeyError", .type "LookupError", .type "Exception", .type "BaseException", .type "object"]
def bmIE : List Value := [.type "IndexError", .type "LookupError", .type "Exception", .type "BaseException", .type "object"]
def bmOE : List Value := [.type "OverflowError", .type "ArithmeticError", .type "Exception", .type "BaseException", .type "object"]
def bmRE : List Value := [.type "RuntimeError", .type "Exception", .type "BaseException", .type "object"]
def x_InvalidNode : XRow := ⟨"InvalidNode", "value", "ValueError", "ValueError.__new__", "ValueError.__init__", bmVE⟩
def x_InvalidEdge : XRow := ⟨"InvalidEdge", "value", "ValueError", "ValueError.__new__", "ValueError.__init__", bmVE⟩
def x_InvalidLength : XRow := ⟨"InvalidLength", "value", "ValueError", "ValueError.__new__", "ValueError.__init__", bmVE⟩
def x_UnknownNode : XRow := ⟨"UnknownNode", "value", "KeyError", "LookupError.__new__", "KeyError.__init__", bmKE⟩
def x_UnknownEdge : XRow := ⟨"UnknownEdge", "value", "KeyError", "LookupError.__new__", "KeyError.__init__", bmKE⟩
def x_OutOfRange : XRow := ⟨"OutOfRange", "value", "IndexError", "IndexError.__new__", "IndexError.__init__", bmIE⟩
def x_TooMany : XRow := ⟨"TooMany", "limit", "OverflowError", "OverflowError.__new__", "OverflowError.__init__", bmOE⟩
def xrows : List XRow := [x_InvalidNode, x_InvalidEdge, x_InvalidLength, x_UnknownNode, x_UnknownEdge, x_OutOfRange, x_TooMany]
def mainFile : Str := PySem.Challenge.pw_lendroads_k75_whole_undo_and_redo.main.file
def xclsB (K : PySem.W.Frag) (C : Addr) (bm : List Value) (newId : String) : Bool := match K.lookup C with
  | some ⟨.type "type", _, .cls cd, sl⟩ => (match cd.mro, sl.toList with
    | .ref C' :: bm', [_, _, _, _, some (.builtin n), _] => decide (C' = C) && (decide (n = newId) && (!cd.hasDel && (cd.hasDict && decide (bm' = bm))))
    | _, _ => false)
  | _ => false
theorem xcls_of {K : PySem.W.Frag} {C : Addr} {bm : List Value} {newId : String} (q : xclsB K C bm newId = true) :
    ∃ nm qn N bs sn sub ab col dd k0 k1 k2 k3 k5, K.lookup C = some (excClassObj nm qn C N bs bm true sn sub ab col dd k0 k1 k2 k3 k5 newId) := by
  unfold xclsB at q
  split at q
  · rename_i dd cd sl ho
    split at q
    · rename_i C' bm' k0 k1 k2 k3 n k5 hm hs
      obtain ⟨q1, q⟩ := He.ba q
      obtain ⟨q2, q⟩ := He.ba q
      obtain ⟨q3, q⟩ := He.ba q
      obtain ⟨q4, q5⟩ := He.ba q
      have e1 := of_decide_eq_true q1
      have e2 := of_decide_eq_true q2
      have e5 := of_decide_eq_true q5
      subst e1 e2 e5
      obtain ⟨nm, bs, mro, ns, qn, hd, sn, sub, ab, col, dl⟩ := cd
      dsimp only at hm q3 q4
      have hdel : dl = false := by simpa using q3
      subst hm hdel q4
      have hsl : sl = #[k0, k1, k2, k3, some (.builtin n), k5] := by
        rw [← hs, Array.toArray_toList]
      rw [ho, hsl]
      exact ⟨nm, qn, ns, bs, sn, sub, ab, col, dd, k0, k1, k2, k3, k5, rfl⟩
    · cases q
  · cases q
def fileB (K : PySem.W.Frag) (v : Value) : Bool := match v with
  | .ref cda => (match K.lookup cda with
    | some ⟨_, _, .fields vs, _⟩ => (match (vs[2]? : Option Value) with
      | some (Value.str file _) => (mainFile == file)
      | _ => false)
    | _ => false)
  | _ => false
def xB (K : PySem.W.Frag) (r : XRow) : Bool :=
  xclsB K (He.ga K r.c) r.bm r.newId && (decide (PySem.W.alongIn K "__init__" r.bm = some (some (.builtin r.initId))) &&
  (He.eqO (PySem.W.findIn K (.ref (He.ga K r.c)) "__setattr__") (some (some (.builtin "object.__setattr__"))) &&
  (He.eqO (PySem.W.findIn K (.ref (He.ga K r.c)) "__getattribute__") (some (some (.builtin "BaseException.__getattribute__"))) &&
  (He.eqO (PySem.W.findIn K (.ref (He.ga K r.c)) "__getattr__") (some none) &&
  (He.eqO (PySem.W.findIn K (.ref (He.ga K r.c)) r.f) (some none) &&
  (He.eqO (PySem.W.findIn K (.ref (He.ga K r.c)) "__init__") (some (some (.ref (aE K r.c)))) &&
  (decide (PySem.W.typeIn K (.ref (aE K r.c)) = some (.type "function")) &&
  (PySem.W.keepIn K (.ref (He.ga K r.c)) &&
  (decide (PySem.W.subIn K (.ref (He.ga K r.c)) (.type "BaseException") = some true) &&
  (decide (PySem.W.typeIn K (.ref (He.ga K r.c)) = some (.type "type")) &&
  (PySem.W.hasDictIn K (He.ga K r.c) &&
  fileB K (fdA K (aE K r.c)).code)))))))))))
/-- the classes that are told apart -/
def kinds : List Str := ["InvalidNode", "InvalidEdge", "InvalidLength", "InvalidChange", "TooMany", "UnknownNode", "UnknownEdge", "OutOfRange", "NothingToUndo", "NothingToRedo", "InTrial"]
def unders : List String := ["ValueError", "OverflowError", "KeyError", "IndexError", "RuntimeError"]
/-- which built-in one a kind stands under -/
def underOf : Nat → Nat
  | 0 | 1 | 2 | 3 => 0
  | 4 => 1
  | 5 | 6 => 2
  | 7 => 3
  | _ => 4
/-- a kind: its classes above, what isinstance asks of its instances, what except asks of it -/
def bmOf : Nat → List Value
  | 0 | 1 | 2 | 3 => bmVE
  | 4 => bmOE
  | 5 | 6 => bmKE
  | 7 => bmIE
  | _ => bmRE
def clsEB (K : PySem.W.Frag) (D : Addr) (bm : List Value) : Bool :=
  (match PySem.W.clsIn K D with
    | some cd => cd.hasDict && decide (cd.mro = .ref D :: bm)
    | none => false) && (He.eqO (PySem.W.findIn K (.ref D) "__getattribute__") (some (some (.builtin "BaseException.__getattribute__"))) && (He.eqO (PySem.W.findIn K (.ref D) "__getattr__") (some none) &&
  (He.eqO (PySem.W.findIn K (.ref D) "__class__") (some (some (.builtin "object.__class__"))) && (decide (PySem.W.typeIn K (.ref D) = some (.type "type")) && PySem.W.keepIn K (.ref D)))))
def kindAds (K : PySem.W.Frag) : List Addr := kinds.map fun c => He.ga K c
def exB2 (K : PySem.W.Frag) : Bool := (xrows.all fun r => xB K r) && (He.eqO (PySem.W.nsIn K cStatics "thirdparty.any") (some none) &&
  (decide (kindAds K).Nodup && (((List.range 11).all fun i => clsEB K ((kindAds K).getD i 0) (bmOf i)) &&
  ((["NothingToUndo", "NothingToRedo"].all fun c => PySem.W.excIn K (He.ga K c) bmRE "RuntimeError.__new__") && (K.lookup sysModules).isSome))))
/-- all that the walk leans on -/
structure Tz (w : World) (K : PySem.W.Frag) (mg : Str → Option Value) : Prop where
  t : Tx w K mg
  ex2 : exB2 K = true
end Ld
/-! Kz2: XT of each exception class. -/
namespace Ld
open PySem L2 PyProof.Rows
structure PP (P : Program) : Prop extends PFacts P where
  fil : P.main.file = mainFile
theorem xt_mk {P : Program} (PF : PP P) {K : PySem.W.Frag} {r : XRow} {d : DefE} {O iO : String} {bmO : List Value} (hd : d.cls = r.c) (q : xB K r = true) (ok : d.ok K = true) (fe : fnE K (aE K d.cls) = d.val)
    (op : PySem.W.nsIn K cStatics "thirdparty.any" = some none) (ab : Abv O r.newId iO bmO r.bm) (ini : InF r.B r.initId) (kx : PySem.W.KxsFacts r.B r.initId) (pass : ∀ self, refuseLoop self "__setattr__" r.bm = pure ())
    (hob : r.bm.contains (.type "object") = true) (hB : r.bm.contains (.type r.B) = true)
    (ff : (r.f == ("__class__" : Str)) = false ∧ (r.f == ("self" : Str)) = false ∧ (r.f == ("__debug__" : Str)) = false)
    (bi : ∀ (name qual : Str) (q1 q2 : Pos) (bd : List Stmt) (sc : Scope) (cl : List (Str × Addr)) (kV doc pm : Value) (an : Option Addr) (cdv ct a b : Value), bindArgs (PySem.W.fnX name qual (xArgs r.f q1 q2) bd sc cl .none kV doc pm an cdv ct) ⟨[a, b], []⟩ = pure [(("self" : Str), a), (r.f, b)])
    (tx : XTxt r.f (defArgs d.st) (defBody d.st) (defScope d.st)) : XT P K (He.ga K r.c) (aE K r.c) r.f r.B O r.newId iO r.initId bmO r.bm := by
  unfold xB at q
  obtain ⟨h1, q⟩ := He.ba q
  obtain ⟨h2, q⟩ := He.ba q
  obtain ⟨h3, q⟩ := He.ba q
  obtain ⟨h4, q⟩ := He.ba q
  obtain ⟨h5, q⟩ := He.ba q
  obtain ⟨h6, q⟩ := He.ba q
  obtain ⟨h7, q⟩ := He.ba q
  obtain ⟨h8, q⟩ := He.ba q
  obtain ⟨h9, q⟩ := He.ba q
  obtain ⟨h10, q⟩ := He.ba q
  obtain ⟨h11, q⟩ := He.ba q
  obtain ⟨h12, h13⟩ := He.ba q
  obtain ⟨nm, qn, N, bs, sn, sub, ab', col, dd, k0, k1, k2, k3, k5, hC⟩ := xcls_of h1
  refine ⟨ab, ini, kx, pass, hob, hB, of_decide_eq_true h2, ⟨nm, qn, N, bs, sn, sub, ab', col, dd, k0, k1, k2, k3, k5, hC⟩, He.eqO_ok h3, He.eqO_ok h4, He.eqO_ok h5, He.eqO_ok h6, He.eqO_ok h7, of_decide_eq_true h8, h9, of_decide_eq_true h10, of_decide_eq_true h11, h12, op, ff, bi, ?_⟩
  unfold DefE.ok at ok
  rw [hd] at ok fe
  obtain ⟨_, ok⟩ := He.ba ok
  obtain ⟨ok1, ok2⟩ := He.ba ok
  unfold fnE DefE.val at fe
  unfold fileB at h13
  cases qf : K.lookup (aE K r.c) with
  | none => rw [qf] at fe; cases fe
  | some o =>
    obtain ⟨oc, od, dt, osl⟩ := o
    rw [qf] at fe ok1
    cases dt with
    | func fd =>
      have ef : fdA K (aE K r.c) = fd := by unfold fdA; rw [qf]
      rw [ef] at h13
      obtain ⟨n1, n2, n3, n4, n5, n6, n7, n8, n9, n10, n11, n12, n13, n14, n15⟩ := fd
      simp only [Option.some.injEq, Prod.mk.injEq] at fe
      obtain ⟨g1, g2, g3, g4, g5, g6, g7, g8⟩ := fe
      obtain ⟨c1, c2⟩ := He.ba ok1
      have e8 : n8 = .none := by
        unfold valB at c2
        cases n8 with
        | none => rfl
        | _ => cases c2
      obtain ⟨cda, e13⟩ : ∃ cda, n13 = .ref cda := by
        unfold PySem.W.codeIn at c1
        cases n13 with
        | ref c => exact ⟨c, rfl⟩
        | _ => cases c1
      obtain ⟨cc, e7⟩ : ∃ cc, n7 = [(("__class__" : Str), cc)] := by
        cases n7 with
        | nil => cases g7
        | cons p l =>
          obtain ⟨a, cc⟩ := p
          cases l with
          | nil =>
            simp only [List.map_cons, List.map_nil, List.cons.injEq, and_true] at g7
            exact ⟨cc, by rw [g7]⟩
          | cons p2 l2 => simp at g7
      have ecell : cellE K r.c = cc := by
        unfold cellE
        rw [ef]
        simp only [e7]
      rw [ecell] at ok2
      simp only at h13 c1
      subst e8 e13 e7 g1 g2 g3 g4 g5 g6 g8
      refine ⟨_, _, _, _, _, cc, n9, n10, n11, n14, oc, n12, od, osl, cda, rfl, c1, tx, ?_, ?_⟩
      · cases qc : K.lookup cc with
        | none => rw [qc] at ok2; cases ok2
        | some o2 =>
          obtain ⟨cl, cld, cdt, csl⟩ := o2
          rw [qc] at ok2
          cases cdt with
          | cell v =>
            cases v with
            | none => cases ok2
            | some v =>
              cases v with
              | ref c => rw [of_decide_eq_true ok2]; exact ⟨_, _, _, rfl⟩
              | _ => cases ok2
          | _ => cases ok2
      · dsimp only at h13
        cases qc : K.lookup cda with
        | none => rw [qc] at h13; cases h13
        | some o2 =>
          obtain ⟨cl, cld, cdt, csl⟩ := o2
          rw [qc] at h13
          cases cdt with
          | fields vs =>
            simp only at h13
            cases qv : (vs[2]? : Option Value) with
            | none => rw [qv] at h13; cases h13
            | some v =>
              rw [qv] at h13
              cases v with
              | str file tf => exact ⟨_, _, _, vs, file, tf, rfl, qv, by rw [PF.fil]; exact h13⟩
              | _ => cases h13
          | _ => cases h13
    | _ => cases ok1
/-! ### each class -/
section
variable {w : World} {K : PySem.W.Frag} {mg : Str → Option Value} {P : Program}
theorem Tz.xb (T : Tz w K mg) (i : Nat) {r : XRow} (h : xrows[i]? = some r := by rfl) : xB K r = true := List.all_eq_true.mp (He.ba T.ex2).1 r (List.mem_of_getElem? h)
theorem Tz.op (T : Tz w K mg) : PySem.W.nsIn K cStatics "thirdparty.any" = some none := He.eqO_ok (He.ba (He.ba T.ex2).2).1
theorem ab_VE : Abv "ValueError" "ValueError.__new__" "ValueError.__init__" bmVE bmVE := ⟨PySem.F.excBase_ValueError, by decide +kernel, by decide +kernel, by decide +kernel⟩
theorem ab_KE : Abv "LookupError" "LookupError.__new__" "LookupError.__init__" [.type "LookupError", .type "Exception", .type "BaseException", .type "object"] bmKE := ⟨PySem.F.excBase_LookupError, by decide +kernel, by decide +kernel, by decide +kernel⟩
theorem ab_IE : Abv "IndexError" "IndexError.__new__" "IndexError.__init__" bmIE bmIE := ⟨PySem.F.excBase_IndexError, by decide +kernel, by decide +kernel, by decide +kernel⟩
theorem ab_OE : Abv "OverflowError" "OverflowError.__new__" "OverflowError.__init__" bmOE bmOE := ⟨PySem.F.excBase_OverflowError, by decide +kernel, by decide +kernel, by decide +kernel⟩
theorem Tz.x_InvalidNode (T : Tz w K mg) (PF : PP P) : XT P K (He.ga K "InvalidNode") (aE K "InvalidNode") "value" "ValueError" "ValueError" "ValueError.__new__" "ValueError.__init__" "ValueError.__init__" bmVE bmVE :=
  xt_mk PF (r := Ld.x_InvalidNode) (d := e_InvalidNode) rfl (T.xb 0) (T.t.exc 0).1 (T.t.exc 0).2 T.op ab_VE (inF_of PySem.F.excBase_ValueError) PySem.W.kxs_ValueError (fun self => PySem.F.store_ValueError.passes self) (by decide +kernel) (by decide +kernel) ⟨by decide, by decide, by decide⟩ (fun _ _ _ _ _ _ _ _ _ _ _ _ _ _ _ => by first | rfl | with_unfolding_all rfl)
    ⟨⟨_, _, rfl⟩, ⟨_, _, _, _, _, _, _, _, _, _, rfl, fun _ _ _ _ _ => ⟨_, rfl⟩⟩, rfl, rfl, rfl, rfl, rfl, by decide +kernel, rfl, rfl⟩
theorem Tz.x_InvalidEdge (T : Tz w K mg) (PF : PP P) : XT P K (He.ga K "InvalidEdge") (aE K "InvalidEdge") "value" "ValueError" "ValueError" "ValueError.__new__" "ValueError.__init__" "ValueError.__init__" bmVE bmVE :=
  xt_mk PF (r := Ld.x_InvalidEdge) (d := e_InvalidEdge) rfl (T.xb 1) (T.t.exc 1).1 (T.t.exc 1).2 T.op ab_VE (inF_of PySem.F.excBase_ValueError) PySem.W.kxs_ValueError (fun self => PySem.F.store_ValueError.passes self) (by decide +kernel) (by decide +kernel) ⟨by decide, by decide, by decide⟩ (fun _ _ _ _ _ _ _ _ _ _ _ _ _ _ _ => by first | rfl | with_unfolding_all rfl)
    ⟨⟨_, _, rfl⟩, ⟨_, _, _, _, _, _, _, _, _, _, rfl, fun _ _ _ _ _ => ⟨_, rfl⟩⟩, rfl, rfl, rfl, rfl, rfl, by decide +kernel, rfl, rfl⟩
theorem Tz.x_InvalidLength (T : Tz w K mg) (PF : PP P) : XT P K (He.ga K "InvalidLength") (aE K "InvalidLength") "value" "ValueError" "ValueError" "ValueError.__new__" "ValueError.__init__" "ValueError.__init__" bmVE bmVE :=
  xt_mk PF (r := Ld.x_InvalidLength) (d := e_InvalidLength) rfl (T.xb 2) (T.t.exc 2).1 (T.t.exc 2).2 T.op ab_VE (inF_of PySem.F.excBase_ValueError) PySem.W.kxs_ValueError (fun self => PySem.F.store_ValueError.passes self) (by decide +kernel) (by decide +kernel) ⟨by decide, by decide, by decide⟩ (fun _ _ _ _ _ _ _ _ _ _ _ _ _ _ _ => by first | rfl | with_unfolding_all rfl)
    ⟨⟨_, _, rfl⟩, ⟨_, _, _, _, _, _, _, _, _, _, rfl, fun _ _ _ _ _ => ⟨_, rfl⟩⟩, rfl, rfl, rfl, rfl, rfl, by decide +kernel, rfl, rfl⟩
theorem pass_KE (self : Value) : refuseLoop self "__setattr__" bmKE = pure () := by kernel_rfl
theorem Tz.x_UnknownNode (T : Tz w K mg) (PF : PP P) : XT P K (He.ga K "UnknownNode") (aE K "UnknownNode") "value" "KeyError" "LookupError" "LookupError.__new__" "LookupError.__init__" "KeyError.__init__" [.type "LookupError", .type "Exception", .type "BaseException", .type "object"] bmKE :=
  xt_mk PF (r := Ld.x_UnknownNode) (d := e_UnknownNode) rfl (T.xb 3) (T.t.exc 4).1 (T.t.exc 4).2 T.op ab_KE inF_KeyError kxs_KeyError pass_KE (by decide +kernel) (by decide +kernel) ⟨by decide, by decide, by decide⟩ (fun _ _ _ _ _ _ _ _ _ _ _ _ _ _ _ => by first | rfl | with_unfolding_all rfl)
    ⟨⟨_, _, rfl⟩, ⟨_, _, _, _, _, _, _, _, _, _, rfl, fun _ _ _ _ _ => ⟨_, rfl⟩⟩, rfl, rfl, rfl, rfl, rfl, by decide +kernel, rfl, rfl⟩
theorem Tz.x_UnknownEdge (T : Tz w K mg) (PF : PP P) : XT P K (He.ga K "UnknownEdge") (aE K "UnknownEdge") "value" "KeyError" "LookupError" "LookupError.__new__" "LookupError.__init__" "KeyError.__init__" [.type "LookupError", .type "Exception", .type "BaseException", .type "object"] bmKE :=
  xt_mk PF (r := Ld.x_UnknownEdge) (d := e_UnknownEdge) rfl (T.xb 4) (T.t.exc 5).1 (T.t.exc 5).2 T.op ab_KE inF_KeyError kxs_KeyError pass_KE (by decide +kernel) (by decide +kernel) ⟨by decide, by decide, by decide⟩ (fun _ _ _ _ _ _ _ _ _ _ _ _ _ _ _ => by first | rfl | with_unfolding_all rfl)
    ⟨⟨_, _, rfl⟩, ⟨_, _, _, _, _, _, _, _, _, _, rfl, fun _ _ _ _ _ => ⟨_, rfl⟩⟩, rfl, rfl, rfl, rfl, rfl, by decide +kernel, rfl, rfl⟩
theorem Tz.x_OutOfRange (T : Tz w K mg) (PF : PP P) : XT P K (He.ga K "OutOfRange") (aE K "OutOfRange") "value" "IndexError" "IndexError" "IndexError.__new__" "IndexError.__init__" "IndexError.__init__" bmIE bmIE :=
  xt_mk PF (r := Ld.x_OutOfRange) (d := e_OutOfRange) rfl (T.xb 5) (T.t.exc 6).1 (T.t.exc 6).2 T.op ab_IE (inF_of PySem.F.excBase_IndexError) PySem.W.kxs_IndexError (fun self => PySem.F.store_IndexError.passes self) (by decide +kernel) (by decide +kernel) ⟨by decide, by decide, by decide⟩ (fun _ _ _ _ _ _ _ _ _ _ _ _ _ _ _ => by first | rfl | with_unfolding_all rfl)
    ⟨⟨_, _, rfl⟩, ⟨_, _, _, _, _, _, _, _, _, _, rfl, fun _ _ _ _ _ => ⟨_, rfl⟩⟩, rfl, rfl, rfl, rfl, rfl, by decide +kernel, rfl, rfl⟩
theorem Tz.x_TooMany (T : Tz w K mg) (PF : PP P) : XT P K (He.ga K "TooMany") (aE K "TooMany") "limit" "OverflowError" "OverflowError" "OverflowError.__new__" "OverflowError.__init__" "OverflowError.__init__" bmOE bmOE :=
  xt_mk PF (r := Ld.x_TooMany) (d := e_TooMany) rfl (T.xb 6) (T.t.exc 7).1 (T.t.exc 7).2 T.op ab_OE (inF_of PySem.F.excBase_OverflowError) PySem.W.kxs_OverflowError (fun self => PySem.F.store_OverflowError.passes self) (by decide +kernel) (by decide +kernel) ⟨by decide, by decide, by decide⟩ (fun _ _ _ _ _ _ _ _ _ _ _ _ _ _ _ => by first | rfl | with_unfolding_all rfl)
    ⟨⟨_, _, rfl⟩, ⟨_, _, _, _, _, _, _, _, _, _, rfl, fun _ _ _ _ _ => ⟨_, rfl⟩⟩, rfl, rfl, rfl, rfl, rfl, by decide +kernel, rfl, rfl⟩
end
end Ld
set_option maxHeartbeats 0
/-! Kh0: the head: what is looked at behind the top. -/
namespace Ld
open PySem PySem.W PySem.Calls PyProof.Rows L2
abbrev RR : PySem.W.OpenRow := PySem.W.OpenLaw.row PySem.Challenge.rw_lendroads_k75_whole_undo_and_redo
def tfL : List He.Defn := [("_law_moved", none), ("law", none)]
def keysF : List Str := ["node", "drop", "edge", "cut", "length"]
abbrev Al1 : Type := (List He.FnW × List FnE) × Bool × Option (List (Option (Str × Int)))
def ad0 : List Addr := [0, 1, 2, 3, 6, 64, 79, 80, 86, 101, 102, 108, 123, 124, 130, 145, 146, 152, 167, 168, 174, 189, 190, 196, 211, 212, 218, 233, 234, 240, 255, 256, 262, 268, 269, 275, 281, 282, 288, 294]
def ad1 : List Addr := [295, 385, 404, 406, 414, 416, 424, 426, 565, 566, 571, 595, 637, 638, 645, 785, 786, 65, 87, 109, 131, 153, 175, 197, 219, 241, 19, 21, 26, 28, 33, 35, 40, 42, 45, 47, 52, 54, 59, 61]
def ad2 : List Addr := [75, 77, 97, 99, 119, 121, 141, 143, 163, 165, 185, 187, 207, 209, 229, 231, 251, 253, 301, 303, 306, 308, 311, 313, 318, 320, 323, 325, 330, 332, 335, 337, 340, 342, 347, 349, 354, 356, 361, 363]
def ad3 : List Addr := [368, 370, 373, 375, 380, 382, 394, 396, 401, 403, 411, 413, 421, 423, 431, 433, 439, 441, 447, 449, 453, 455, 461, 463, 469, 471, 476, 478, 483, 485, 490, 492, 497, 499, 504, 506, 511, 513, 518, 520]
def ad4 : List Addr := [525, 527, 532, 534, 539, 541, 544, 546, 549, 551, 556, 558, 561, 563, 576, 578, 583, 585, 590, 592, 604, 606, 611, 613, 618, 620, 625, 627, 632, 634, 656, 658, 663, 665, 670, 672, 678, 680, 685, 687]
def ad5 : List Addr := [693, 695, 701, 703, 709, 711, 716, 718, 723, 725, 731, 733, 739, 741, 746, 748, 753, 755, 760, 762, 767, 769, 774, 776, 781, 783, 795, 797, 802, 804, 809, 811, 816, 818, 821, 823, 826, 828, 831, 833]
def ad6 : List Addr := [838, 840, 843, 845, 848, 850, 855, 857, 860, 862, 867, 869, 872, 874, 877, 879, 884, 886, 891, 893, 896, 898, 903, 905, 908, 910, 915, 917, 922, 924, 929, 931, 936, 938, 941, 943, 948, 950, 955, 957]
def ad7 : List Addr := [962, 964, 967, 969, 974, 976, 981, 983, 9, 12, 13, 20, 27, 34, 41, 46, 53, 60, 63, 67, 68, 76, 81, 82, 83, 85, 89, 90, 98, 103, 104, 105, 107, 111, 112, 120, 125, 126, 127, 129]
def ad8 : List Addr := [133, 134, 142, 147, 148, 149, 151, 155, 156, 164, 169, 170, 171, 173, 177, 178, 186, 191, 192, 193, 195, 199, 200, 208, 213, 214, 215, 217, 221, 222, 230, 235, 236, 237, 239, 243, 244, 252, 257, 258]
def ad9 : List Addr := [259, 261, 265, 270, 271, 272, 274, 278, 283, 284, 285, 287, 291, 296, 297, 298, 302, 307, 312, 319, 324, 331, 336, 341, 348, 355, 362, 369, 374, 381, 384, 387, 388, 395, 402, 405, 412, 415, 422, 425]
def ad10 : List Addr := [432, 434, 440, 442, 448, 450, 454, 456, 462, 464, 470, 477, 484, 491, 498, 505, 512, 519, 526, 533, 540, 545, 550, 557, 562, 567, 568, 569, 570, 577, 584, 591, 594, 597, 598, 605, 612, 619, 626, 633]
def ad11 : List Addr := [635, 639, 640, 641, 642, 644, 647, 648, 657, 664, 671, 673, 679, 686, 688, 694, 696, 702, 704, 710, 717, 724, 732, 740, 747, 754, 761, 768, 775, 782, 787, 788, 789, 790, 796, 803, 810, 817, 822, 827]
def ad12 : List Addr := [832, 839, 844, 849, 856, 861, 868, 873, 878, 885, 892, 897, 904, 909, 916, 923, 930, 937, 942, 949, 956, 963, 968, 975, 982, 7, 11, 15, 17, 18, 22, 24, 25, 29, 31, 32, 36, 38, 39, 43]
def ad13 : List Addr := [48, 50, 51, 55, 57, 58, 62, 66, 70, 71, 73, 74, 78, 84, 88, 92, 93, 95, 96, 100, 106, 110, 114, 115, 117, 118, 122, 128, 132, 136, 137, 139, 140, 144, 150, 154, 158, 159, 161, 162]
def ad14 : List Addr := [166, 172, 176, 180, 181, 183, 184, 188, 194, 198, 202, 203, 205, 206, 210, 216, 220, 224, 225, 227, 228, 232, 238, 242, 246, 247, 249, 250, 254, 260, 263, 267, 273, 276, 280, 286, 289, 293, 299, 304]
def ad15 : List Addr := [309, 314, 316, 317, 321, 326, 328, 329, 333, 338, 343, 345, 346, 350, 352, 353, 357, 359, 360, 364, 366, 367, 371, 376, 378, 379, 383, 386, 390, 391, 392, 397, 399, 400, 407, 409, 410, 417, 419, 420]
def ad16 : List Addr := [427, 429, 430, 435, 437, 438, 443, 445, 446, 451, 457, 459, 460, 465, 467, 468, 472, 474, 475, 479, 481, 482, 486, 488, 489, 493, 495, 496, 500, 502, 503, 507, 509, 510, 514, 516, 517, 521, 523, 524]
def ad17 : List Addr := [528, 530, 531, 535, 537, 538, 542, 547, 552, 554, 555, 559, 564, 572, 574, 575, 579, 581, 582, 586, 588, 589, 593, 596, 600, 602, 603, 607, 609, 610, 614, 616, 617, 621, 623, 624, 628, 630, 631, 636]
def ad18 : List Addr := [643, 646, 650, 651, 652, 654, 655, 659, 661, 662, 666, 668, 669, 674, 676, 677, 681, 683, 684, 689, 691, 692, 697, 699, 700, 705, 707, 708, 712, 714, 715, 719, 721, 722, 726, 727, 729, 730, 734, 735]
def ad19 : List Addr := [737, 738, 742, 744, 745, 749, 751, 752, 756, 758, 759, 763, 765, 766, 770, 772, 773, 777, 779, 780, 784, 791, 793, 794, 798, 800, 801, 805, 807, 808, 812, 814, 815, 819, 824, 829, 834, 836, 837, 841]
def ad20 : List Addr := [846, 851, 853, 854, 858, 863, 865, 866, 870, 875, 880, 882, 883, 887, 889, 890, 894, 899, 901, 902, 906, 911, 913, 914, 918, 920, 921, 925, 927, 928, 932, 934, 935, 939, 944, 946, 947, 951, 953, 954]
def ad21 : List Addr := [958, 960, 961, 965, 970, 972, 973, 977, 979, 980]
def adA : List Addr := ad0 ++ (ad1 ++ (ad2 ++ (ad3 ++ (ad4 ++ (ad5 ++ (ad6 ++ (ad7 ++ (ad8 ++ (ad9 ++ (ad10))))))))))
def adB : List Addr := ad11 ++ (ad12 ++ (ad13 ++ (ad14 ++ (ad15 ++ (ad16 ++ (ad17 ++ (ad18 ++ (ad19 ++ (ad20 ++ (ad21))))))))))
def adL : List Addr := adA ++ adB
def KOf (g : Addr → Option Obj) : PySem.W.Frag := He.frT g adL
def ob1K (g : Addr → Option Obj) (K : PySem.W.Frag) : Al1 := ((defs.map (fun d => fnA K (d.ad K)), excs.map (fun d => fnE K (aE K d.cls))), He.tabsB g tfL K, He.dicW K (He.ga K "FORMS"))
def ob1 (g : Addr → Option Obj) : Al1 := ob1K g (KOf g)
def all2 (K : PySem.W.Frag) : Bool := (gloL.all fun x => He.Fa.ok K (.glo x)) && ((freeL.all fun x => He.Fa.ok K (.free x)) && (facL.all fun f => f.ok K))
def all3 (K : PySem.W.Frag) : Bool := (defs.all fun d => d.ok K) && (exB K && excs.all fun d => d.ok K)
def ob2 (g : Addr → Option Obj) : Bool := all2 (KOf g)
def ob3 (g : Addr → Option Obj) : Bool := all3 (KOf g)
def ob4K (K : PySem.W.Frag) : Bool := exB2 K && !decide ((He.cT K ("_law_moved", none)).2 = (He.cT K ("law", none)).2)
def ob4 (g : Addr → Option Obj) : Bool := ob4K (KOf g)
def val1 (w : World) : Al1 := ((defs.map DefA.val, excs.map DefE.val), true, some (He.keysIn w.params keysF))
def loose1 : List PySem.Str := ["_wall", "MAX_NODES", "MAX_NODES_HERE", "MAX_EDGES", "MAX_EDGES_HERE", "MAX_LENGTH", "MAX_ODD", "MAX_ODD_HERE", "LETTERS", "MAX_NAME", "is_integer", "is_between", "is_list", "is_name", "is_length", "is_edge", "InvalidNode", "InvalidEdge", "InvalidLength", "InvalidText", "InvalidChange", "UnknownNode", "UnknownEdge", "OutOfRange", "TooMany", "NothingToUndo", "NothingToRedo", "InTrial", "odd_nodes", "negative_edges"]
def loose2 : List PySem.Str := ["neighbours", "reached_from", "parts_of", "DIGITS", "LENGTH_DIGITS", "ordered_edge", "network_text", "number_in", "node_in", "edge_in", "read_parts", "checked_nodes", "checked_edges", "first_unknown", "Network", "FORMS", "is_change", "network_after", "state_of", "Trial", "Book", "_law_pen", "_law_draw", "_law_pick", "_law_shuffled", "_law_names", "_law_small", "_law_fits", "_law_is_between", "_law_is_name"]
def loose3 : List PySem.Str := ["_law_is_edge", "_law_wrong_node", "_law_wrong_edge", "_law_due", "_law_rows", "_law_shows", "_law_odd", "_law_is_change", "_law_one_changed", "_law_changed", "_law_change", "_law_make", "_law_state", "_law_stands", "_law_step", "_law_fault", "_law_replied", "_law_due_back", "_law_back", "_law_moved", "_law_all_back"]
def loose : List PySem.Str := loose1 ++ loose2 ++ loose3
noncomputable def endW (w : World) (os : OsState) : Option SharedT := HandSHeadRun.endF (HandSHeadRun.stepQ (HandSHeadRun.denQ HandSHeadRun.tabQ) RR.prog w) 8000 RR.prog w os
/-- the top's run gives this look -/
def Gives {α : Type} (f : SharedT → α) (v : α) (w : World) : Prop := ∀ os : OsState, (endW w os).map f = some v
abbrev vw : Program := PySem.W.view RR.prog [88]
noncomputable def lk0 (w : World) (s : SharedT) : Bool := HandSHeadRun.looksF RR.prog (boot_heap w.params) s.abs
noncomputable def sn0 (s : SharedT) := HandSHeadRun.seenQ vw loose (importedModules RR.prog.main.body) (fun s => xlAt vw [] s && recOk RR.toRowW.records s) s.abs
def wF (w : World) : World := w.withFollow "special-get-raises" false
def wT (w : World) : World := w.withFollow "special-get-raises" true
end Ld
/-! Kha: a run of the top in the kernel. -/
namespace Ld
open PySem PySem.W PySem.Calls PyProof.Rows L2
theorem khaF (w : World) : Gives (fun s => ob1 (HandSHeadRun.getT s)) (val1 (wF w)) (wF w) := by
  intro os
  kernel_rfl
theorem khaT (w : World) : Gives (fun s => ob1 (HandSHeadRun.getT s)) (val1 (wT w)) (wT w) := by
  intro os
  kernel_rfl
end Ld
/-! Khb: a run of the top in the kernel. -/
namespace Ld
open PySem PySem.W PySem.Calls PyProof.Rows L2
theorem khbF (w : World) : Gives (fun s => ob2 (HandSHeadRun.getT s)) (true) (wF w) := by
  intro os
  kernel_rfl
theorem khbT (w : World) : Gives (fun s => ob2 (HandSHeadRun.getT s)) (true) (wT w) := by
  intro os
  kernel_rfl
end Ld
/-! Khc: a run of the top in the kernel. -/
namespace Ld
open PySem PySem.W PySem.Calls PyProof.Rows L2
theorem khcF (w : World) : Gives (fun s => ob3 (HandSHeadRun.getT s)) (true) (wF w) := by
  intro os
  kernel_rfl
theorem khcT (w : World) : Gives (fun s => ob3 (HandSHeadRun.getT s)) (true) (wT w) := by
  intro os
  kernel_rfl
end Ld
/-! Khd: a run of the top in the kernel. -/
namespace Ld
open PySem PySem.W PySem.Calls PyProof.Rows L2
theorem khdF (w : World) : Gives (fun s => ob4 (HandSHeadRun.getT s)) (true) (wF w) := by
  intro os
  kernel_rfl
theorem khdT (w : World) : Gives (fun s => ob4 (HandSHeadRun.getT s)) (true) (wT w) := by
  intro os
  kernel_rfl
end Ld
/-! Khs: a run of the top in the kernel. -/
namespace Ld
open PySem PySem.W PySem.Calls PyProof.Rows L2
theorem khsF (w : World) : Gives (fun s => (lk0 (wF w) s, sn0 s)) ((true, openGood vw loose)) (wF w) := by
  intro os
  kernel_rfl
theorem khsT (w : World) : Gives (fun s => (lk0 (wT w) s, sn0 s)) ((true, openGood vw loose)) (wT w) := by
  intro os
  kernel_rfl
end Ld
set_option maxHeartbeats 4000000
/-! Fj: the wrong node, the wrong edge. -/
namespace Ld
open PySem L2 PyProof.Rows
def wnGo (seen : List Str) : List PyData → Option PyData
  | [] => none
  | d :: r => match d with
    | .str s => if isNameS s && !inS (.str s) seen && !decide (seen.length = 40) then wnGo (seen ++ [s]) r else some (.str s)
    | d => some d
def wnode (ds : List PyData) : Option PyData := match ds with
  | [] => some (.tuple [])
  | d :: r => wnGo [] (d :: r)
def optL : Option PyData → List PyData
  | none => []
  | some d => [d]
def spWrongN : Sp := fun vs H Q _ => ∃ (R : Hp) (v : V) (ds : List PyData), vs = [v] ∧ Same R H ∧ At R v (.list ds) ∧ okSs ds = true ∧ ds.length ≤ 1000 ∧ ∀ (R' H' : Hp) (x : V), Fx [] R H R' H' → At R' x (.list (optL (wnode ds))) → Q x H'
theorem okSs_get : ∀ {ds : List PyData} {i : Nat} {d : PyData}, okSs ds = true → ds[i]? = some d → okS d = true
  | [], _, _, _, e => by simp at e
  | d :: r, 0, _, h, e => by
    have h : (okS d && okSs r) = true := h
    rw [Bool.and_eq_true] at h
    simp at e
    rw [← e]
    exact h.1
  | d :: r, i + 1, _, h, e => by
    have h : (okS d && okSs r) = true := h
    rw [Bool.and_eq_true] at h
    exact okSs_get h.2 (by simpa using e)
theorem wnGo_bad {seen : List Str} {d : PyData} {r : List PyData} (h : isName d = false) : wnGo seen (d :: r) = some d := by
  cases d with
  | str s =>
    have h : isNameS s = false := h
    show (if _ then _ else _) = _
    rw [h]
    rfl
  | _ => rfl
section
variable {P : Program} {w : World} {K : PySem.W.Frag} {mg : Str → Option Value} {base : Heap}
theorem ok_lwrong_node (T : Tx w K mg) : FnOk P w K mg base CX0 2 (a_lwrong_node K) (f_lwrong_node K) P_lwrong_node spWrongN := by
  refine T.d_lwrong_node.ok sc_lwrong_node (fun vs H Q E h => by obtain ⟨_, _, _, rfl, _⟩ := h; rfl) (fun cdv A outer s H vs Q E hr h => ?_)
  have hu := hu_of hr
  have hu3 : (A.deeper (envOfC "_law_wrong_node" (defScope st_lwrong_node) s.heap.objs.size (a_lwrong_node K) cdv)).units + 65 < cLine := by have := hr.un; omega
  have nd := sc_lwrong_node.nd
  have hsz := sizeLine_eq
  refine ⟨_, PSs.nox (pss_cons (ps_if (pt_not (pt_val (pe_callB call_isiT (by rfl) T.f_isinstance boot_isinstance (pa_cons (pv 0) (pa_cons (pe_tup (pa_cons (pe_bltn (v := .ty "list") (by rfl) T.f_list boot_list rfl) (pa_cons (pe_bltn (v := .ty "tuple") (by rfl) T.f_tuple boot_tuple rfl) pa_nil))) pa_nil)))))
      (pss_one (ps_ret (pe_lst (pa_cons (pv 0) pa_nil))))
      pss_nil)
    (pss_cons (ps_for PassesOwn.never rfl (pi_range1 (by rfl) T.f_range (pa_cons (pe_callB call_len_seq (by rfl) T.f_len boot_len (pa_cons (pv 0) pa_nil)) pa_nil)) (pg_name (i := 1) nd rfl (Or.inl rfl))
      (pss_one (ps_if (PW.pt (pw_or (pt_not (pt_val (pe_call (ok_lis_name T) (hr.mono (by decide)) (by rfl) T.g_lis_name T.k_lis_name T.b_lis_name .nil pass0 (pa_cons (pe_ix ix_list (pv 0) (pv 1) (fun _ _ => rfl)) pa_nil)))) (pw_or (pt_cmpR (op_inN hu3) (pe_ix ix_list (pv 0) (pv 1) (fun _ _ => rfl)) (pe_slice sl_list (pv 0) po_none (po_some (pv 1))) (by rfl)) (pw_or1 (pt_cmpR op_eq (pv 1) pe_int (nomark _))))))
        (pss_one (ps_ret (pe_lst (pa_cons (pe_ix ix_list (pv 0) (pv 1) (fun _ _ => rfl)) pa_nil))))
        pss_nil)))
    (pss_one (ps_ret (pe_ifExp (pt_cmpR op_eq (pe_callB call_len_seq (by rfl) T.f_len boot_len (pa_cons (pv 0) pa_nil)) pe_int (nomark _)) (pe_lst (pa_cons (pe_tup pa_nil) pa_nil)) (pe_lst pa_nil)))))), ?_⟩
  obtain ⟨R, v, ds, rfl, k, hd, ho, hlen, q⟩ := h
  refine ⟨v, rfl, by show 2 ≤ sizeLine; decide, fun t ht => ?_⟩
  have f1 := (Fx.refl (M := []) k).newH (o := .tup [.ty "list", .ty "tuple"]) ht
  refine ⟨v, t, _, _, _, _, rfl, upd_same, .cons (.ty _) (.cons (.ty _) .nil), hd.tyx f1.rh, kLT K _, ?_⟩
  refine ⟨_, rfl, iteF ?_⟩
  obtain ⟨a, vs, rfl, e1, e2, _⟩ := hd.isL K k
  have hl := e2.length
  show tSeq _ _ _ _ (upd H t (.tup [.ty "list", .ty "tuple"]))
  generalize upd H t (.tup [.ty "list", .ty "tuple"]) = H1 at f1 ⊢
  refine ⟨_, rfl, a, vs, rfl, .inl (SqL.of (f1.rh _ _ e1)), _, rfl, by omega, by omega, for_range (n := vs.length) (fun i σ H' => ∃ (seen : List Str) (x : Option V), σ = [some (.ref a), x] ∧ Fx [] R H R H' ∧ i ≤ ds.length ∧ seen.length = i ∧ ds.take i = seen.map PyData.str ∧ wnGo [] ds = wnGo seen (ds.drop i)) ⟨[], none, rfl, f1, Nat.zero_le _, rfl, rfl, rfl⟩ ?_ ?_⟩
  · rintro i σ H' hi ⟨seen, x, rfl, f, hil, hsl, hs, hw⟩
    have hi' : i < ds.length := by omega
    have hi2 : i < vs.length := by omega
    obtain ⟨d, d1, d2⟩ := e2.get (List.getElem?_eq_getElem hi2)
    have hdi : ds[i] = d := by rw [List.getElem?_eq_getElem hi'] at d1; exact Option.some.inj d1
    have od := okSs_get ho d1
    have ei : (0 : Int) + (i : Int) = i := by omega
    rw [ei]
    have hdrop : ds.drop i = d :: ds.drop (i + 1) := by rw [List.drop_eq_getElem_cons hi', hdi]
    have ne : wnode ds = wnGo [] ds := by cases ds with | nil => simp at hi' | cons _ _ => rfl
    have ret : ∀ H2, Fx [] R H R H2 → wnGo seen (ds.drop i) = some d → ∃ b vs' , V.ref b = V.ref b ∧ vs' = [vs[i]] := fun _ _ _ => ⟨0, _, rfl, rfl⟩
    refine ⟨_, rfl, _, rfl, a, vs, _, vs[i], rfl, rfl, SqL.of (f.rh _ _ e1), at_of2 (j := i) rfl (List.getElem?_eq_getElem hi2), ?_⟩
    refine ⟨R, vs[i], d, rfl, f.rh, d2, od, fun R2 H2 f2 => ⟨_, rfl, ?_⟩⟩
    have f2 := f.trans f2
    have fin : ∀ H3 R3, Fx [] R H R3 H3 → wnGo seen (ds.drop i) = some d → ∀ p, H3 p = none → Q (.ref p) (upd H3 p (.lst [vs[i]])) := by
      intro H3 R3 f3 hw3 p hp
      obtain ⟨R4, g1, t1, n1⟩ := nw_lst f3.rh (.cons (d2.up f3.rr) .nil) hp
      refine q R4 _ _ (f3.trans g1) ?_
      rw [ne, hw, hw3]
      exact t1
    refine iteB (fun h1 => ?_) (fun h1 => ?_)
    · have h1 : isName d = true := by simpa using h1
      obtain ⟨s, rfl, hs1⟩ := isName_str h1
      have e1' := f2.rr _ _ e1
      refine ⟨_, rfl, _, rfl, a, vs, _, vs[i], rfl, rfl, SqL.of (f2.rh _ _ e1'), at_of2 (j := i) rfl (List.getElem?_eq_getElem hi2), ?_⟩
      refine ⟨_, rfl, _, rfl, _, rfl, a, vs, rfl, SqL.of (f2.rh _ _ e1'), fun p hp => ?_⟩
      have at3 : AtL R (cutV vs none (some (i : Int))) (seen.map PyData.str) := by rw [← hs]; exact cutAtL e2 i
      have eqs := at3.strs
      rw [eqs]
      obtain ⟨R3, g3, e3, n3⟩ := Fx.at1 (o := .lst (seen.map V.str)) f2.rh hp
      have f3 := f2.trans g3
      refine ⟨p, seen, R3, .str s, rfl, .inl (SqL.of (f3.rh _ _ e3)), f3.rh, d2.up f3.rr, _, rfl, ?_⟩
      have step : wnGo seen (ds.drop i) = if isNameS s && !inS (.str s) seen && !decide (seen.length = 40) then wnGo (seen ++ [s]) (ds.drop (i + 1)) else some (.str s) := by rw [hdrop]; rfl
      rw [hs1, Bool.true_and] at step
      refine iteB (fun h2 => ?_) (fun h2 => ?_)
      · have h2 : inS (.str s) seen = false := h2
        rw [h2] at step
        refine ⟨_, rfl, rfl, _, rfl, ?_⟩
        rw [dec_int]
        refine iteB (fun h3 => ?_) (fun h3 => ?_)
        · have h40 : ¬ seen.length = 40 := by
            intro z
            have : ((i : Int) == 40) = true := by rw [beq_iff_eq]; omega
            rw [this] at h3
            cases h3
          rw [decide_eq_false h40] at step
          refine ⟨seen ++ [s], _, rfl, ?_, hi', by rw [List.length_append, hsl]; rfl, ?_, by rw [hw, step]; rfl⟩
          · exact ⟨Same.refl R, fun b o e => f3.rh _ _ (f3.rr _ _ e), fun _ _ e => .inl e, f3.kp, f3.th⟩
          · rw [take_snoc _ _ hi', hdi, hs, List.map_append]; rfl
        · have h40 : seen.length = 40 := by
            have := eq_of_beq h3
            omega
          rw [decide_eq_true h40] at step
          refine ⟨_, rfl, _, rfl, a, vs, _, vs[i], rfl, rfl, SqL.of (f3.rh _ _ (f3.rr _ _ e1)), at_of2 (j := i) rfl (List.getElem?_eq_getElem hi2), by show 1 ≤ sizeLine; omega, fin _ _ f3 (by rw [step]; rfl)⟩
      · have h2 : inS (.str s) seen = true := h2
        rw [h2] at step
        refine ⟨_, rfl, _, rfl, a, vs, _, vs[i], rfl, rfl, SqL.of (f3.rh _ _ (f3.rr _ _ e1)), at_of2 (j := i) rfl (List.getElem?_eq_getElem hi2), by show 1 ≤ sizeLine; omega, fin _ _ f3 (by rw [step]; rfl)⟩
    · have h1 : isName d = false := by simpa using h1
      refine ⟨_, rfl, _, rfl, a, vs, _, vs[i], rfl, rfl, SqL.of (f2.rh _ _ (f2.rr _ _ e1)), at_of2 (j := i) rfl (List.getElem?_eq_getElem hi2), by show 1 ≤ sizeLine; omega, fin _ _ f2 (by rw [hdrop]; exact wnGo_bad h1)⟩
  · rintro σ H' ⟨seen, x, rfl, f, hil, hsl, hs, hw⟩
    refine ⟨_, rfl, a, vs, rfl, .inl (SqL.of (f.rh _ _ e1)), rfl, _, rfl, ?_⟩
    rw [dec_int]
    refine iteB (fun h => ?_) (fun h => ?_)
    · refine ⟨Nat.zero_le _, fun p hp => ?_⟩
      obtain ⟨R4, g1, t1, n1⟩ := nw_lst f.rh .nil hp
      refine q R4 _ _ (f.trans g1) ?_
      cases ds with
      | nil =>
        have : vs.length = 0 := hl
        rw [this] at h
        cases h
      | cons d r =>
        show At R4 _ (.list (optL (wnGo [] (d :: r))))
        rw [hw, hl, List.drop_of_length_le (Nat.le_refl _)]
        exact t1
    · have h0 : vs.length = 0 := by
        have := eq_of_beq h
        omega
      refine ⟨Nat.zero_le _, fun p hp => ?_⟩
      obtain ⟨R4, g1, t1, n1⟩ := nw_tup f.rh .nil hp
      refine ⟨by show 1 ≤ sizeLine; omega, fun p2 hp2 => ?_⟩
      obtain ⟨R5, g2, t2, n2⟩ := nw_lst g1.rh (.cons t1 .nil) hp2
      refine q R5 _ _ (f.trans (g1.trans g2)) ?_
      cases ds with
      | nil => exact t2
      | cons d r => rw [h0] at hl; simp at hl
end
end Ld
/-! Fk: the wrong edge. -/
namespace Ld
open PySem L2 PyProof.Rows
def nameD : PyData → Str
  | .tuple (.str n :: _) => n
  | _ => ""
def weGo (ns : List Str) (seen : List Str) : List PyData → Option PyData
  | [] => none
  | d :: r => if isEdge d ns && !inS (.str (nameD d)) seen then weGo ns (seen ++ [nameD d]) r else some d
theorem isEdge_edg {d : PyData} {ns : List Str} (h : isEdge d ns = true) : ∃ e : Edg, d = e.d := by
  unfold isEdge at h
  split at h
  · rename_i n u v l
    cases l with
    | int i => exact ⟨⟨n, u, v, i⟩, rfl⟩
    | _ => simp [isLen, isBtw] at h
  · cases h
def spWrongE : Sp := fun vs H Q _ => ∃ (R : Hp) (v : V) (ds : List PyData) (p : Addr) (ns : List Str), vs = [v, .ref p] ∧ Same R H ∧ At R v (.list ds) ∧ okSs ds = true ∧ ds.length ≤ 1000 ∧ R p = some (.lst (ns.map V.str)) ∧
  ∀ (R' H' : Hp) (x : V), Fx [] R H R' H' → At R' x (.list (optL (weGo ns [] ds))) → Q x H'
section
variable {P : Program} {w : World} {K : PySem.W.Frag} {mg : Str → Option Value} {base : Heap}
theorem ok_lwrong_edge (T : Tx w K mg) : FnOk P w K mg base CX0 3 (a_lwrong_edge K) (f_lwrong_edge K) P_lwrong_edge spWrongE := by
  refine T.d_lwrong_edge.ok sc_lwrong_edge (fun vs H Q E h => by obtain ⟨_, _, _, _, _, rfl, _⟩ := h; rfl) (fun cdv A outer s H vs Q E hr h => ?_)
  have hu := hu_of hr
  have hu3 : (A.deeper (envOfC "_law_wrong_edge" (defScope st_lwrong_edge) s.heap.objs.size (a_lwrong_edge K) cdv)).units + 65 < cLine := by have := hr.un; omega
  have nd := sc_lwrong_edge.nd
  have hsz := sizeLine_eq
  refine ⟨_, PSs.nox (pss_cons (ps_if (pt_not (pt_val (pe_callB call_isiT (by rfl) T.f_isinstance boot_isinstance (pa_cons (pv 0) (pa_cons (pe_tup (pa_cons (pe_bltn (v := .ty "list") (by rfl) T.f_list boot_list rfl) (pa_cons (pe_bltn (v := .ty "tuple") (by rfl) T.f_tuple boot_tuple rfl) pa_nil))) pa_nil)))))
      (pss_one (ps_ret (pe_lst (pa_cons (pv 0) pa_nil))))
      pss_nil)
    (pss_cons (ps_for PassesOwn.never rfl (pi_range1 (by rfl) T.f_range (pa_cons (pe_callB call_len_seq (by rfl) T.f_len boot_len (pa_cons (pv 0) pa_nil)) pa_nil)) (pg_name (i := 2) nd rfl (Or.inl rfl))
      (pss_one (ps_if (PW.pt (pw_or (pt_not (pt_val (pe_call (ok_lis_edge T) (hr.mono (by decide)) (by rfl) T.g_lis_edge T.k_lis_edge T.b_lis_edge .nil pass0 (pa_cons (pe_ix ix_list (pv 0) (pv 2) (fun _ _ => rfl)) (pa_cons (pv 1) pa_nil))))) (pw_or1 (pt_cmpR (op_inN hu3) (pe_ix ix_tup (pe_ix ix_list (pv 0) (pv 2) (fun _ _ => rfl)) pe_int (fun _ _ => rfl)) (pe_lc (own := [("_law_edge", 3)]) (g := (gName 3)) (tt := tYes) (by rfl) nd (pi_list (pe_slice sl_list (pv 0) po_none (po_some (pv 2)))) (blkOk_by (N := N_lwrong_edge) (sc := defScope st_lwrong_edge) (by decide +kernel)) (fun _ _ _ _ _ => (pg_name (i := 3) nd rfl (Or.inl rfl))) (fun _ _ _ _ _ => pts_nil) (fun _ _ _ _ _ => (pe_ix (show IxR _ (rIxT K) from ix_tup) (pv 3) pe_int (fun _ _ => rfl)))) (by rfl)))))
        (pss_one (ps_ret (pe_lst (pa_cons (pe_ix ix_list (pv 0) (pv 2) (fun _ _ => rfl)) pa_nil))))
        pss_nil)))
    (pss_one (ps_ret (pe_lst pa_nil))))), ?_⟩
  obtain ⟨R, v, ds, np, ns, rfl, k, hd, ho, hlen, hnp, q⟩ := h
  refine ⟨v, rfl, by show 2 ≤ sizeLine; decide, fun t ht => ?_⟩
  have f1 := (Fx.refl (M := []) k).newH (o := .tup [.ty "list", .ty "tuple"]) ht
  refine ⟨v, t, _, _, _, _, rfl, upd_same, .cons (.ty _) (.cons (.ty _) .nil), hd.tyx f1.rh, kLT K _, ?_⟩
  refine ⟨_, rfl, iteF ?_⟩
  obtain ⟨a, vs, rfl, e1, e2, _⟩ := hd.isL K k
  have hl := e2.length
  show tSeq _ _ _ _ (upd H t (.tup [.ty "list", .ty "tuple"]))
  generalize upd H t (.tup [.ty "list", .ty "tuple"]) = H1 at f1 ⊢
  refine ⟨_, rfl, a, vs, rfl, .inl (SqL.of (f1.rh _ _ e1)), _, rfl, by omega, by omega, for_range (n := vs.length) (fun i σ H' => ∃ (es : List Edg) (x : Option V), σ = [some (.ref a), some (.ref np), x, none] ∧ Fx [] R H R H' ∧ i ≤ ds.length ∧ es.length = i ∧ ds.take i = es.map Edg.d ∧ weGo ns [] ds = weGo ns (es.map Edg.n) (ds.drop i)) ⟨[], none, rfl, f1, Nat.zero_le _, rfl, rfl, rfl⟩ ?_ ?_⟩
  · rintro i σ H' hi ⟨es, x, rfl, f, hil, hsl, hs, hw⟩
    have hi' : i < ds.length := by omega
    have hi2 : i < vs.length := by omega
    obtain ⟨d, d1, d2⟩ := e2.get (List.getElem?_eq_getElem hi2)
    have hdi : ds[i] = d := by rw [List.getElem?_eq_getElem hi'] at d1; exact Option.some.inj d1
    have od := okSs_get ho d1
    have ei : (0 : Int) + (i : Int) = i := by omega
    rw [ei]
    have hdrop : ds.drop i = d :: ds.drop (i + 1) := by rw [List.drop_eq_getElem_cons hi', hdi]
    have step : weGo ns (es.map Edg.n) (ds.drop i) = if isEdge d ns && !inS (.str (nameD d)) (es.map Edg.n) then weGo ns (es.map Edg.n ++ [nameD d]) (ds.drop (i + 1)) else some d := by rw [hdrop]; rfl
    refine ⟨_, rfl, _, rfl, a, vs, _, vs[i], rfl, rfl, SqL.of (f.rh _ _ e1), at_of2 (j := i) rfl (List.getElem?_eq_getElem hi2), ?_⟩
    refine ⟨_, rfl, R, vs[i], d, np, ns, rfl, f.rh, d2, od, .inl hnp, fun R2 H2 f2 => ⟨_, rfl, ?_⟩⟩
    have f2 := f.trans f2
    have fin : ∀ H3 R3, Fx [] R H R3 H3 → weGo ns (es.map Edg.n) (ds.drop i) = some d → ∀ p, H3 p = none → Q (.ref p) (upd H3 p (.lst [vs[i]])) := by
      intro H3 R3 f3 hw3 p hp
      obtain ⟨R4, g1, t1, n1⟩ := nw_lst f3.rh (.cons (d2.up f3.rr) .nil) hp
      refine q R4 _ _ (f3.trans g1) ?_
      rw [hw, hw3]
      exact t1
    refine iteB (fun h1 => ?_) (fun h1 => ?_)
    · have h1 : isEdge d ns = true := by simpa using h1
      obtain ⟨e, rfl⟩ := isEdge_edg h1
      rw [h1, Bool.true_and] at step
      have e1' := f2.rr _ _ e1
      obtain ⟨at_, tvs, x0, ev, sT, eT, hx0⟩ := (d2.up f2.rr).ixT K f2.rh (j := 0) rfl
      cases hx0
      refine ⟨_, rfl, _, rfl, a, vs, _, vs[i], rfl, rfl, SqL.of (f2.rh _ _ e1'), at_of2 (j := i) rfl (List.getElem?_eq_getElem hi2), ?_⟩
      refine ⟨at_, _, _, _, ev, rfl, sT, at_of2 (j := 0) rfl eT, ?_⟩
      refine ⟨_, rfl, _, rfl, _, rfl, a, vs, rfl, SqL.of (f2.rh _ _ e1'), fun p hp => ?_⟩
      have at3 : AtL R2 (cutV vs none (some (i : Int))) (es.map Edg.d) := by rw [← hs]; exact cutAtL (e2.up f2.rr) i
      obtain ⟨R3, g3, e3, n3⟩ := Fx.at1 (o := .lst (cutV vs none (some (i : Int)))) f2.rh hp
      have f3 := f2.trans g3
      have at3 := at3.up n3
      have lc3 := at3.length
      rw [List.length_map] at lc3
      refine ⟨p, rfl, ⟨_, SqL.of (f3.rh _ _ e3)⟩, fun D hD => ?_⟩
      refine lc_data (walk_list (xs := cutV vs none (some (i : Int)))) [] (fun i => (es.take i).map fun e => PyData.str e.n) (fun _ _ _ => True) f3.rh hD (by simp) (fun j hj => ?_) rfl trivial (fun _ R H _ f _ => SqL.of (f.rh _ _ (f.rr _ _ e3))) (fun _ _ _ _ _ _ => trivial) (fun j x R' H' H'' vs' Cy Cn hj f' r hv ac e y ky kn => ?_) (fun R4 H4 vs' f4 r hv ac _ => ?_)
      · simp only [List.length_map, List.length_take]; omega
      · obtain ⟨rfl, hx⟩ := y
        have hj' : j < es.length := by omega
        obtain ⟨d', hd1, hd2⟩ := at3.get hx
        rw [List.getElem?_map, List.getElem?_eq_getElem hj'] at hd1
        cases hd1
        obtain ⟨et, ets, nv, rfl, sE, eE, hv2⟩ := (hd2.up f'.rr).ixT K f'.rh (j := 0) rfl
        refine ⟨rfl, iteT (B := Cn H'') ?_⟩
        refine ⟨_, rfl, et, _, _, nv, rfl, rfl, sE, at_of2 (j := 0) rfl eE, ky R' H'' _ _ (Fx.refl f'.rh) hv2 ?_ trivial⟩
        rw [take_snoc _ _ hj', List.map_append]
        rfl
      · have f5 := f3.trans f4
        rw [lc3, List.take_of_length_le (Nat.le_refl _)] at ac
        have ev' : vs' = (es.map Edg.n).map V.str := by
          refine AtL.strs (R := R4) ?_
          rw [List.map_map]
          exact ac
        rw [ev'] at hv
        refine ⟨D, es.map Edg.n, R4, .str e.n, rfl, .inl (SqL.of hv), f5.rh, .str _, _, rfl, ?_⟩
        have enm : nameD e.d = e.n := rfl
        rw [enm] at step
        refine iteB (fun h2 => ?_) (fun h2 => ?_)
        · have h2 : inS (.str e.n) (es.map Edg.n) = false := h2
          rw [h2] at step
          refine ⟨es ++ [e], _, rfl, ?_, hi', by rw [List.length_append, hsl]; rfl, ?_, by rw [hw, step, List.map_append]; rfl⟩
          · exact ⟨Same.refl R, fun b o e => f5.rh _ _ (f5.rr _ _ e), fun _ _ e => .inl e, f5.kp, f5.th⟩
          · rw [take_snoc _ _ hi', hdi, hs, List.map_append]; rfl
        · have h2 : inS (.str e.n) (es.map Edg.n) = true := h2
          rw [h2] at step
          refine ⟨_, rfl, _, rfl, a, vs, _, vs[i], rfl, rfl, SqL.of (f5.rh _ _ (f5.rr _ _ e1)), at_of2 (j := i) rfl (List.getElem?_eq_getElem hi2), by show 1 ≤ sizeLine; omega, fin _ _ f5 (by rw [step]; rfl)⟩
    · have h1 : isEdge d ns = false := by simpa using h1
      rw [h1] at step
      refine ⟨_, rfl, _, rfl, a, vs, _, vs[i], rfl, rfl, SqL.of (f2.rh _ _ (f2.rr _ _ e1)), at_of2 (j := i) rfl (List.getElem?_eq_getElem hi2), by show 1 ≤ sizeLine; omega, fin _ _ f2 (by rw [step]; rfl)⟩
  · rintro σ H' ⟨seen, x, rfl, f, hil, hsl, hs, hw⟩
    refine ⟨Nat.zero_le _, fun p hp => ?_⟩
    obtain ⟨R4, g1, t1, n1⟩ := nw_lst f.rh .nil hp
    refine q R4 _ _ (f.trans g1) ?_
    rw [hw, hl, List.drop_of_length_le (Nat.le_refl _)]
    exact t1
end
end Ld
/-! Kn: a walk over a list or a tuple; the errors of the program; what is asked where one leaves. -/
namespace Ld
open PySem L2 PyProof.Rows
section
variable {X : Cx} {tg e : Expr} {tl : TE}
/-- what is walked: a list or a tuple -/
def iSeq (tl : TE) : TI := fun σ H R => tl σ H fun x H1 => ∃ (a : Addr) (xs : List V) (o : HO), x = .ref a ∧ H1 a = some o ∧ (o = .lst xs ∨ o = .tup xs) ∧ ∀ J, Walk J xs.length (fun H' => H' a = some o) (YAt xs) → R J H1
theorem pi_seq (he : PE X e tl) : PI X tg e (iSeq tl) := by
  refine ⟨fun pins s σ H R I h => ?_⟩
  refine thn (he.run pins s σ H _ I h) fun v s1 ⟨x, H1, I1, r1, q1⟩ => ?_
  obtain ⟨a, xs, o, e, ho, hk, q⟩ := q1
  subst e
  cases r1
  have fin : ∀ b ∈ [s1.heap.objs.size], FpOk X pins H1 b := fun b hb => by
    have e : b = s1.heap.objs.size := by simpa using hb
    subst e
    exact I1.fpOk (Nat.le_refl _) (I1.hok.fresh (Nat.le_refl _))
  rcases hk with rfl | rfl
  · obtain ⟨its, rv, p, hz⟩ := I1.list (SqL.of ho)
    refine wpAny_pyIter_list p.isList ?_
    exact ⟨s1.heap.objs.size, [s1.heap.objs.size], _, _, H1, rfl, I1.kept (t' := s1.toks) fun b o e => Heap.get?_push_of_some _ e, turn_list a _, ⟨_, Heap.get?_push_size _ rfl, rfl, rfl⟩, fin, q (Itl X.K a) (walk_list.mono (fun H' h => SqL.of h) fun _ _ _ _ _ _ y => y)⟩
  · obtain ⟨its, rv, p, hz⟩ := I1.tuple (SqT.of ho)
    refine wpAny_pyIter_tuple (show s1.heap.IsTuple a its.toArray from p) ?_
    exact ⟨s1.heap.objs.size, [s1.heap.objs.size], _, _, H1, rfl, I1.kept (t' := s1.toks) fun b o e => Heap.get?_push_of_some _ e, turn_tuple a _, ⟨_, Heap.get?_push_size _ rfl, rfl, rfl⟩, fin, q (Itt X.K a) (walk_tup.mono (fun H' h => SqT.of h) fun _ _ _ _ _ _ y => y)⟩
end
/-! ### the errors -/
inductive Err where
  | node (d : PyData)
  | edge (d : PyData)
  | length (d : PyData)
  | many (n : Int)
  | noNode (d : PyData)
  | noEdge (d : PyData)
  | range (d : PyData)
  | noUndo
  | noRedo
def Err.c : Err → Str
  | .node _ => "InvalidNode"
  | .edge _ => "InvalidEdge"
  | .length _ => "InvalidLength"
  | .many _ => "TooMany"
  | .noNode _ => "UnknownNode"
  | .noEdge _ => "UnknownEdge"
  | .range _ => "OutOfRange"
  | .noUndo => "NothingToUndo"
  | .noRedo => "NothingToRedo"
/-- the field and its value -/
def Err.fd : Err → Option (Str × PyData)
  | .node d => some ("value", d)
  | .edge d => some ("value", d)
  | .length d => some ("value", d)
  | .many n => some ("limit", .int n)
  | .noNode d => some ("value", d)
  | .noEdge d => some ("value", d)
  | .range d => some ("value", d)
  | .noUndo => none
  | .noRedo => none
/-- what is asked where the error e leaves a def that went on from (R, H) -/
def ER (K : PySem.W.Frag) (M : List Addr) (R H : Hp) (E : XK) (e : Err) : Prop := match e.fd with
  | some (f, d) => ∀ (R' H' : Hp) (dd : Addr) (v : V), Fx M R H R' H' → H' dd = some (.xd [(f, v)]) → At R' v d → E (.ref (He.ga K e.c)) (some dd) H'
  | none => ∀ (R' H' : Hp), Fx M R H R' H' → E (.ref (He.ga K e.c)) none H'
theorem ER.then {K : PySem.W.Frag} {M M' : List Addr} {R H R1 H1 : Hp} {E : XK} {e : Err} (h : ER K M R H E e) (f : Fx M R H R1 H1) (hM : ∀ a ∈ M', a ∈ M) : ER K M' R1 H1 E e := by
  unfold ER at h ⊢
  cases he : e.fd with
  | none =>
    rw [he] at h
    exact fun R' H' g => h R' H' (f.trans (g.sub hM))
  | some p =>
    rw [he] at h
    exact fun R' H' dd v g => h R' H' dd v (f.trans (g.sub hM))
/-- a made one -/
theorem ER.mk {K : PySem.W.Frag} {R H R1 H1 : Hp} {E : XK} {e : Err} {f : Str} {d : PyData} {v : V} {dd : Addr} (h : ER K [] R H E e) (he : e.fd = some (f, d)) (g : Fx [] R H R1 H1) (hv : At R1 v d) (hd : H1 dd = none) : E (.ref (He.ga K e.c)) (some dd) (upd H1 dd (.xd [(f, v)])) := by
  unfold ER at h
  rw [he] at h
  exact h R1 _ dd v (g.newH hd) upd_same hv
end Ld
/-! Ff: names. -/
namespace Ld
open PySem L2 PyProof.Rows
theorem cp_letters : cp letters = (List.range 26).map (97 + ·) := by decide +kernel
theorem letters_at {j : Nat} (h : j < 26) : (cp letters)[j]? = some (97 + j) := by
  rw [cp_letters, List.getElem?_map, List.getElem?_range h]
  rfl
theorem letters_mem {c : Nat} (h1 : 97 ≤ c) (h2 : c < 123) : c ∈ cp letters := by
  rw [cp_letters, List.mem_map]
  exact ⟨c - 97, List.mem_range.mpr (by omega), by omega⟩
def goodNames (ns : List Str) : Prop := (∀ n ∈ ns, isNameS n = true) ∧ ns.Nodup
/-- the k-th name -/
def nameL (stem : List Nat) (at_ cut : Nat) (f st : Int) (k : Nat) : List Nat :=
  stem.take at_ ++ [97 + ((f + st * k) % 26).toNat] ++ (if cut = 0 then stem.drop at_ else (stem.drop at_).take (k % 3))
def nameAt (stem : List Nat) (at_ cut : Nat) (f st : Int) (k : Nat) : Str := ⟨(nameL stem at_ cut f st k).toArray⟩
theorem cp_nameAt (stem : List Nat) (at_ cut : Nat) (f st : Int) (k : Nat) : cp (nameAt stem at_ cut f st k) = nameL stem at_ cut f st k := by simp [cp, nameAt]
def steps : List Int := [1, 3, 5, 7, 9, 11, 15, 17, 19, 21, 23, 25]
theorem step_inj {f st : Int} {a b : Nat} (hs : st ∈ steps) (ha : a < 26) (hb : b < 26) (h : (f + st * a) % 26 = (f + st * b) % 26) : a = b := by
  simp only [steps, List.mem_cons, List.not_mem_nil, or_false] at hs
  rcases hs with rfl | rfl | rfl | rfl | rfl | rfl | rfl | rfl | rfl | rfl | rfl | rfl <;> omega
theorem names_good {stem : List Nat} {at_ cut : Nat} {f st : Int} {many : Nat} (hstem : ∀ c ∈ stem, c ∈ cp letters) (hl : stem.length ≤ 6) (ha : at_ ≤ stem.length) (hs : st ∈ steps) (hm : many ≤ 26) :
    goodNames ((List.range many).map (nameAt stem at_ cut f st)) := by
  refine ⟨fun n hn => ?_, ?_⟩
  · obtain ⟨k, hk, rfl⟩ := List.mem_map.mp hn
    have e := cp_nameAt stem at_ cut f st k
    have hlen : (nameL stem at_ cut f st k).length ≤ 7 ∧ 1 ≤ (nameL stem at_ cut f st k).length := by
      unfold nameL
      simp only [List.length_append, List.length_take, List.length_singleton]
      split
      · simp only [List.length_drop]; omega
      · simp only [List.length_take, List.length_drop]; omega
    have hl2 := cp_len (nameAt stem at_ cut f st k)
    rw [e] at hl2
    have hall : ∀ c ∈ nameL stem at_ cut f st k, c ∈ cp letters := by
      intro c hc
      unfold nameL at hc
      rw [List.mem_append, List.mem_append] at hc
      rcases hc with (hc | hc) | hc
      · exact hstem c (List.mem_of_mem_take hc)
      · rw [List.mem_singleton] at hc
        have h1 : 0 ≤ (f + st * k) % 26 := Int.emod_nonneg _ (by decide)
        have h2 : (f + st * k) % 26 < 26 := Int.emod_lt_of_pos _ (by decide)
        rw [hc]
        exact letters_mem (by omega) (by omega)
      · split at hc
        · exact hstem c (List.mem_of_mem_drop hc)
        · exact hstem c (List.mem_of_mem_drop (List.mem_of_mem_take hc))
    show (_ && _ && _) = true
    rw [decide_eq_true (by omega), decide_eq_true (by omega), Bool.true_and, Bool.true_and, List.all_eq_true]
    intro c hc
    exact decide_eq_true (hall c (by rw [← e]; exact hc))
  · rw [List.Nodup, List.pairwise_map]
    refine List.Pairwise.imp_of_mem (fun {a b} hma hmb hne e => hne ?_) List.nodup_range
    have ha := List.mem_range.mp hma
    have hb := List.mem_range.mp hmb
    have e2 : nameL stem at_ cut f st a = nameL stem at_ cut f st b := by rw [← cp_nameAt, ← cp_nameAt, e]
    unfold nameL at e2
    rw [List.append_assoc, List.append_assoc] at e2
    have e3 := List.append_cancel_left e2
    have e4 : 97 + ((f + st * a) % 26).toNat = 97 + ((f + st * b) % 26).toNat := by
      have := congrArg List.head? e3
      simpa using this
    have h1 : 0 ≤ (f + st * a) % 26 := Int.emod_nonneg _ (by decide)
    have h2 : 0 ≤ (f + st * b) % 26 := Int.emod_nonneg _ (by decide)
    exact step_inj (f := f) hs (by omega) (by omega) (by omega)
def spNames : Sp := fun vs H Q _ => ∃ (R : Hp) (p : Addr) (u : Nat) (many : Nat), vs = [.ref p, .int (many : Int)] ∧ Same R H ∧ PenAt R H p u ∧ many ≤ 26 ∧ u + 100 ≤ lim ∧
  ∀ (ns : List Str) (u' : Nat) (R' H' : Hp) (b : Addr), ns.length = many → goodNames ns → u' ≤ u + 20 → PenAt R' H' p u' → Fx [p] R H R' H' → R' b = some (.lst (ns.map V.str)) → Q (.ref b) H'
section
variable {P : Program} {w : World} {K : PySem.W.Frag} {mg : Str → Option Value} {base : Heap}
theorem sum_ones : ∀ cs : List Nat, ((cs.map fun c => (⟨#[c]⟩ : Str)).map (·.length)).sum = cs.length
  | [] => rfl
  | c :: r => by
    have := sum_ones r
    simp only [List.map_cons, List.sum_cons, List.length_cons] at this ⊢
    rw [this]
    show 1 + _ = _
    omega
theorem PenAt.new {R H : Hp} {p q : Addr} {u : Nat} {o : HO} (h : PenAt R H p u) (hq : H q = none) : PenAt R (upd H q o) p u := by
  obtain ⟨c, cs, l, e1, e2, e3⟩ := h.ob
  exact ⟨h.fr, c, cs, l, by rw [upd_ne (ne_of_none e1 hq)]; exact e1, e2, e3⟩
theorem PenAt.put {R H : Hp} {p q : Addr} {u : Nat} {o : HO} (h : PenAt R H p u) (hq : p ≠ q) : PenAt R (upd H q o) p u := by
  obtain ⟨c, cs, l, e1, e2, e3⟩ := h.ob
  exact ⟨h.fr, c, cs, l, by rw [upd_ne hq]; exact e1, e2, e3⟩
/-- .. where more stands still -/
theorem PenAt.still {R H : Hp} {p q : Addr} {u : Nat} {o : HO} (h : PenAt R H p u) (hq : p ≠ q) (hR : R q = none) : PenAt (upd R q o) H p u := by
  obtain ⟨c, cs, l, e1, e2, e3⟩ := h.ob
  exact ⟨by rw [upd_ne hq]; exact h.fr, c, cs, l, e1, e2, by rw [upd_ne (ne_of_none e3 hR)]; exact e3⟩
theorem PenAt.ne0 {R H : Hp} {p q : Addr} {u : Nat} (h : PenAt R H p u) (hq : H q = none) : p ≠ q := by
  obtain ⟨c, cs, l, e1, e2, e3⟩ := h.ob
  exact ne_of_none e1 hq
theorem ok_lnames (T : Tx w K mg) : FnOk P w K mg base CX0 3 (a_lnames K) (f_lnames K) P_lnames spNames := by
  refine T.d_lnames.ok sc_lnames (fun vs H Q E h => by obtain ⟨_, _, _, _, rfl, _⟩ := h; rfl) (fun cdv A outer s H vs Q E hr h => ?_)
  have hu := hu_of hr
  have hu2 := hr.units
  have nd := sc_lnames.nd
  refine ⟨_, PSs.nox (pss_cons (ps_set (i := 2) nd rfl (Or.inr rfl) pe_str)
    (pss_cons (ps_set (i := 3) nd rfl (Or.inl rfl) (pe_join pe_str (pe_lc (own := [("_law_k", 9)]) (g := (gName 9)) (tt := tYes) (by rfl) nd (pi_range1 (by rfl) T.f_range (pa_cons (pe_call (ok_ldraw T) (hr.mono (by decide)) (by rfl) T.g_ldraw T.k_ldraw T.b_ldraw .nil pass0 (pa_cons (pv 0) (pa_cons pe_int pa_nil))) pa_nil)) (blkOk_by (N := N_lnames) (sc := defScope st_lnames) (by decide +kernel)) (fun _ _ _ _ _ => (pg_name (i := 9) nd rfl (Or.inl rfl))) (fun _ _ _ _ _ => pts_nil) (fun _ _ _ _ _ => (pe_call (ok_lpick T) (hr.mono (by decide)) (by rfl) T.g_lpick T.k_lpick T.b_lpick .nil pass0 (pa_cons (pv 0) (pa_cons (pv 2) pa_nil)))))))
    (pss_cons (ps_par3 (i := 4) (j := 5) (l := 6) (by rfl) nd rfl rfl rfl (by decide) (by decide) (by decide) rfl rfl rfl (pa_cons (pe_call (ok_ldraw T) (hr.mono (by decide)) (by rfl) T.g_ldraw T.k_ldraw T.b_ldraw .nil pass0 (pa_cons (pv 0) (pa_cons (pe_op op_add (pe_callB call_len_str (by rfl) T.f_len boot_len (pa_cons (pv 3) pa_nil)) pe_int) pa_nil))) (pa_cons (pe_call (ok_ldraw T) (hr.mono (by decide)) (by rfl) T.g_ldraw T.k_ldraw T.b_ldraw .nil pass0 (pa_cons (pv 0) (pa_cons pe_int pa_nil))) (pa_cons (pe_call (ok_ldraw T) (hr.mono (by decide)) (by rfl) T.g_ldraw T.k_ldraw T.b_ldraw .nil pass0 (pa_cons (pv 0) (pa_cons pe_int pa_nil))) pa_nil))) (by rfl))
    (pss_cons (ps_par (i := 7) (j := 8) (by rfl) nd rfl rfl (by decide) rfl rfl (pa_cons (pe_call (ok_lpick T) (hr.mono (by decide)) (by rfl) T.g_lpick T.k_lpick T.b_lpick .nil pass0 (pa_cons (pv 0) (pa_cons (pe_lst (pa_cons pe_int (pa_cons pe_int (pa_cons pe_int (pa_cons pe_int (pa_cons pe_int (pa_cons pe_int (pa_cons pe_int (pa_cons pe_int (pa_cons pe_int (pa_cons pe_int (pa_cons pe_int (pa_cons pe_int pa_nil))))))))))))) pa_nil))) (pa_cons (pe_lst pa_nil) pa_nil)) (by rfl))
    (pss_cons (ps_for PassesOwn.never rfl (pi_range1 (by rfl) T.f_range (pa_cons (pv 1) pa_nil)) (pg_name (i := 9) nd rfl (Or.inl rfl))
      (pss_cons (ps_set (i := 10) nd rfl (Or.inl rfl) (pe_ix ix_str (pv 2) (pe_op op_mod (pe_op op_add (pv 6) (pe_op op_mul (pv 7) (pv 9))) pe_int) (fun _ _ => rfl)))
      (pss_cons (ps_set (i := 10) nd rfl (Or.inl rfl) (pe_op op_add_str (pv 10) (pe_op op_mul_str (pe_ix ix_str (pv 2) (pe_op op_fdiv (pv 9) pe_int) (fun _ _ => rfl)) (pe_callTy call_int1 (by rfl) T.f_int boot_int (pa_cons (pe_cmpR op_gt (pv 1) pe_int (nomark _)) pa_nil)))))
      (pss_cut2 (ps_set (i := 11) nd rfl (Or.inl rfl) (pe_ifExp (pt_cmpR op_eq (pv 5) pe_int (nomark _)) (pe_slice sl_str (pv 3) (po_some (pv 4)) po_none) (pe_slice sl_str (pe_slice sl_str (pv 3) (po_some (pv 4)) po_none) po_none (po_some (pe_op op_mod (pv 9) pe_int)))))
      (pss_one (ps_expr (pe_bm PySem.F.plainAttrs_list PySem.F.slot_list_append PySem.F.type_list_append mt_append (pv 8) (pa_cons (pe_op op_add_str (pe_op op_add_str (pe_slice sl_str (pv 3) po_none (po_some (pv 4))) (pv 10)) (pv 11)) pa_nil))))))))
    (pss_one (ps_ret (pv 8)))))))), ?_⟩
  obtain ⟨R, p, u, many, rfl, k, hp, hm, hu0, q⟩ := h
  have hu0 : u + 100 ≤ 1000000000 := hu0
  refine ⟨⟨_, rfl⟩, ?_⟩
  refine ⟨_, rfl, R, p, u, _, rfl, k, hp, by decide, by decide, by show u ≤ 1000000000; omega, fun k0 u1 H1 k00 k01 hu1 hp1 f1 => ?_⟩
  refine ⟨k0, rfl, by omega, by omega, fun D hD => ?_⟩
  refine lc_any walk_range [p] (fun i ds R H => ∃ (cs : List Nat) (u' : Nat), ds = cs.map (fun c => PyData.str ⟨#[c]⟩) ∧ cs.length = i ∧ (∀ c ∈ cs, c ∈ cp letters) ∧ PenAt R H p u' ∧ u' ≤ u + 1 + i) f1.rh hD (by simp [Ne.symm (hp1.ne0 hD)]) (fun i ds R H hi ⟨cs, u', e1, e2, _⟩ => ?_) ⟨[], u1, rfl, rfl, by simp, hp1.new hD, by omega⟩ (fun _ _ _ _ _ => trivial) ?_ ?_ ?_
  · rw [e1, List.length_map, e2, sizeLine_eq]; omega
  · rintro i ds R2 H2 l r ⟨cs, u', e1, e2, e3, e4, e5⟩
    exact ⟨cs, u', e1, e2, e3, e4.put (hp1.ne0 hD), e5⟩
  · rintro i x R2 H2 H2' vs ds Cy Cn hi f2 r hv at_ ⟨cs, u', e1, e2, e3, e4, e5⟩ ⟨rfl, rfl⟩ ky kn
    refine ⟨rfl, iteT (B := Cn H2') ?_⟩
    refine ⟨_, rfl, _, rfl, .inr ⟨R2, p, u', _, rfl, f2.rh, e4, by decide, by decide, by show u' ≤ 1000000000; omega, fun k3 c u3 H3 hc hu3 hp3 f3 => ?_⟩⟩
    exact ky R2 H3 _ _ f3 (.str _) ⟨cs ++ [c], u3, by rw [e1, List.map_append]; rfl, by rw [List.length_append, e2]; rfl, by
      intro d hd
      rcases List.mem_append.mp hd with h | h
      · exact e3 d h
      · rw [List.mem_singleton.mp h]; exact List.mem_of_getElem? hc, hp3, by omega⟩
  · rintro R2 H2 vs ds f2 r hv at_ ⟨cs, u2, e1, e2, e3, hp2, e5⟩
    have f2 := f1.trans f2
    have e1' : ds = (cs.map fun c => (⟨#[c]⟩ : Str)).map PyData.str := by rw [e1, List.map_map]; rfl
    rw [e1'] at at_
    rw [at_.strs] at hv
    refine ⟨_, D, cs.map fun c => ⟨#[c]⟩, rfl, rfl, .inl (SqL.of hv), by
      rw [sum_ones, show ("" : Str).length = 0 from rfl, Nat.mul_zero]; omega, ?_⟩
    have hstem := cp_join0 ("" : Str) rfl cs
    show tSeq _ _ _ _ H2
    generalize Txt.join ("" : Str) (cs.map fun c => ⟨#[c]⟩) = stem at hstem ⊢
    have hsl := cp_len stem
    rw [hstem] at hsl
    have hsz := sizeLine_eq
    refine ⟨_, rfl, _, rfl, stem, rfl, by omega, _, _, rfl, rfl, ?_⟩
    refine ⟨R2, p, u2, _, rfl, f2.rh, hp2, by omega, by show _ ≤ (1000000000 : Int); omega, by show u2 ≤ 1000000000; omega, fun at_ u3 H3 a0 a1 hu3 hp3 f3 => ?_⟩
    have f3 := f2.trans f3
    refine ⟨_, rfl, R2, p, u3, _, rfl, f3.rh, hp3, by decide, by decide, by show u3 ≤ 1000000000; omega, fun cut u4 H4 c0 c1 hu4 hp4 f4 => ?_⟩
    have f4 := f3.trans f4
    refine ⟨_, rfl, R2, p, u4, _, rfl, f4.rh, hp4, by decide, by decide, by show u4 ≤ 1000000000; omega, fun fi u5 H5 b0 b1 hu5 hp5 f5 => ?_⟩
    have f5 := f4.trans f5
    refine ⟨_, _, _, rfl, ?_⟩
    refine ⟨_, rfl, by show 12 ≤ sizeLine; omega, fun L hL => ?_⟩
    have f6 := f5.newH (o := .lst (steps.map V.int)) hL
    refine .inl ⟨R2, p, u5, L, steps.map V.int, rfl, f6.rh, hp5.new hL, upd_same, by decide, by decide, by show u5 ≤ 1000000000; omega, fun kk x u6 H6 hx hu6 hp6 f7 => ?_⟩
    have f7 := f6.trans f7
    obtain ⟨st, hst, rfl⟩ : ∃ st, st ∈ steps ∧ V.int st = x := by
      have := List.mem_of_getElem? hx
      exact List.mem_map.mp this
    refine ⟨Nat.zero_le _, fun m hm0 => ?_⟩
    have f8 := f7.newH (o := .lst []) hm0
    have hp8 := hp6.new (o := .lst []) hm0
    refine ⟨_, _, rfl, ?_⟩
    have hmH : H m = none := f7.gone hm0
    have rm : R2 m = none := f7.rhn hm0
    have npm : p ≠ m := hp6.ne0 hm0
    have hm8 : upd H6 m (.lst []) m = some (.lst []) := upd_same
    show tSeq _ _ _ _ (upd H6 m (.lst []))
    generalize upd H6 m (.lst []) = H8 at f8 hp8 hm8 ⊢
    obtain ⟨a, rfl⟩ := Int.eq_ofNat_of_zero_le a0
    obtain ⟨cu, rfl⟩ := Int.eq_ofNat_of_zero_le c0
    have hma : a ≤ cs.length := by omega
    refine ⟨_, rfl, _, rfl, by omega, by omega, for_range (n := many) (fun i σ H' => ∃ x y z : Option V, σ = [some (.ref p), some (.int (many : Int)), some (.str letters), some (.str stem), some (.int (a : Int)), some (.int (cu : Int)), some (.int fi), some (.int st), some (.ref m), x, y, z] ∧ Fx [p] R H R2 H' ∧ PenAt R2 H' p u6 ∧ H' m = some (.lst (((List.range i).map (nameAt cs a cu fi st)).map V.str))) ⟨_, _, _, rfl, f8, hp8, hm8⟩ ?_ ?_⟩
    · rintro i σ H' hi ⟨x, y, z, rfl, g, gp, gm⟩
      have hst0 : 1 ≤ st ∧ st ≤ 25 := by
        have : ∀ s ∈ steps, 1 ≤ s ∧ s ≤ 25 := by decide
        exact this st hst
      have hlz : letters.length ≤ sizeLine := by rw [hsz]; decide
      have h1 : 0 ≤ (fi + st * (i : Int)) % 26 := Int.emod_nonneg _ (by decide)
      have h2 : (fi + st * (i : Int)) % 26 < 26 := Int.emod_lt_of_pos _ (by decide)
      have ei : (0 : Int) + (i : Int) = i := by omega
      rw [ei]
      refine ⟨_, rfl, _, rfl, _, rfl, _, rfl, _, _, rfl, rfl, .inl ⟨by omega, by omega⟩, _, _, rfl, rfl, _, _, rfl, rfl, (by decide : (0 : Int) < 26), letters, _, 97 + ((fi + st * (i : Int)) % 26).toNat, rfl, rfl, hlz, at_of2 (j := ((fi + st * (i : Int)) % 26).toNat) (by omega) (letters_at (by omega)), ?_⟩
      refine ⟨_, rfl, _, rfl, _, rfl, _, _, rfl, rfl, ⟨by decide, by decide⟩, letters, _, 97 + 0, rfl, rfl, hlz, at_of2 (j := 0) (by omega) (letters_at (by omega)), ?_⟩
      refine ⟨_, rfl, _, _, rfl, rfl, .inr ⟨_, rfl, ?_⟩⟩
      refine ⟨_, _, rfl, rfl, by rw [if_neg (by simp; omega)]; decide, by split <;> omega, _, _, rfl, rfl, by show 1 + 0 ≤ sizeLine; omega, ?_⟩
      have hsl2 : (cp stem).length ≤ 6 := by rw [hstem]; omega
      refine ⟨fun σ' H'' => ∃ t : Str, cp t = (if cu = 0 then cs.drop a else (cs.drop a).take (i % 3)) ∧ σ' = [some (.ref p), some (.int (many : Int)), some (.str letters), some (.str stem), some (.int (a : Int)), some (.int (cu : Int)), some (.int fi), some (.int st), some (.ref m), some (.int (i : Int)), some (.str ((⟨#[97 + ((fi + st * (i : Int)) % 26).toNat]⟩ : Str) ++ Str.empty)), some (.str t)] ∧ H'' = H', ?_, ?_⟩
      · refine ⟨_, rfl, rfl, _, rfl, ?_⟩
        rw [dec_int]
        refine iteB (fun h => ?_) (fun h => ?_)
        · have hc : ¬ cu = 0 := by
            intro e
            rw [e] at h
            cases h
          refine ⟨_, rfl, _, rfl, _, rfl, stem, rfl, by omega, _, rfl, _, _, rfl, rfl, (by decide : (0 : Int) < 3), _, rfl, _, rfl, ?_, ?_⟩
          · have := cp_len (cutS stem (some (a : Int)) none)
            rw [cp_cut_hi, List.length_drop] at this
            omega
          · refine ⟨_, ?_, rfl, rfl⟩
            rw [if_neg hc, show (i : Int) % 3 = ((i % 3 : Nat) : Int) from rfl, cp_cut_lo, cp_cut_hi, hstem]
        · have hc : cu = 0 := by
            have := eq_of_beq h
            omega
          refine ⟨_, rfl, _, rfl, _, rfl, stem, rfl, by omega, _, ?_, rfl, rfl⟩
          rw [if_pos hc, cp_cut_hi, hstem]
      · rintro σ' H'' ⟨t, ht, rfl, rfl⟩
        have htl : t.length ≤ 6 := by
          rw [← cp_len, ht]
          split
          · simp only [List.length_drop]; omega
          · simp only [List.length_take, List.length_drop]; omega
        have hcl : (cutS stem none (some (a : Int))).length ≤ 6 := by
          rw [← cp_len, cp_cut_lo, List.length_take]; omega
        have he : ((⟨#[97 + ((fi + st * (i : Int)) % 26).toNat]⟩ : Str) ++ Str.empty).length = 1 := rfl
        refine ⟨_, rfl, .inl ⟨rfl, _, SqL.of gm⟩, _, rfl, _, rfl, _, rfl, stem, rfl, by omega, _, rfl, _, _, rfl, rfl, by rw [he]; omega, _, rfl, _, _, rfl, rfl, ?_, ?_⟩
        · rw [← cp_len, cp_app, List.length_append, cp_len, cp_len, he]; omega
        · refine ⟨m, _, _, rfl, rfl, gm, by simp; omega, ?_⟩
          refine ⟨_, _, _, rfl, g.put rm (.inr hmH), gp.put npm, ?_⟩
          rw [upd_same, List.range_succ, List.map_append, List.map_append]
          have : (cutS stem none (some (a : Int)) ++ ((⟨#[97 + ((fi + st * (i : Int)) % 26).toNat]⟩ : Str) ++ Str.empty) ++ t) = nameAt cs a cu fi st i := by
            apply cp_inj
            rw [cp_app, cp_app, cp_cut_lo, cp_app, cp_one, cp_empty, cp_nameAt, hstem, ht]
            unfold nameL
            rw [List.append_nil]
          rw [this]
          rfl
    · rintro σ H' ⟨x, y, z, rfl, g, gp, gm⟩
      refine ⟨_, rfl, ?_⟩
      exact q ((List.range many).map (nameAt cs a cu fi st)) u6 _ _ m (by simp) (names_good e3 (by omega) hma hst hm) (by omega) (gp.still npm rm) (g.freeze gm hmH) upd_same
end
end Ld
/-! Fg: small. -/
namespace Ld
open PySem L2 PyProof.Rows
theorem isNameS_len {s : Str} (h : isNameS s = true) : 1 ≤ s.length ∧ s.length ≤ 8 := by
  unfold isNameS at h
  rw [Bool.and_eq_true, Bool.and_eq_true] at h
  exact ⟨of_decide_eq_true h.1.1, of_decide_eq_true h.1.2⟩
def pairD (q : Str × Str) : PyData := .tuple [.str q.1, .str q.2]
/-- what is being made -/
structure SmI (R H : Hp) (p : Addr) (ns : List Str) (b c e : Addr) (es : List Edg) (ps : List (Str × Str)) (u : Nat) (R' H' : Hp) : Prop where
  fx : Fx [p] R H R' H'
  pen : PenAt R' H' p u
  hb : R' b = some (.lst (ns.map V.str))
  hc : ∃ vs, H' c = some (.lst vs) ∧ AtL R' vs (es.map Edg.d)
  rc : R' c = none
  c0 : H c = none
  he : ∃ vs, H' e = some (.lst vs) ∧ AtL R' vs (ps.map pairD)
  re : R' e = none
  e0 : H e = none
  ce : c ≠ e
  gp : ∀ q ∈ ps, q.1 ∈ ns ∧ q.2 ∈ ns ∧ q.1 ≠ q.2
section
variable {R H : Hp} {p : Addr} {ns : List Str} {b c e : Addr} {es : List Edg} {ps : List (Str × Str)} {u u' : Nat} {R1 H1 R2 H2 : Hp}
theorem Fx.pn (f : Fx M R H R' H') (h : PenAt R' H' p u) (hM : ∀ a ∈ M, a = p) (hc : H c = none) (h0 : ∃ o, H p = some o) : p ≠ c := by
  obtain ⟨o, e⟩ := h0
  exact ne_of_none e hc
theorem SmI.step (s : SmI R H p ns b c e es ps u R1 H1) (f : Fx [p] R1 H1 R2 H2) (g : PenAt R2 H2 p u') (hp : ∃ o, H p = some o) : SmI R H p ns b c e es ps u' R2 H2 := by
  obtain ⟨o, ho⟩ := hp
  have pc : p ≠ c := ne_of_none ho s.c0
  have pe : p ≠ e := ne_of_none ho s.e0
  obtain ⟨vs, h1, h2⟩ := s.hc
  obtain ⟨ws, g1, g2⟩ := s.he
  exact ⟨s.fx.trans f, g, f.rr _ _ s.hb, ⟨vs, f.kp _ _ h1 (by simp [Ne.symm pc]), h2.up f.rr⟩, f.nr s.rc h1, s.c0, ⟨ws, f.kp _ _ g1 (by simp [Ne.symm pe]), g2.up f.rr⟩, f.nr s.re g1, s.e0, s.ce, s.gp⟩
theorem SmI.comp {D : Addr} {qs : List (Str × Str)} {vs : List V} (s : SmI R H p ns b c e es ps u R1 H1) (f : Fx [p] R1 H1 R2 H2) (g : PenAt R2 H2 p u') (hp : ∃ o, H p = some o) (hD : H1 D = none) (rD : R2 D = none) (hv : H2 D = some (.lst vs)) (a : AtL R2 vs (qs.map pairD))
    (gq : ∀ q ∈ qs, q.1 ∈ ns ∧ q.2 ∈ ns ∧ q.1 ≠ q.2) : SmI R H p ns b c D es qs u' R2 H2 := by
  obtain ⟨ws, h1, h2⟩ := s.hc
  have s2 := s.step f g hp
  exact ⟨s2.fx, s2.pen, s2.hb, s2.hc, s2.rc, s2.c0, ⟨vs, hv, a⟩, rD, s.fx.gone hD, ne_of_none h1 hD, gq⟩
theorem SmI.addE {x : Edg} {vs : List V} {y : V} (s : SmI R H p ns b c e es ps u R1 H1) (hp : ∃ o, H p = some o) (h : H1 c = some (.lst vs)) (a : AtL R1 vs (es.map Edg.d)) (hy : At R1 y x.d) : SmI R H p ns b c e (es ++ [x]) ps u R1 (upd H1 c (.lst (vs ++ [y]))) := by
  obtain ⟨o, ho⟩ := hp
  obtain ⟨ws, g1, g2⟩ := s.he
  exact ⟨s.fx.put s.rc (.inr s.c0), s.pen.put (ne_of_none ho s.c0), s.hb, ⟨_, upd_same, by rw [List.map_append]; exact a.app (.cons hy .nil)⟩, s.rc, s.c0, ⟨ws, by rw [upd_ne (Ne.symm s.ce)]; exact g1, g2⟩, s.re, s.e0, s.ce, s.gp⟩
theorem SmI.addP {x : Str × Str} {vs : List V} {y : V} (s : SmI R H p ns b c e es ps u R1 H1) (hp : ∃ o, H p = some o) (h : H1 e = some (.lst vs)) (a : AtL R1 vs (ps.map pairD)) (hy : At R1 y (pairD x)) (hx : x.1 ∈ ns ∧ x.2 ∈ ns ∧ x.1 ≠ x.2) : SmI R H p ns b c e es (ps ++ [x]) u R1 (upd H1 e (.lst (vs ++ [y]))) := by
  obtain ⟨o, ho⟩ := hp
  obtain ⟨ws, g1, g2⟩ := s.hc
  refine ⟨s.fx.put s.re (.inr s.e0), s.pen.put (ne_of_none ho s.e0), s.hb, ⟨ws, by rw [upd_ne s.ce]; exact g1, g2⟩, s.rc, s.c0, ⟨_, upd_same, by rw [List.map_append]; exact a.app (.cons hy .nil)⟩, s.re, s.e0, s.ce, ?_⟩
  intro q hq
  rcases List.mem_append.mp hq with h | h
  · exact s.gp q h
  · rw [List.mem_singleton.mp h]; exact hx
end
/-- a small network: names, edges that stand -/
def spSmall : Sp := fun vs H Q _ => ∃ (R : Hp) (p : Addr) (u : Nat), vs = [.ref p, .int 1, .int 6, .int 6] ∧ Same R H ∧ PenAt R H p u ∧ u + 3000 ≤ lim ∧
  ∀ (N : Net) (u' : Nat) (R' H' : Hp) (v : V), Good N → N.ns.length ≤ 6 → N.es.length ≤ 6 → u' ≤ u + 200 → PenAt R' H' p u' → Fx [p] R H R' H' → At R' v N.d → Q v H'
section
variable {P : Program} {w : World} {K : PySem.W.Frag} {mg : Str → Option Value} {base : Heap}
theorem ok_lsmall (T : Tx w K mg) : FnOk P w K mg base CX0 4 (a_lsmall K) (f_lsmall K) P_lsmall spSmall := by
  refine T.d_lsmall.ok sc_lsmall (fun vs H Q E h => by obtain ⟨_, _, _, rfl, _⟩ := h; rfl) (fun cdv A outer s H vs Q E hr h => ?_)
  have hu := hu_of hr
  have hu2 := hr.units
  have nd := sc_lsmall.nd
  refine ⟨_, PSs.nox (pss_cons (ps_set (i := 4) nd rfl (Or.inr rfl) (pe_call (ok_lnames T) (hr.mono (by decide)) (by rfl) T.g_lnames T.k_lnames T.b_lnames .nil pass0 (pa_cons (pv 0) (pa_cons (pe_op op_add (pv 1) (pe_call (ok_ldraw T) (hr.mono (by decide)) (by rfl) T.g_ldraw T.k_ldraw T.b_ldraw .nil pass0 (pa_cons (pv 0) (pa_cons (pe_op op_add (pe_op op_sub (pv 2) (pv 1)) pe_int) pa_nil)))) pa_nil))))
    (pss_cons (ps_asg (pe_tup (pa_cons (pe_call (ok_ldraw T) (hr.mono (by decide)) (by rfl) T.g_ldraw T.k_ldraw T.b_ldraw .nil pass0 (pa_cons (pv 0) (pa_cons pe_int pa_nil))) (pa_cons (pe_lst pa_nil) (pa_cons (pe_call (ok_ldraw T) (hr.mono (by decide)) (by rfl) T.g_ldraw T.k_ldraw T.b_ldraw .nil pass0 (pa_cons (pv 0) (pa_cons (pe_op op_add (pv 3) pe_int) pa_nil))) (pa_cons (pe_lst pa_nil) pa_nil))))) (pg_tup rfl (pgs_cons (pg_name (i := 5) nd rfl (Or.inl rfl)) (pgs_cons (pg_name (i := 6) nd rfl (Or.inl rfl)) (pgs_cons (pg_name (i := 7) nd rfl (Or.inl rfl)) (pgs_cons (pg_name (i := 8) nd rfl (Or.inl rfl)) pgs_nil))))))
    (pss_cut2 (ps_if (pt_cmpR op_eq (pv 5) pe_int (nomark _))
      (pss_one (ps_setLc (i := 8) (own := [("_law_k", 13)]) (g := (gName 13)) (tt := tYes) (by rfl) nd rfl rfl (sw_true rfl rfl rfl (by decide +kernel)) (pi_range2 (by rfl) T.f_range (pa_cons pe_int (pa_cons (pe_callB call_len_seq (by rfl) T.f_len boot_len (pa_cons (pv 4) pa_nil)) pa_nil))) (blkOk_by (N := N_lsmall) (sc := defScope st_lsmall) (by decide +kernel)) (fun _ _ _ _ _ => (pg_name (i := 13) nd rfl (Or.inl rfl))) (fun _ _ _ _ _ => pts_nil) (fun _ _ _ _ _ => (pe_tup (pa_cons (pe_ix (show IxR _ (rIxL K) from ix_list) (pv 4) (pv 13) (fun _ _ => rfl)) (pa_cons (pe_ix (show IxR _ (rIxL K) from ix_list) (pv 4) (pe_call (ok_ldraw T) (hr.mono (by decide)) (by rfl) T.g_ldraw T.k_ldraw T.b_ldraw .nil pass0 (pa_cons (pv 0) (pa_cons (pv 13) pa_nil))) (fun _ _ => rfl)) pa_nil))))))
      pss_nil)
    (pss_cut2 (ps_if (PW.pt (pw_and (pt_cmpR op_eq (pv 5) pe_int (nomark _)) (pw_and1 (pt_cmpR op_gt (pe_callB call_len_seq (by rfl) T.f_len boot_len (pa_cons (pv 4) pa_nil)) pe_int (nomark _)))))
      (pss_one (ps_setLc (i := 8) (own := [("_law_k", 13)]) (g := (gName 13)) (tt := tYes) (by rfl) nd rfl rfl (sw_true rfl rfl rfl (by decide +kernel)) (pi_range2 (by rfl) T.f_range (pa_cons (pe_callTy call_int1 (by rfl) T.f_int boot_int (pa_cons (pe_cmpR op_eq (pe_callB call_len_seq (by rfl) T.f_len boot_len (pa_cons (pv 4) pa_nil)) pe_int (nomark _)) pa_nil)) (pa_cons (pe_callB call_len_seq (by rfl) T.f_len boot_len (pa_cons (pv 4) pa_nil)) pa_nil))) (blkOk_by (N := N_lsmall) (sc := defScope st_lsmall) (by decide +kernel)) (fun _ _ _ _ _ => (pg_name (i := 13) nd rfl (Or.inl rfl))) (fun _ _ _ _ _ => pts_nil) (fun _ _ _ _ _ => (pe_tup (pa_cons (pe_ix (show IxR _ (rIxL K) from ix_list) (pv 4) (pv 13) (fun _ _ => rfl)) (pa_cons (pe_ix (show IxR _ (rIxL K) from ix_list) (pv 4) (pe_op op_sub (pv 13) pe_int) (fun _ _ => rfl)) pa_nil))))))
      pss_nil)
    (pss_cut2 (ps_for PassesOwn.never rfl (pi_range1 (by rfl) T.f_range (pa_cons (pe_ifExp (pt_cmpR op_gt (pe_callB call_len_seq (by rfl) T.f_len boot_len (pa_cons (pv 4) pa_nil)) pe_int (nomark _)) (pv 7) pe_int) pa_nil)) (pg_name (i := 9) nd rfl (Or.inl rfl))
      (pss_one (ps_expr (pe_bm PySem.F.plainAttrs_list PySem.F.slot_list_append PySem.F.type_list_append mt_append (pv 8) (pa_cons (pe_callTy call_tuple_of (by rfl) T.f_tuple boot_tuple (pa_cons (pe_slice sl_list (pe_call (ok_lshuffled T) (hr.mono (by decide)) (by rfl) T.g_lshuffled T.k_lshuffled T.b_lshuffled .nil pass0 (pa_cons (pv 0) (pa_cons (pv 4) pa_nil))) po_none (po_some pe_int)) pa_nil)) pa_nil)))))
    (pss_cons (ps_par (i := 10) (j := 11) (by rfl) nd rfl rfl (by decide) rfl rfl (pa_cons (pe_call (ok_ldraw T) (hr.mono (by decide)) (by rfl) T.g_ldraw T.k_ldraw T.b_ldraw .nil pass0 (pa_cons (pv 0) (pa_cons pe_int pa_nil))) (pa_cons (pe_call (ok_lpick T) (hr.mono (by decide)) (by rfl) T.g_lpick T.k_lpick T.b_lpick .nil pass0 (pa_cons (pv 0) (pa_cons (pe_lst (pa_cons pe_int (pa_cons pe_int (pa_cons pe_int (pa_cons pe_int (pa_cons pe_int (pa_cons pe_int pa_nil))))))) pa_nil))) pa_nil)) (by rfl))
    (pss_cons (ps_set (i := 12) nd rfl (Or.inl rfl) (pe_call (ok_lnames T) (hr.mono (by decide)) (by rfl) T.g_lnames T.k_lnames T.b_lnames .nil pass0 (pa_cons (pv 0) (pa_cons (pv 3) pa_nil))))
    (pss_cons (ps_for PassesOwn.never rfl (pi_range1 (by rfl) T.f_range (pa_cons (pe_callB (call_min2 rfl) (by rfl) T.f_min boot_min (pa_cons (pv 3) (pa_cons (pe_callB call_len_seq (by rfl) T.f_len boot_len (pa_cons (pv 8) pa_nil)) pa_nil))) pa_nil)) (pg_name (i := 13) nd rfl (Or.inl rfl))
      (pss_cons (ps_set (i := 14) nd rfl (Or.inl rfl) (pe_call (ok_ldraw T) (hr.mono (by decide)) (by rfl) T.g_ldraw T.k_ldraw T.b_ldraw .nil pass0 (pa_cons (pv 0) (pa_cons (pe_op op_add (pv 11) pe_int) pa_nil))))
      (pss_cut2 (ps_set (i := 14) nd rfl (Or.inl rfl) (pe_ifExp (pt_cmpR op_lt (pe_call (ok_ldraw T) (hr.mono (by decide)) (by rfl) T.g_ldraw T.k_ldraw T.b_ldraw .nil pass0 (pa_cons (pv 0) (pa_cons pe_int pa_nil))) (pv 10) (nomark _)) (pe_op op_sub pe_int (pv 14)) (pv 14)))
      (pss_one (ps_expr (pe_bm PySem.F.plainAttrs_list PySem.F.slot_list_append PySem.F.type_list_append mt_append (pv 6) (pa_cons (pe_tup (pa_cons (pe_ix ix_list (pv 12) (pv 13) (fun _ _ => rfl)) (pa_cons (pe_ix ix_tup (pe_ix ix_list (pv 8) (pv 13) (fun _ _ => rfl)) pe_int (fun _ _ => rfl)) (pa_cons (pe_ix ix_tup (pe_ix ix_list (pv 8) (pv 13) (fun _ _ => rfl)) pe_int (fun _ _ => rfl)) (pa_cons (pv 14) pa_nil))))) pa_nil)))))))
    (pss_one (ps_ret (pe_tup (pa_cons (pv 4) (pa_cons (pv 6) pa_nil))))))))))))), ?_⟩
  obtain ⟨R, p, u, rfl, k, hp, hu0, q⟩ := h
  have hu0 : u + 3000 ≤ 1000000000 := hu0
  have hp0 : ∃ o, H p = some o := by
    obtain ⟨_, _, _, e, _⟩ := hp.ob
    exact ⟨_, e⟩
  have hsz := sizeLine_eq
  refine ⟨_, rfl, _, rfl, _, rfl, _, rfl, _, rfl, _, _, rfl, rfl, _, _, rfl, rfl, R, p, u, _, rfl, k, hp, by decide, by decide, by show u ≤ 1000000000; omega, fun k0 u1 H1 k00 k01 hu1 hp1 f1 => ?_⟩
  obtain ⟨m0, rfl⟩ := Int.eq_ofNat_of_zero_le k00
  have hm0 : m0 < 6 := by omega
  refine ⟨_, _, rfl, rfl, R, p, u1, m0 + 1, by rw [show ((m0 + 1 : Nat) : Int) = 1 + (m0 : Int) from by omega]; rfl, f1.rh, hp1, by omega, by show _ ≤ 1000000000; omega, fun ns u2 R2 H2 b hnl hgn hu2' hp2 f2 hb => ?_⟩
  have f2 := f1.trans f2
  -- shape, edges, many, ends
  refine ⟨_, rfl, R2, p, u2, _, rfl, f2.rh, hp2, by decide, by decide, by show _ ≤ 1000000000; omega, fun shape u3 H3 s0 s1 hu3 hp3 f3 => ?_⟩
  have f3 := f2.trans f3
  refine ⟨Nat.zero_le _, fun c hc => ?_⟩
  have f4 := f3.newH (o := .lst []) hc
  have hp4 := hp3.new (o := .lst []) hc
  have hc4 : upd H3 c (.lst []) c = some (.lst []) := upd_same
  have c0 : H c = none := f3.gone hc
  have rc : R2 c = none := f3.rhn hc
  generalize upd H3 c (.lst []) = H4 at f4 hp4 hc4 ⊢
  refine ⟨_, rfl, _, rfl, _, _, rfl, rfl, R2, p, u3, _, rfl, f4.rh, hp4, by decide, by decide, by show _ ≤ 1000000000; omega, fun many u5 H5 m00 m01 hu5 hp5 f5 => ?_⟩
  have pc : p ≠ c := hp3.ne0 hc
  have hc5 : H5 c = some (.lst []) := f5.kp _ _ hc4 (by simp [Ne.symm pc])
  have f5 := f4.trans f5
  refine ⟨Nat.zero_le _, fun e he => ?_⟩
  have f6 := f5.newH (o := .lst []) he
  have hp6 := hp5.new (o := .lst []) he
  have ce : c ≠ e := ne_of_none hc5 he
  have hc6 : upd H5 e (.lst []) c = some (.lst []) := by rw [upd_ne ce]; exact hc5
  have he6 : upd H5 e (.lst []) e = some (.lst []) := upd_same
  have S6 : SmI R H p ns b c e [] [] u5 R2 (upd H5 e (.lst [])) := ⟨f6, hp6, hb, ⟨[], hc6, .nil⟩, rc, c0, ⟨[], he6, .nil⟩, f5.rhn he, f5.gone he, ce, by simp⟩
  generalize upd H5 e (.lst []) = H6 at S6 ⊢
  refine ⟨by show 4 ≤ sizeLine; omega, fun t ht => ?_⟩
  have f7 : Fx [p] R2 H6 R2 (upd H6 t (.tup [.int shape, .ref c, .int many, .ref e])) := (Fx.refl S6.fx.rh).newH ht
  have S7 := S6.step f7 (S6.pen.new ht) hp0
  have ht7 : upd H6 t (.tup [.int shape, .ref c, .int many, .ref e]) t = some (.tup [.int shape, .ref c, .int many, .ref e]) := upd_same
  show gTup _ _ _ _ _ (upd H6 t (.tup [.int shape, .ref c, .int many, .ref e])) _
  generalize upd H6 t (.tup [.int shape, .ref c, .int many, .ref e]) = H7 at S7 ht7 ⊢
  refine ⟨t, _, rfl, SqT.of ht7, rfl, _, _, rfl, _, _, rfl, _, _, rfl, _, _, rfl, rfl, ?_⟩
  obtain ⟨many, rfl⟩ := Int.eq_ofNat_of_zero_le m00
  -- shape 0
  refine ⟨fun σ' H' => ∃ (e : Addr) (ps : List (Str × Str)) (u' : Nat) (R' : Hp), σ' = [some (.ref p), some (.int 1), some (.int 6), some (.int 6), some (.ref b), some (.int shape), some (.ref c), some (.int (many : Int)), some (.ref e), none, none, none, none, none, none] ∧ SmI R H p ns b c e [] ps u' R' H' ∧ ps.length ≤ 6 ∧ u' ≤ u5 + 6, ?_, ?_⟩
  · refine ⟨_, rfl, rfl, _, rfl, ?_⟩
    refine iteB (fun _ => ⟨e, [], u5, R2, rfl, S7, by simp, by omega⟩) (fun _ => ?_)
    refine ⟨_, rfl, b, _, rfl, .inl (SqL.of (S7.fx.rh _ _ S7.hb)), _, _, rfl, ⟨by decide, by decide, by simp only [List.length_map]; omega, by simp only [List.length_map]; omega⟩, fun D hD => ?_⟩
    refine lc_any walk_range [p] (fun i ds R' H' => ∃ (qs : List (Str × Str)) (u' : Nat), ds = qs.map pairD ∧ qs.length = i ∧ (∀ q ∈ qs, q.1 ∈ ns ∧ q.2 ∈ ns ∧ q.1 ≠ q.2) ∧ PenAt R' H' p u' ∧ u' ≤ u5 + i) S7.fx.rh hD (by simp [Ne.symm (S7.pen.ne0 hD)]) (fun i ds R H hi ⟨cs, u', e1, e2, _⟩ => ?_) ⟨[], u5, rfl, rfl, by simp, S7.pen.new hD, by omega⟩ (fun _ _ _ _ _ => trivial) ?_ ?_ ?_
    · rw [e1, List.length_map, e2]
      simp only [List.length_map] at hi
      omega
    · rintro i ds R3 H3 l r ⟨cs, u', e1, e2, e3, e4, e5⟩
      exact ⟨cs, u', e1, e2, e3, e4.put (S7.pen.ne0 hD), e5⟩
    · rintro i x R3 H3 H3' vs ds Cy Cn hi g r hv at_ ⟨qs, u', e1, e2, e3, e4, e5⟩ ⟨rfl, rfl⟩ ky kn
      have hb3 := g.rr _ _ S7.hb
      have hi2 : i + 1 < ns.length := by simp only [List.length_map] at hi; omega
      refine ⟨rfl, iteT (B := Cn H3') ?_⟩
      refine ⟨_, rfl, _, rfl, b, _, _, .str ns[i + 1], rfl, rfl, SqL.of (g.rh _ _ hb3), at_of2 (j := i + 1) (by omega) (by rw [List.getElem?_map, List.getElem?_eq_getElem hi2]; rfl), ?_⟩
      refine ⟨_, rfl, _, rfl, _, rfl, R3, p, u', _, rfl, g.rh, e4, by omega, by show _ ≤ (1000000000 : Int); omega, by show u' ≤ 1000000000; omega, fun j u3 H4 j0 j1 hu4 hp4 f4 => ?_⟩
      obtain ⟨j, rfl⟩ := Int.eq_ofNat_of_zero_le j0
      have hj : j < ns.length := by omega
      refine ⟨b, _, _, .str ns[j], rfl, rfl, SqL.of (f4.rh _ _ hb3), at_of2 (j := j) (by omega) (by rw [List.getElem?_map, List.getElem?_eq_getElem hj]; rfl), ?_⟩
      refine ⟨by show 2 ≤ sizeLine; omega, fun t ht => ?_⟩
      have f5 := f4.newR (o := .tup [.str ns[i + 1], .str ns[j]]) ht
      refine ky _ _ _ (pairD (ns[i + 1], ns[j])) f5 (.tup upd_same (.cons (.str _) (.cons (.str _) .nil))) ⟨qs ++ [(ns[i + 1], ns[j])], u3, by rw [e1, List.map_append]; rfl, by rw [List.length_append, e2]; rfl, ?_, (hp4.new ht).still (hp4.ne0 ht) (f4.rhn ht), by omega⟩
      intro q hq
      rcases List.mem_append.mp hq with h | h
      · exact e3 q h
      · rw [List.mem_singleton.mp h]
        refine ⟨List.getElem_mem _, List.getElem_mem _, fun z => ?_⟩
        have := (List.getElem_inj hgn.2).mp z
        omega
    · rintro R3 H3 vs ds g r hv at_ ⟨qs, u', e1, e2, e3, e4, e5⟩
      rw [e1] at at_
      have hl : qs.length < 6 := by
        rw [e2]
        simp only [List.length_map]
        omega
      exact ⟨D, qs, u', R3, rfl, S7.comp g e4 hp0 hD r hv at_ e3, by omega, by omega⟩
  rintro σ1 H8 ⟨e, ps, u6, R6, rfl, S8, hps, hu6⟩
  refine ⟨fun σ' H' => ∃ (e : Addr) (ps : List (Str × Str)) (u' : Nat) (R' : Hp), σ' = [some (.ref p), some (.int 1), some (.int 6), some (.int 6), some (.ref b), some (.int shape), some (.ref c), some (.int (many : Int)), some (.ref e), none, none, none, none, none, none] ∧ SmI R H p ns b c e [] ps u' R' H' ∧ ps.length ≤ 6 ∧ u' ≤ u5 + 6, ?_, ?_⟩
  · refine ⟨_, rfl, rfl, _, rfl, ?_⟩
    refine iteB (fun _ => iteF ⟨e, ps, u6, R6, rfl, S8, hps, hu6⟩) (fun _ => ?_)
    refine ⟨_, rfl, b, _, rfl, .inl (SqL.of (S8.fx.rh _ _ S8.hb)), _, _, rfl, rfl, _, rfl, ?_⟩
    refine iteB (fun _ => ⟨e, ps, u6, R6, rfl, S8, hps, hu6⟩) (fun hgt => ?_)
    have hgt : 1 < ns.length := by
      have h := of_decide_eq_true hgt
      simp only [List.length_map] at h
      omega
    refine ⟨_, rfl, b, _, rfl, .inl (SqL.of (S8.fx.rh _ _ S8.hb)), rfl, .inr ⟨_, rfl, ?_⟩⟩
    obtain ⟨lo, hlo, hlo2, hlo3⟩ : ∃ lo : Nat, (if decide (V.int ((ns.map V.str).length : Int) = V.int 2) = true then (1 : Int) else 0) = (lo : Int) ∧ lo ≤ 1 ∧ (ns.length = 2 → lo = 1) := by
      by_cases h2 : ns.length = 2
      · exact ⟨1, by rw [List.length_map, h2]; rfl, by omega, fun _ => rfl⟩
      · exact ⟨0, by rw [if_neg (by simpa using by omega)]; rfl, by omega, fun h => absurd h h2⟩
    rw [hlo]
    refine ⟨_, rfl, b, _, rfl, .inl (SqL.of (S8.fx.rh _ _ S8.hb)), _, _, rfl, ⟨by omega, by omega, by simp only [List.length_map]; omega, by simp only [List.length_map]; omega⟩, fun D hD => ?_⟩
    have hnn : (((ns.map V.str).length : Int) - (lo : Int)).toNat = ns.length - lo := by simp only [List.length_map]; omega
    rw [hnn]
    refine lc_any walk_range [p] (fun i ds R' H' => ∃ (qs : List (Str × Str)), ds = qs.map pairD ∧ qs.length = i ∧ (∀ q ∈ qs, q.1 ∈ ns ∧ q.2 ∈ ns ∧ q.1 ≠ q.2) ∧ PenAt R' H' p u6) S8.fx.rh hD (by simp [Ne.symm (S8.pen.ne0 hD)]) (fun i ds R H hi ⟨cs, e1, e2, _⟩ => ?_) ⟨[], rfl, rfl, by simp, S8.pen.new hD⟩ (fun _ _ _ _ _ => trivial) ?_ ?_ ?_
    · rw [e1, List.length_map, e2]; omega
    · rintro i ds R3 H3 l r ⟨cs, e1, e2, e3, e4⟩
      exact ⟨cs, e1, e2, e3, e4.put (S8.pen.ne0 hD)⟩
    · rintro i x R3 H3 H3' vs ds Cy Cn hi g r hv at_ ⟨qs, e1, e2, e3, e4⟩ ⟨rfl, rfl⟩ ky kn
      have hb3 := g.rr _ _ S8.hb
      have hi2 : lo + i < ns.length := by omega
      refine ⟨rfl, iteT (B := Cn H3') ?_⟩
      refine ⟨_, rfl, _, rfl, b, _, _, .str ns[lo + i], rfl, rfl, SqL.of (g.rh _ _ hb3), at_of2 (j := lo + i) (by omega) (by rw [List.getElem?_map, List.getElem?_eq_getElem hi2]; rfl), ?_⟩
      obtain ⟨y, hy, hyn, hyne⟩ : ∃ y : Str, atI (ns.map V.str) ((lo : Int) + (i : Int) - 1) = some (.str y) ∧ y ∈ ns ∧ ns[lo + i] ≠ y := by
        by_cases hz : lo + i = 0
        · have hlast : ns.length - 1 < ns.length := by omega
          refine ⟨ns[ns.length - 1], ?_, List.getElem_mem _, fun z => ?_⟩
          · have e1 : (lo : Int) + (i : Int) - 1 = -1 := by omega
            rw [e1]
            unfold atI ixN
            rw [if_neg (by decide), if_pos (by simp only [List.length_map]; omega)]
            show (ns.map V.str)[_]? = _
            rw [show (-1 + ((ns.map V.str).length : Int)).toNat = ns.length - 1 by simp only [List.length_map]; omega, List.getElem?_map, List.getElem?_eq_getElem hlast]
            rfl
          · have := (List.getElem_inj hgn.2).mp z
            omega
        · have hj : lo + i - 1 < ns.length := by omega
          refine ⟨ns[lo + i - 1], at_of2 (j := lo + i - 1) (by omega) (by rw [List.getElem?_map, List.getElem?_eq_getElem hj]; rfl), List.getElem_mem _, fun z => ?_⟩
          have := (List.getElem_inj hgn.2).mp z
          omega
      refine ⟨_, rfl, _, rfl, _, _, rfl, rfl, b, _, _, .str y, rfl, rfl, SqL.of (g.rh _ _ hb3), hy, ?_⟩
      refine ⟨by show 2 ≤ sizeLine; omega, fun t ht => ?_⟩
      have f5 := (Fx.refl (M := [p]) g.rh).newR (o := .tup [.str ns[lo + i], .str y]) ht
      refine ky _ _ _ (pairD (ns[lo + i], y)) f5 (.tup upd_same (.cons (.str _) (.cons (.str _) .nil))) ⟨qs ++ [(ns[lo + i], y)], by rw [e1, List.map_append]; rfl, by rw [List.length_append, e2]; rfl, ?_, (e4.new ht).still (e4.ne0 ht) (g.rhn ht)⟩
      intro q hq
      rcases List.mem_append.mp hq with h | h
      · exact e3 q h
      · rw [List.mem_singleton.mp h]
        exact ⟨List.getElem_mem _, hyn, hyne⟩
    · rintro R3 H3 vs ds g r hv at_ ⟨qs, e1, e2, e3, e4⟩
      rw [e1] at at_
      exact ⟨D, qs, u6, R3, rfl, S8.comp g e4 hp0 hD r hv at_ e3, by omega, by omega⟩
  rintro σ1 H9 ⟨e, ps, u7, R7, rfl, S9, hps, hu7⟩
  refine ⟨fun σ' H' => ∃ (ps : List (Str × Str)) (u' : Nat) (R' : Hp) (z : Option V), σ' = [some (.ref p), some (.int 1), some (.int 6), some (.int 6), some (.ref b), some (.int shape), some (.ref c), some (.int (many : Int)), some (.ref e), z, none, none, none, none, none] ∧ SmI R H p ns b c e [] ps u' R' H' ∧ ps.length ≤ 12 ∧ u' ≤ u5 + 42, ?_, ?_⟩
  · refine ⟨_, rfl, b, _, rfl, .inl (SqL.of (S9.fx.rh _ _ S9.hb)), _, _, rfl, rfl, _, rfl, ?_⟩
    refine iteB (fun _ => ?_) (fun hgt => ?_)
    · exact ⟨_, rfl, by decide, by decide, for_range (n := 0) (fun i σ H' => σ = [some (.ref p), some (.int 1), some (.int 6), some (.int 6), some (.ref b), some (.int shape), some (.ref c), some (.int (many : Int)), some (.ref e), none, none, none, none, none, none] ∧ H' = H9) ⟨rfl, rfl⟩ (fun i _ _ hi => by omega) (fun σ H' ⟨e1, e2⟩ => by
        rw [e1, e2]
        exact ⟨ps, u7, R7, none, rfl, S9, by omega, by omega⟩)⟩
    have hgt : 1 < ns.length := by
      have h := of_decide_eq_true hgt
      simp only [List.length_map] at h
      omega
    refine ⟨_, rfl, _, rfl, by omega, by omega, for_range (n := many) (fun i σ H' => ∃ (ps : List (Str × Str)) (u' : Nat) (R' : Hp) (z : Option V), σ = [some (.ref p), some (.int 1), some (.int 6), some (.int 6), some (.ref b), some (.int shape), some (.ref c), some (.int (many : Int)), some (.ref e), z, none, none, none, none, none] ∧ SmI R H p ns b c e [] ps u' R' H' ∧ ps.length ≤ 6 + i ∧ u' ≤ u5 + 6 + 6 * i) ⟨ps, u7, R7, none, rfl, S9, by omega, by omega⟩ ?_ ?_⟩
    · rintro i σ H' hi ⟨ps, u8, R8, z, rfl, S, hps, hu8⟩
      obtain ⟨ws, g1, g2⟩ := S.he
      refine ⟨_, rfl, .inl ⟨rfl, _, SqL.of g1⟩, _, rfl, _, rfl, R8, p, u8, b, ns, rfl, S.fx.rh, S.pen, S.hb, by omega, by show _ ≤ 1000000000; omega, fun ms u9 R9 H10 m perm hu9 hp10 f10 hm => ?_⟩
      have S10 := S.step f10 hp10 hp0
      refine ⟨_, rfl, m, _, rfl, SqL.of (f10.rh _ _ hm), fun l hl => ?_⟩
      have f11 : Fx [p] R9 H10 R9 (upd H10 l (.lst (cutV (ms.map V.str) none (some 2)))) := (Fx.refl S10.fx.rh).newH hl
      have S11 := S10.step f11 (S10.pen.new hl) hp0
      refine ⟨l, _, rfl, .inl ⟨SqL.of upd_same, fun t ht => ?_⟩⟩
      have f12 := (Fx.refl (M := [p]) S11.fx.rh).newR (o := .tup (cutV (ms.map V.str) none (some 2))) ht
      have S12 := S11.step f12 ((S11.pen.new ht).still (S11.pen.ne0 ht) (S11.fx.rhn ht)) hp0
      have ht12 : (upd R9 t (.tup (cutV (ms.map V.str) none (some 2)))) t = some (.tup (cutV (ms.map V.str) none (some 2))) := upd_same
      generalize upd (upd H10 l (.lst (cutV (ms.map V.str) none (some 2)))) t (.tup (cutV (ms.map V.str) none (some 2))) = H12 at S12 ⊢
      generalize upd R9 t (.tup (cutV (ms.map V.str) none (some 2))) = R12 at S12 ht12 ⊢
      have hml := perm.length_eq
      have hmn : ms.Nodup := perm.nodup_iff.mpr hgn.2
      match ms, hml, hmn with
      | [], hml, _ => simp at hml; omega
      | [_], hml, _ => simp at hml; omega
      | x :: y :: r, hml, hmn =>
        have ec : cutV ((x :: y :: r).map V.str) none (some 2) = [.str x, .str y] := by
          unfold cutV
          rw [HT.sIx_none, show (some (2 : Int)) = some ((2 : Nat) : Int) from rfl, HT.sIx_nat]
          simp
        rw [ec] at ht12
        obtain ⟨ws, g1, g2⟩ := S12.he
        have hw : ws.length < sizeLine := by
          have := g2.length
          simp only [List.length_map] at this
          omega
        refine ⟨e, ws, _, rfl, rfl, g1, hw, ps ++ [(x, y)], u9, R12, _, rfl, S12.addP (x := (x, y)) hp0 g1 g2 (.tup ht12 (.cons (.str _) (.cons (.str _) .nil))) ⟨?_, ?_, ?_⟩, by simp; omega, by omega⟩
        · exact perm.mem_iff.mp (by simp)
        · exact perm.mem_iff.mp (by simp)
        · intro z
          rw [List.nodup_cons] at hmn
          exact hmn.1 (by simp only at z; rw [z]; simp)
    · rintro σ H' ⟨ps, u8, R8, z, rfl, S, hps, hu8⟩
      exact ⟨ps, u8, R8, z, rfl, S, by omega, by omega⟩
  rintro σ1 H10 ⟨ps, u8, R8, z, rfl, S10, hps, hu8⟩
  -- below, bound
  refine ⟨_, rfl, R8, p, u8, _, rfl, S10.fx.rh, S10.pen, by decide, by decide, by show _ ≤ 1000000000; omega, fun below u9 H11 b0 b1 hu9 hp11 f11 => ?_⟩
  have S11 := S10.step f11 hp11 hp0
  refine ⟨_, rfl, by show 6 ≤ sizeLine; omega, fun L hL => ?_⟩
  have f12 : Fx [p] R8 H11 R8 (upd H11 L (.lst [.int 0, .int 1, .int 2, .int 5, .int 5, .int 1000000])) := (Fx.refl S11.fx.rh).newH hL
  have S12 := S11.step f12 (S11.pen.new hL) hp0
  refine .inl ⟨R8, p, u9, L, _, rfl, S12.fx.rh, S12.pen, upd_same, by simp, by simp, by show u9 ≤ 1000000000; omega, fun kk x u10 H13 hx hu10 hp13 f13 => ?_⟩
  have S13 := S12.step f13 hp13 hp0
  obtain ⟨bound, hb0, hb1, rfl⟩ : ∃ bound : Int, 0 ≤ bound ∧ bound ≤ 1000000 ∧ V.int bound = x := by
    have := List.mem_of_getElem? hx
    simp only [List.mem_cons, List.not_mem_nil, or_false] at this
    rcases this with rfl | rfl | rfl | rfl | rfl | rfl <;> exact ⟨_, by decide, by decide, rfl⟩
  refine ⟨_, _, rfl, ?_⟩
  refine ⟨_, rfl, _, rfl, R8, p, u10, 6, rfl, S13.fx.rh, hp13, by decide, by show _ ≤ 1000000000; omega, fun nh u11 R14 H14 nb hnh hgnh hu11 hp14 f14 hnb => ?_⟩
  have S14 := S13.step f14 hp14 hp0
  have hnb14 := hnb
  obtain ⟨ws, g1, g2⟩ := S14.he
  have hwl : ws.length = ps.length := by rw [g2.length, List.length_map]
  refine ⟨_, rfl, _, rfl, e, ws, rfl, .inl (SqL.of g1), _, _, rfl, ?_⟩
  have hmin : (if ((ws.length : Int) < 6) then (ws.length : Int) else 6) = ((min 6 ps.length : Nat) : Int) := by rw [hwl]; split <;> omega
  rw [hmin]
  refine ⟨_, rfl, by omega, by omega, for_range (n := min 6 ps.length) (fun i σ H' => ∃ (es : List Edg) (u' : Nat) (R' : Hp) (k' l' : Option V), σ = [some (.ref p), some (.int 1), some (.int 6), some (.int 6), some (.ref b), some (.int shape), some (.ref c), some (.int (many : Int)), some (.ref e), z, some (.int below), some (.int bound), some (.ref nb), k', l'] ∧ SmI R H p ns b c e es ps u' R' H' ∧ R' nb = some (.lst (nh.map V.str)) ∧ es.map Edg.n = nh.take i ∧ (∀ x ∈ es, isEdge x.d ns = true) ∧ u' ≤ u11 + 2 * i) ⟨[], u11, R14, _, _, rfl, S14, hnb, rfl, by simp, by omega⟩ ?_ ?_⟩
  · rintro i σ H' hi ⟨es, u12, R12, k', l', rfl, S, hnbR, hen, hee, hu12⟩
    have hi6 : i < 6 := by omega
    have hip : i < ps.length := by omega
    refine ⟨_, rfl, _, rfl, _, _, rfl, rfl, R12, p, u12, _, rfl, S.fx.rh, S.pen, by omega, by show _ ≤ (1000000000 : Int); omega, by show _ ≤ 1000000000; omega, fun ln u13 H13 l0 l1 hu13 hp13 f13 => ?_⟩
    have S13 := S.step f13 hp13 hp0
    refine ⟨fun σ' H' => ∃ (ln : Int) (u' : Nat), -1000000 ≤ ln ∧ ln ≤ 1000000 ∧ u' ≤ u12 + 2 ∧ SmI R H p ns b c e es ps u' R12 H' ∧ σ' = [some (.ref p), some (.int 1), some (.int 6), some (.int 6), some (.ref b), some (.int shape), some (.ref c), some (.int (many : Int)), some (.ref e), z, some (.int below), some (.int bound), some (.ref nb), some (.int (0 + (i : Int))), some (.int ln)], ?_, ?_⟩
    · refine ⟨_, rfl, R12, p, u13, _, rfl, S13.fx.rh, S13.pen, by decide, by decide, by show _ ≤ 1000000000; omega, fun j u14 H14 j0 j1 hu14 hp14 f14 => ?_⟩
      have S14 := S13.step f14 hp14 hp0
      refine ⟨_, rfl, _, _, rfl, rfl, _, rfl, ?_⟩
      refine iteB (fun _ => ?_) (fun _ => ?_)
      · exact ⟨_, rfl, ln, u14, by omega, by omega, by omega, S14, rfl⟩
      · exact ⟨_, rfl, _, _, rfl, rfl, 0 - ln, u14, by omega, by omega, by omega, S14, rfl⟩
    · rintro σ' H' ⟨ln, u14, l0, l1, hu14, S, rfl⟩
      obtain ⟨ws, g1, g2⟩ := S.he
      obtain ⟨vs, h1, h2⟩ := S.hc
      have hinh : i < nh.length := by omega
      obtain ⟨va, hva, hat⟩ := g2.get' (i := i) (d := pairD ps[i]) (by rw [List.getElem?_map, List.getElem?_eq_getElem hip]; rfl)
      obtain ⟨⟨gx, gy, gne⟩⟩ : (ps[i].1 ∈ ns ∧ ps[i].2 ∈ ns ∧ ps[i].1 ≠ ps[i].2) ∧ True := ⟨S.gp _ (List.getElem_mem _), trivial⟩
      cases hat with
      | tup et hts =>
        rename_i ta tvs
        cases hts with
        | cons h5 h6 =>
          cases h6 with
          | cons h7 h8 =>
            cases h5
            cases h7
            cases h8
            have sT := SqT.of (K := K) (S.fx.rh _ _ et)
            refine ⟨_, rfl, .inl ⟨rfl, _, SqL.of h1⟩, ?_⟩
            refine ⟨_, rfl, _, rfl, nb, _, _, .str nh[i], rfl, rfl, SqL.of (S.fx.rh _ _ hnbR), at_of2 (j := i) (by omega) (by rw [List.getElem?_map, List.getElem?_eq_getElem hinh]; rfl), ?_⟩
            refine ⟨_, rfl, _, rfl, e, _, _, _, rfl, rfl, SqL.of g1, at_of2 (j := i) (by omega) hva, ta, _, _, _, rfl, rfl, sT, at_of2 (j := 0) (by omega) rfl, ?_⟩
            refine ⟨_, rfl, _, rfl, e, _, _, _, rfl, rfl, SqL.of g1, at_of2 (j := i) (by omega) hva, ta, _, _, _, rfl, rfl, sT, at_of2 (j := 1) (by omega) rfl, ?_⟩
            refine ⟨_, rfl, by show 4 ≤ sizeLine; omega, fun t ht => ?_⟩
            have f15 := (Fx.refl (M := [p]) S.fx.rh).newR (o := .tup [.str nh[i], .str ps[i].1, .str ps[i].2, .int ln]) ht
            have S15 := S.step f15 ((S.pen.new ht).still (S.pen.ne0 ht) (S.fx.rhn ht)) hp0
            have hvl : vs.length < sizeLine := by
              have := h2.length
              have h3 := congrArg List.length hen
              simp only [List.length_map, List.length_take] at this h3
              omega
            have h1' : upd H' t (.tup [.str nh[i], .str ps[i].1, .str ps[i].2, .int ln]) c = some (.lst vs) := by rw [upd_ne (ne_of_none h1 ht)]; exact h1
            refine ⟨c, vs, _, rfl, rfl, h1', hvl, es ++ [⟨nh[i], ps[i].1, ps[i].2, ln⟩], u14, _, _, _, rfl, S15.addE (x := ⟨nh[i], ps[i].1, ps[i].2, ln⟩) hp0 h1' (h2.up f15.rr) (.tup upd_same (.cons (.str _) (.cons (.str _) (.cons (.str _) (.cons (.int _) .nil))))), f15.rr _ _ hnbR, ?_, ?_, by omega⟩
            · rw [List.map_append, hen, take_snoc _ _ hinh]; rfl
            · intro x hx
              rcases List.mem_append.mp hx with hx | hx
              · exact hee x hx
              · rw [List.mem_singleton.mp hx]
                exact isEdge_iff.mpr ⟨hgnh.1 _ (List.getElem_mem _), hgn.1 _ gx, hgn.1 _ gy, gx, gy, gne, l0, l1⟩
  · rintro σ H' ⟨es, u12, R12, k', l', rfl, S, hnbR, hen, hee, hu12⟩
    obtain ⟨vs, h1, h2⟩ := S.hc
    refine ⟨_, rfl, _, rfl, by show 2 ≤ sizeLine; omega, fun t ht => ?_⟩
    have f16 := ((Fx.refl (M := [p]) S.fx.rh).newR (o := .tup [.ref b, .ref c]) ht)
    have S16 := S.step f16 ((S.pen.new ht).still (S.pen.ne0 ht) (S.fx.rhn ht)) hp0
    have h1' : upd H' t (.tup [.ref b, .ref c]) c = some (.lst vs) := by rw [upd_ne (ne_of_none h1 ht)]; exact h1
    have f17 := S16.fx.freeze h1' S16.c0
    have hk : Same (upd R12 t (.tup [.ref b, .ref c])) (upd (upd R12 t (.tup [.ref b, .ref c])) c (.lst vs)) := fun a o e => by
      by_cases z : a = c
      · rw [z, S16.rc] at e; cases e
      · rw [upd_ne z]; exact e
    have pc2 : p ≠ c := by
      obtain ⟨o, ho⟩ := hp0
      exact ne_of_none ho S.c0
    have hel : es.length ≤ 6 := by
      have h3 := congrArg List.length hen
      simp only [List.length_map, List.length_take] at h3
      omega
    refine q ⟨ns, es⟩ u12 _ _ _ ⟨hgn.1, hgn.2, by show 1 ≤ ns.length; omega, by show ns.length ≤ 40; omega, hee, by show (es.map Edg.n).Nodup; rw [hen]; exact List.Nodup.sublist (List.take_sublist _ _) hgnh.2, by show es.length ≤ 100; omega, fits_small hee (by omega)⟩ (by show ns.length ≤ 6; omega) hel (by omega) (S16.pen.still pc2 S16.rc) f17 ?_
    refine .tup (hk _ _ upd_same) (.cons (.lst (hk _ _ S16.hb) (atL_strs _ ns)) (.cons (.lst upd_same ((h2.up f16.rr).up hk)) .nil))
end
end Ld
/-! Fh: odd values. -/
namespace Ld
open PySem L2 PyProof.Rows
def s_ (x : String) : PyData := .str x
def odd1 : List V := [.non, .bl true, .bl false, .int 0, .int 1, .int (-1), .int 1000000, .int ((10 : Int) ^ (60 : Int).toNat - 1), .str "", .str "a", .str "A", .str "a b", .str "a1", .str "abcdefgh", .str "abcdefghi"]
def oddD1 : List PyData := [.none, .bool true, .bool false, .int 0, .int 1, .int (-1), .int 1000000, .int ((10 : Int) ^ (60 : Int).toNat - 1), .str "", .str "a", .str "A", .str "a b", .str "a1", .str "abcdefgh", .str "abcdefghi"]
def oddD2 : List PyData := [.tuple [], .list [], .dict [], .tuple [s_ "a"], .list [s_ "a"], .dict [(s_ "a", .int 1)], .tuple [.tuple []], .list [.list [s_ "a"]], .tuple [.int 1, .int 2, .int 3, .int 4], .tuple [s_ "e", s_ "a", s_ "b", .int 1], s_ "zz"]
/-- an odd value -/
def OddV (d : PyData) : Prop := d ∈ oddD1 ++ oddD2
def spOdd : Sp := fun vs H Q _ => ∃ (R : Hp) (p : Addr) (u : Nat), vs = [.ref p] ∧ Same R H ∧ PenAt R H p u ∧ u + 100 ≤ lim ∧
  ∀ (d : PyData) (v : V) (u' : Nat) (R' H' : Hp), OddV d → At R' v d → u' ≤ u + 1 → PenAt R' H' p u' → Fx [p] R H R' H' → Q v H'
theorem Fx.new1 {M : List Addr} {R H R1 H1 : Hp} {a : Addr} {o : HO} (f : Fx M R H R1 H1) (h : H1 a = none) : ∃ R2, Fx M R H R2 (upd H1 a o) ∧ R2 a = some o ∧ Same R1 R2 := by
  refine ⟨upd R1 a o, f.newR h, upd_same, fun b x e => ?_⟩
  rw [upd_ne (ne_of_none (f.rh _ _ e) h)]
  exact e
theorem Fx.fz {M : List Addr} {R H R1 H1 : Hp} {a : Addr} {o : HO} (f : Fx M R H R1 H1) (h : H1 a = some o) (n : H a = none) (r : R1 a = none) : ∃ R2, Fx M R H R2 H1 ∧ R2 a = some o ∧ Same R1 R2 := by
  refine ⟨upd R1 a o, f.freeze h n, upd_same, fun b x e => ?_⟩
  rw [upd_ne (fun z => by rw [z, r] at e; cases e)]
  exact e
section
variable {P : Program} {w : World} {K : PySem.W.Frag} {mg : Str → Option Value} {base : Heap}
theorem at_odd1 (R : Hp) : AtL R odd1 oddD1 := by
  unfold odd1 oddD1
  repeat first | exact .nil | refine .cons (by first | exact .non | exact .bl _ | exact .int _ | exact .str _) ?_
theorem ok_lodd (T : Tx w K mg) : FnOk P w K mg base CX0 3 (a_lodd K) (f_lodd K) P_lodd spOdd := by
  refine T.d_lodd.ok sc_lodd (fun vs H Q E h => by obtain ⟨_, _, _, rfl, _⟩ := h; rfl) (fun cdv A outer s H vs Q E hr h => ?_)
  have hu := hu_of hr
  have nd := sc_lodd.nd
  refine ⟨_, PSs.nox (pss_cons (ps_set (i := 1) nd rfl (Or.inl rfl) (pe_lst (pa_cons pe_non (pa_cons pe_bl (pa_cons pe_bl (pa_cons pe_int (pa_cons pe_int (pa_cons (pe_un un_neg pe_int) (pa_cons pe_int (pa_cons (pe_op op_sub (pe_op op_pow pe_int pe_int) pe_int) (pa_cons pe_str (pa_cons pe_str (pa_cons pe_str (pa_cons pe_str (pa_cons pe_str (pa_cons pe_str (pa_cons pe_str pa_nil)))))))))))))))))
    (pss_cons (ps_set (i := 1) nd rfl (Or.inl rfl) (pe_op op_cat (pv 1) (pe_lst (pa_cons (pe_tup pa_nil) (pa_cons (pe_lst pa_nil) (pa_cons pe_dnewK (pa_cons (pe_tup (pa_cons pe_str pa_nil)) (pa_cons (pe_lst (pa_cons pe_str pa_nil)) (pa_cons (pe_disp (pps_cons pe_str pe_int pps_nil) (by rfl) (by rfl) (fun z => by cases z) (by decide)) (pa_cons (pe_tup (pa_cons (pe_tup pa_nil) pa_nil)) (pa_cons (pe_lst (pa_cons (pe_lst (pa_cons pe_str pa_nil)) pa_nil)) (pa_cons (pe_tup (pa_cons pe_int (pa_cons pe_int (pa_cons pe_int (pa_cons pe_int pa_nil))))) (pa_cons (pe_tup (pa_cons pe_str (pa_cons pe_str (pa_cons pe_str (pa_cons pe_int pa_nil))))) (pa_cons pe_str pa_nil))))))))))))))
    (pss_one (ps_ret (pe_call (ok_lpick T) (hr.mono (by decide)) (by rfl) T.g_lpick T.k_lpick T.b_lpick .nil pass0 (pa_cons (pv 0) (pa_cons (pv 1) pa_nil))))))), ?_⟩
  obtain ⟨R, p, u, rfl, k, hp, hu0, q⟩ := h
  have hu0 : u + 100 ≤ 1000000000 := hu0
  have hsz := sizeLine_eq
  refine ⟨_, rfl, ?_⟩
  refine ⟨_, _, rfl, rfl, ⟨by decide, by decide, by decide⟩, _, _, rfl, rfl, by show 15 ≤ sizeLine; omega, fun L hL => ?_⟩
  obtain ⟨R0, f0, e0, m0⟩ := (Fx.refl (M := []) k).new1 (o := .lst odd1) hL
  show tSeq _ _ _ _ (upd H L (.lst odd1))
  generalize upd H L (.lst odd1) = H0 at f0 ⊢
  refine ⟨_, rfl, Nat.zero_le _, fun a1 h1 => ?_⟩
  obtain ⟨R1, f1, e1, m1⟩ := f0.new1 (o := .tup []) h1
  refine ⟨Nat.zero_le _, fun a2 h2 => ?_⟩
  obtain ⟨R2, f2, e2, m2⟩ := f1.new1 (o := .lst []) h2
  refine fun a3 h3 => ?_
  obtain ⟨R3, f3, e3, m3⟩ := f2.new1 (o := .dK []) h3
  refine ⟨by show 1 ≤ sizeLine; omega, fun a4 h4 => ?_⟩
  obtain ⟨R4, f4, e4, m4⟩ := f3.new1 (o := .tup [.str "a"]) h4
  refine ⟨by show 1 ≤ sizeLine; omega, fun a5 h5 => ?_⟩
  obtain ⟨R5, f5, e5, m5⟩ := f4.new1 (o := .lst [.str "a"]) h5
  refine fun a6 h6 => ?_
  have f6 := f5.newH (o := .dK []) h6
  refine ⟨upd_same, [((Sum.inr "a" : Key), V.int 1)], rfl, by show 1 ≤ 15; decide, ?_⟩
  have f6 := f6.put (o := .dK (mergeK [] [((Sum.inr "a" : Key), V.int 1)])) (f5.rhn h6) (.inr (f5.gone h6))
  obtain ⟨R6, f6, e6, m6⟩ := f6.fz upd_same (f5.gone h6) (f5.rhn h6)
  refine ⟨Nat.zero_le _, fun b7 g7 => ?_⟩
  obtain ⟨S7, f7, e7, m7⟩ := f6.new1 (o := .tup []) g7
  refine ⟨by show 1 ≤ sizeLine; omega, fun a7 h7 => ?_⟩
  obtain ⟨R7, f7, e7', m7'⟩ := f7.new1 (o := .tup [.ref b7]) h7
  refine ⟨by show 1 ≤ sizeLine; omega, fun b8 g8 => ?_⟩
  obtain ⟨S8, f8, e8, m8⟩ := f7.new1 (o := .lst [.str "a"]) g8
  refine ⟨by show 1 ≤ sizeLine; omega, fun a8 h8 => ?_⟩
  obtain ⟨R8, f8, e8', m8'⟩ := f8.new1 (o := .lst [.ref b8]) h8
  refine ⟨by show 4 ≤ sizeLine; omega, fun a9 h9 => ?_⟩
  obtain ⟨R9, f9, e9, m9⟩ := f8.new1 (o := .tup [.int 1, .int 2, .int 3, .int 4]) h9
  refine ⟨by show 4 ≤ sizeLine; omega, fun a10 h10 => ?_⟩
  obtain ⟨R10, f10, e10, m10⟩ := f9.new1 (o := .tup [.str "e", .str "a", .str "b", .int 1]) h10
  refine ⟨by show 11 ≤ sizeLine; omega, fun a11 h11 => ?_⟩
  obtain ⟨R11, f11, e11, m11⟩ := f10.new1 (o := .lst [.ref a1, .ref a2, .ref a3, .ref a4, .ref a5, .ref a6, .ref a7, .ref a8, .ref a9, .ref a10, .str "zz"]) h11
  have M10 := m11
  have M9 := m10.trans M10
  have M8 := m9.trans M9
  have M8b := m8'.trans M8
  have M7 := m8.trans M8b
  have M7b := m7'.trans M7
  have M6 := m7.trans M7b
  have M5 := m6.trans M6
  have M4 := m5.trans M5
  have M3 := m4.trans M4
  have M2 := m3.trans M3
  have M1 := m2.trans M2
  have M0 := m1.trans M1
  have at2 : AtL R11 [.ref a1, .ref a2, .ref a3, .ref a4, .ref a5, .ref a6, .ref a7, .ref a8, .ref a9, .ref a10, .str "zz"] oddD2 := by
    refine .cons (.tup (M1 _ _ e1) .nil) (.cons (.lst (M2 _ _ e2) .nil) (.cons (.dic [] (M3 _ _ e3)) (.cons (.tup (M4 _ _ e4) (.cons (.str _) .nil)) (.cons (.lst (M5 _ _ e5) (.cons (.str _) .nil)) (.cons (.dic [("a", 1)] (M6 _ _ e6)) ?_)))))
    exact .cons (.tup (M7 _ _ e7') (.cons (.tup (M7b _ _ e7) .nil) .nil)) (.cons (.lst (M8 _ _ e8') (.cons (.lst (M8b _ _ e8) (.cons (.str _) .nil)) .nil)) (.cons (.tup (M9 _ _ e9) (.cons (.int _) (.cons (.int _) (.cons (.int _) (.cons (.int _) .nil))))) (.cons (.tup (M10 _ _ e10) (.cons (.str _) (.cons (.str _) (.cons (.str _) (.cons (.int _) .nil))))) (.cons (.str _) .nil))))
  have eL := M0 _ _ e0
  refine ⟨L, a11, odd1, _, rfl, rfl, f11.rh _ _ eL, upd_same, by show 15 + 11 ≤ sizeLine; omega, fun a12 h12 => ?_⟩
  obtain ⟨R12, f12, e12, m12⟩ := f11.new1 (o := .lst (odd1 ++ [.ref a1, .ref a2, .ref a3, .ref a4, .ref a5, .ref a6, .ref a7, .ref a8, .ref a9, .ref a10, .str "zz"])) h12
  have hp12 := hp.up f12 (by simp)
  have at12 := ((at_odd1 R11).app at2).up m12
  generalize upd _ a12 (.lst (odd1 ++ [.ref a1, .ref a2, .ref a3, .ref a4, .ref a5, .ref a6, .ref a7, .ref a8, .ref a9, .ref a10, .str "zz"])) = H12 at f12 hp12
  have hu12 : H12 a12 = some (.lst (odd1 ++ [.ref a1, .ref a2, .ref a3, .ref a4, .ref a5, .ref a6, .ref a7, .ref a8, .ref a9, .ref a10, .str "zz"])) := f12.rh _ _ e12
  refine ⟨_, rfl, _, rfl, .inl ⟨R12, p, u, a12, _, rfl, f12.rh, hp12, hu12, by simp, by show 15 + 11 ≤ 1000; decide, by show u ≤ 1000000000; omega, fun j x u' H' hx hu' hp' f' => ?_⟩⟩
  obtain ⟨d, hd1, hd2⟩ := at12.get hx
  exact q d x u' R12 H' (List.mem_of_getElem? hd1) hd2 hu' hp' ((f12.sub (by simp)).trans f')
end
end Ld
/-! Nb: odd_nodes, negative_edges. -/
namespace Ld
open PySem L2 PyProof.Rows
def odds (l : List Str) (v : Str) : Bool := decide (l.count v % 2 = 1)
/-- the dict at d tells which ends came an odd number of times -/
structure DO (H : Hp) (d : Addr) (ks : List Str) (hs : List Str) : Prop where
  nd : ks.Nodup
  mem : ∀ v, v ∈ ks ↔ v ∈ hs
  len : ks.length ≤ hs.length
  at_ : H d = some (.dK (kv ks fun v => .bl (odds hs v)))
theorem DO.get {H : Hp} {d : Addr} {ks hs : List Str} (s : DO H d ks hs) (u : Str) : (valV (kv ks fun v => V.bl (odds hs v)) (Sum.inr u : Key)).getD (.bl false) = .bl (odds hs u) := by
  rw [valV_kv]
  split
  · rfl
  · rename_i h
    rw [s.mem] at h
    have : odds hs u = false := by
      unfold odds
      rw [List.count_eq_zero_of_not_mem h]
      rfl
    rw [this]
    rfl
theorem odds_snoc (hs : List Str) (u v : Str) : odds (hs ++ [u]) v = if v = u then !odds hs v else odds hs v := by
  unfold odds
  rw [List.count_append]
  by_cases h : v = u
  · subst h
    rw [if_pos rfl]
    have : [v].count v = 1 := by simp
    rw [this]
    by_cases g : hs.count v % 2 = 1
    · rw [decide_eq_true g, decide_eq_false (by omega)]; rfl
    · rw [decide_eq_false g, decide_eq_true (by omega)]; rfl
  · rw [if_neg h]
    have : [u].count v = 0 := by
      rw [List.count_eq_zero]
      simpa using h
    rw [this, Nat.add_zero]
theorem DO.put {H : Hp} {d : Addr} {ks hs : List Str} (s : DO H d ks hs) (u : Str) : DO (upd H d (.dK (putK (kv ks fun v => V.bl (odds hs v)) (Sum.inr u : Key) (.bl (!odds hs u))))) d (addK ks u) (hs ++ [u]) := by
  refine ⟨addK_nodup s.nd, fun v => ?_, ?_, ?_⟩
  · rw [addK_mem, s.mem, List.mem_append]
    simp
  · have := addK_len (ks := ks) (u := u)
    have := s.len
    rw [List.length_append]
    show _ ≤ _ + 1
    omega
  · rw [upd_same, putK_kv]
    congr 2
    refine kv_congr fun v _ => ?_
    show (if v = u then V.bl (!odds hs u) else V.bl (odds hs v)) = V.bl (odds (hs ++ [u]) v)
    rw [odds_snoc]
    by_cases h : v = u
    · rw [if_pos h, if_pos h, h]
    · rw [if_neg h, if_neg h]
theorem ends_app : ∀ a b : List Edg, ends (a ++ b) = ends a ++ ends b
  | [], b => rfl
  | e :: r, b => by
    show _ :: _ :: ends (r ++ b) = _
    rw [ends_app r b]
    rfl
theorem ends_len : ∀ l : List Edg, (ends l).length = 2 * l.length
  | [] => rfl
  | e :: r => by simp only [ends, List.length_cons, ends_len r]; omega
def OddE (es : List Edg) (L : List Str) : Prop := L.Nodup ∧ ∀ v, v ∈ L ↔ (ends es).count v % 2 = 1
def spON : Sp := fun vs H Q _ => ∃ (R : Hp) (v : V) (es : List Edg) (ns : List Str), vs = [v] ∧ Same R H ∧ At R v (.list (es.map Edg.d)) ∧ es.length ≤ 1000 ∧ (∀ v ∈ ends es, v ∈ ns) ∧ ns.length < 64 ∧
  ∀ (L : List Str) (R' H' : Hp) (v' : V), OddE es L → Fx [] R H R' H' → At R' v' (.tuple (L.map PyData.str)) → Q v' H'
def negs (es : List Edg) : List Edg := es.filter fun e => decide (e.l < 0)
def spNE : Sp := fun vs H Q _ => ∃ (R : Hp) (v : V) (es : List Edg), vs = [v] ∧ Same R H ∧ At R v (.tuple (es.map Edg.d)) ∧ es.length ≤ 1000 ∧ ∀ (R' H' : Hp) (v' : V), Fx [] R H R' H' → At R' v' (.list ((negs es).map Edg.d)) → Q v' H'
section
variable {P : Program} {w : World} {K : PySem.W.Frag} {mg : Str → Option Value} {base : Heap}
theorem ok_negative_edges (T : Tx w K mg) : FnOk P w K mg base CX0 1 (a_negative_edges K) (f_negative_edges K) P_negative_edges spNE := by
  refine T.d_negative_edges.ok sc_negative_edges (fun vs H Q E h => by obtain ⟨_, _, _, rfl, _⟩ := h; rfl) (fun cdv A outer s H vs Q E hr h => ?_)
  have hu := hu_of hr
  have nd := sc_negative_edges.nd
  have hsz := sizeLine_eq
  refine ⟨_, PSs.nox (pss_one (ps_ret (pe_lc (own := [("edge", 1)]) (g := (gName 1)) (by rfl) nd (pi_tup (pv 0)) (blkOk_by (N := N_negative_edges) (sc := defScope st_negative_edges) (by decide +kernel)) (fun _ _ _ _ _ => (pg_name (i := 1) nd rfl (Or.inl rfl))) (fun _ _ _ _ _ => (pts_one (pt_cmpR op_lt (pe_ix (show IxR _ (rIxT K) from ix_tup) (pv 1) pe_int (fun _ _ => rfl)) pe_int (nomark _)))) (fun _ _ _ _ _ => (pv 1))))), ?_⟩
  obtain ⟨R, v, es, rfl, k, hd, hlen, q⟩ := h
  obtain ⟨a, vs, rfl, e1, e2, sT⟩ := hd.isT K k
  have hl := e2.length
  rw [List.length_map] at hl
  refine ⟨_, rfl, a, rfl, ⟨_, sT⟩, fun D hD => ?_⟩
  refine lc_data (walk_tup (xs := vs)) [] (fun i => (negs (es.take i)).map Edg.d) (fun _ _ _ => True) k hD (by simp) (fun i hi => ?_) rfl trivial (fun _ R H _ f _ => SqT.of (f.rh _ _ (f.rr _ _ e1))) (fun _ _ _ _ _ _ => trivial) (fun i x R' H' H'' vs' Cy Cn hi f r hv ac e y ky kn => ?_) (fun R4 H4 vs' f4 r hv ac _ => ?_)
  · have h1 := List.length_filter_le (fun e : Edg => decide (e.l < 0)) (es.take i)
    unfold negs
    simp only [List.length_map, List.length_take] at h1 ⊢
    omega
  · obtain ⟨rfl, hx⟩ := y
    have hi' : i < es.length := by omega
    obtain ⟨d, d1, d2⟩ := e2.get hx
    rw [List.getElem?_map, List.getElem?_eq_getElem hi'] at d1
    cases d1
    obtain ⟨t, tvs, v3, rfl, sE, eE, hv3⟩ := (d2.up f.rr).ixT K f.rh (j := 3) rfl
    cases hv3
    refine ⟨rfl, _, rfl, t, _, _, _, rfl, rfl, sE, at_of2 (j := 3) rfl eE, _, _, rfl, rfl, _, rfl, ?_⟩
    refine iteB (fun h => ?_) (fun h => ?_)
    · refine kn R' H'' (Fx.refl f.rh) ?_ trivial
      unfold negs
      rw [take_snoc _ _ hi', List.filter_append, List.filter_cons, h]
      simp
    · refine ⟨_, rfl, ky R' H'' _ _ (Fx.refl f.rh) (d2.up f.rr) ?_ trivial⟩
      unfold negs
      rw [take_snoc _ _ hi', List.filter_append, List.filter_cons, h]
      simp
  · rw [hl, List.take_of_length_le (Nat.le_refl _)] at ac
    obtain ⟨R5, f5, e5, m5⟩ := f4.fz hv hD r
    exact q R5 H4 _ f5 (.lst e5 (ac.up m5))
theorem ok_odd_nodes (T : Tx w K mg) : FnOk P w K mg base CX0 1 (a_odd_nodes K) (f_odd_nodes K) P_odd_nodes spON := by
  refine T.d_odd_nodes.ok sc_odd_nodes (fun vs H Q E h => by obtain ⟨_, _, _, _, rfl, _⟩ := h; rfl) (fun cdv A outer s H vs Q E hr h => ?_)
  have hu := hu_of hr
  have nd := sc_odd_nodes.nd
  have hsz := sizeLine_eq
  refine ⟨_, PSs.nox (pss_cons (ps_set (i := 1) nd rfl (Or.inr rfl) pe_dnewK)
    (pss_cons (ps_for PassesOwn.never rfl (pi_list (pv 0)) (pg_tup rfl (pgs_cons (pg_name (i := 2) nd rfl (Or.inl rfl)) (pgs_cons (pg_name (i := 3) nd rfl (Or.inl rfl)) (pgs_cons (pg_name (i := 4) nd rfl (Or.inl rfl)) (pgs_cons (pg_name (i := 5) nd rfl (Or.inl rfl)) pgs_nil)))))
      (pss_one (ps_for PassesOwn.never rfl (pi_tup (pe_tup (pa_cons (pv 3) (pa_cons (pv 4) pa_nil)))) (pg_name (i := 6) nd rfl (Or.inl rfl))
        (pss_one (ps_dput hu (pv 1) (pv 6) (pe_not (pe_dget2 hu (pv 1) (pv 6) pe_bl ⟨rfl, rfl, rfl, rfl⟩)) rfl)))))
    (pss_one (ps_ret (pe_callTy call_tuple_of (by rfl) T.f_tuple boot_tuple (pa_cons (pe_callB cr_sortedS (by rfl) T.f_sorted boot_sorted (pa_cons (pe_lock (pe_lc (own := [("node", 6)]) (g := (gName 6)) (by rfl) nd (pi_keys (pv 1)) (blkOk_by (N := N_odd_nodes) (sc := defScope st_odd_nodes) (by decide +kernel)) (fun _ _ _ _ _ => (pg_name (i := 6) nd rfl (Or.inl rfl))) (fun _ _ _ _ _ => (pts_one (pt_val (pe_dget hu (pv 1) (pv 6) (fun _ _ => rfl))))) (fun _ _ _ _ _ => (pv 6)))) pa_nil)) pa_nil)))))), ?_⟩
  obtain ⟨R, v, es, ns, rfl, k, hd, hlen, hns, hn64, q⟩ := h
  obtain ⟨a, vs, rfl, e1, e2, _⟩ := hd.isL K k
  have hl := e2.length
  rw [List.length_map] at hl
  refine fun d hd0 => ?_
  have f1 := (Fx.refl (M := []) k).newH (o := .dK []) hd0
  have rd : R d = none := same_none k hd0
  have ed : upd H d (.dK []) d = some (.dK []) := upd_same
  show tSeq _ _ _ _ (upd H d (.dK []))
  generalize upd H d (.dK []) = H1 at f1 ed ⊢
  refine ⟨_, rfl, a, rfl, ⟨_, SqL.of (f1.rh _ _ e1)⟩, for_list (K := K) (a := a) (xs := vs) (fun i σ H' => ∃ (ks : List Str) (x2 x3 x4 x5 x6 : Option V), σ = [some (.ref a), some (.ref d), x2, x3, x4, x5, x6] ∧ Fx [] R H R H' ∧ DO H' d ks (ends (es.take i))) ⟨[], _, _, _, _, _, rfl, f1, ⟨List.nodup_nil, by simp [ends], Nat.le_refl _, ed⟩⟩ (fun i σ H' _ ⟨_, _, _, _, _, _, _, f, _⟩ => SqL.of (f.rh _ _ e1)) ?_ ?_⟩
  · rintro i x σ H' hx ⟨ks, x2, x3, x4, x5, x6, rfl, f, ds⟩
    obtain ⟨dx, d1, d2⟩ := e2.get hx
    have hi' : i < es.length := by
      have := (List.getElem?_eq_some_iff.mp hx).1
      omega
    rw [List.getElem?_map, List.getElem?_eq_getElem hi'] at d1
    cases d1
    obtain ⟨t, tvs, rfl, t1, t2, t3⟩ := d2.isT K f.rh
    obtain ⟨va, vb, vc, vl, rfl, h1, h2, h3, h4⟩ := t2.four
    cases h1
    cases h2
    cases h3
    cases h4
    refine ⟨t, _, rfl, t3, rfl, _, _, rfl, _, _, rfl, _, _, rfl, _, _, rfl, rfl, ?_⟩
    refine ⟨_, rfl, _, rfl, by show 2 ≤ sizeLine; omega, fun p hp => ?_⟩
    have f2 := f.newH (o := .tup [.str es[i].u, .str es[i].v]) hp
    have hdp : d ≠ p := ne_of_none ds.at_ hp
    have ds2 : DO (upd H' p (.tup [.str es[i].u, .str es[i].v])) d ks (ends (es.take i)) := ⟨ds.nd, ds.mem, ds.len, by rw [upd_ne hdp]; exact ds.at_⟩
    have hp2 : upd H' p (.tup [.str es[i].u, .str es[i].v]) p = some (.tup [.str es[i].u, .str es[i].v]) := upd_same
    generalize upd H' p (.tup [.str es[i].u, .str es[i].v]) = H2 at f2 ds2 hp2 ⊢
    refine ⟨p, rfl, ⟨_, SqT.of hp2⟩, for_tup (K := K) (a := p) (xs := [.str es[i].u, .str es[i].v]) (fun j σ H' => ∃ (ks : List Str) (x6 : Option V), σ = [some (.ref a), some (.ref d), some (.str es[i].n), some (.str es[i].u), some (.str es[i].v), some (.int es[i].l), x6] ∧ Fx [] R H R H' ∧ H' p = some (.tup [.str es[i].u, .str es[i].v]) ∧ DO H' d ks (ends (es.take i) ++ [es[i].u, es[i].v].take j)) ⟨ks, x6, rfl, f2, hp2, by rw [List.take_zero, List.append_nil]; exact ds2⟩ (fun j σ H' _ ⟨_, _, _, _, e, _⟩ => SqT.of e) ?_ ?_⟩
    · rintro j y σ H3 hy ⟨ks3, y6, rfl, f3, hp3, ds3⟩
      obtain ⟨u, hu3, rfl⟩ : ∃ u, [es[i].u, es[i].v][j]? = some u ∧ V.str u = y := by
        match j, hy with
        | 0, hy => exact ⟨_, rfl, by simpa using hy⟩
        | 1, hy => exact ⟨_, rfl, by simpa using hy⟩
        | j + 2, hy => simp at hy
      have htk : [es[i].u, es[i].v].take (j + 1) = [es[i].u, es[i].v].take j ++ [u] := by
        rw [List.take_succ, hu3]
        rfl
      have hkl : ks3.length < 1000000 := by
        have := ds3.len
        rw [List.length_append, ends_len, List.length_take, List.length_take] at this
        simp only [List.length_cons, List.length_nil] at this
        omega
      refine ⟨_, rfl, d, rfl, .inl ⟨_, .inl ds3.at_⟩, _, rfl, _, dgetR (.inl ds3.at_) rfl, ?_⟩
      rw [ds3.get]
      refine ⟨_, rfl, _, rfl, _, rfl, d, _, rfl, .inl ⟨_, Sum.inr u, ds3.at_, rfl, by rw [kv_len]; omega, rfl⟩, ?_⟩
      refine ⟨addK ks3 u, _, rfl, f3.put rd (.inr hd0), ?_, ?_⟩
      · rw [upd_ne (fun z => by rw [z, ds3.at_] at hp3; cases hp3)]
        exact hp3
      · rw [htk, ← List.append_assoc]
        exact ds3.put u
    · rintro σ H3 ⟨ks3, y6, rfl, f3, hp3, ds3⟩
      refine ⟨ks3, _, _, _, _, _, rfl, f3, ?_⟩
      rw [take_snoc _ _ hi', ends_app]
      exact ds3
  · rintro σ H2 ⟨ks, x2, x3, x4, x5, x6, rfl, f2, ds⟩
    rw [hl, List.take_of_length_le (Nat.le_refl _)] at ds
    refine ⟨d, _, ds.at_, trivial, fun od => ?_⟩
    have f3 : Fx [] R H R (upd H2 d (.frz od (.dK (kv ks fun v => .bl (odds (ends es) v))))) := f2.put rd (.inr hd0)
    have ed3 : upd H2 d (.frz od (.dK (kv ks fun v => .bl (odds (ends es) v)))) d = some (.frz od (.dK (kv ks fun v => .bl (odds (ends es) v)))) := upd_same
    generalize upd H2 d (.frz od (.dK (kv ks fun v => .bl (odds (ends es) v)))) = H3 at f3 ed3 ⊢
    refine ⟨_, rfl, d, od, rfl, .inl ⟨_, ed3, fun D hD => ?_⟩⟩
    have hks : ks.length < 1000000 := by
      have := ds.len
      rw [ends_len] at this
      omega
    refine lc_data (walk_keys (kvs := kv ks fun v => .bl (odds (ends es) v))) [] (fun i => ((ks.take i).filter fun v => odds (ends es) v).map PyData.str) (fun _ _ _ => True) f3.rh hD (by simp) (fun i hi => ?_) rfl trivial (fun _ R H _ f _ => f.kp _ _ ed3 (by simp)) (fun _ _ _ _ _ _ => trivial) (fun i x R' H' H'' vs' Cy Cn hi f r hv ac e y ky kn => ?_) (fun R4 H4 vs' f4 r hv ac _ => ?_)
    · have h1 := List.length_filter_le (fun v => odds (ends es) v) (ks.take i)
      rw [kv_len] at hi
      simp only [List.length_map, List.length_take] at h1 ⊢
      omega
    · obtain ⟨rfl, kk, vv, hkv, rfl⟩ := y
      rw [kv_len] at hi
      unfold kv at hkv
      rw [List.getElem?_map, List.getElem?_eq_getElem hi] at hkv
      cases hkv
      have ed4 : H'' d = some (.frz od (.dK (kv ks fun v => .bl (odds (ends es) v)))) := f.kp _ _ ed3 (by simp)
      have hg : valV (kv ks fun v => V.bl (odds (ends es) v)) (Sum.inr ks[i] : Key) = some (.bl (odds (ends es) ks[i])) := by
        rw [valV_kv, if_pos (List.getElem_mem hi)]
      refine ⟨rfl, _, rfl, _, rfl, d, _, rfl, dgetR (.inr ⟨od, ed4⟩) hg, _, rfl, ?_⟩
      refine iteB (fun h => ?_) (fun h => ?_)
      · refine kn R' H'' (Fx.refl f.rh) ?_ trivial
        rw [take_snoc _ _ hi, List.filter_append, List.filter_cons, h]
        simp
      · refine ⟨_, rfl, ky R' H'' _ _ (Fx.refl f.rh) (.str _) ?_ trivial⟩
        rw [take_snoc _ _ hi, List.filter_append, List.filter_cons, h]
        simp
    · rw [kv_len, List.take_of_length_le (Nat.le_refl _)] at ac
      have f5 := f3.trans f4
      have ed4 : H4 d = some (.frz od (.dK (kv ks fun v => .bl (odds (ends es) v)))) := f4.kp _ _ ed3 (by simp)
      refine ⟨ed4, ?_⟩
      have f6 : Fx [] R H R4 (upd H4 d (.dK (kv ks fun v => .bl (odds (ends es) v)))) := f5.put (f4.nr rd ed3) (.inr hd0)
      have hDd : D ≠ d := fun z => by rw [z, ed3] at hD; cases hD
      have hv6 : upd H4 d (.dK (kv ks fun v => .bl (odds (ends es) v))) D = some (.lst ((ks.filter fun v => odds (ends es) v).map V.str)) := by rw [upd_ne hDd, hv, ac.strs]
      have ho : OddE es (ks.filter fun v => odds (ends es) v) := by
        refine ⟨List.Nodup.sublist List.filter_sublist ds.nd, fun v => ?_⟩
        rw [List.mem_filter, ds.mem]
        unfold odds
        rw [decide_eq_true_iff]
        exact ⟨fun h => h.2, fun h => ⟨List.count_pos_iff.mp (by omega), h⟩⟩
      have hlen : (ks.filter fun v => odds (ends es) v).length ≤ ns.length := nodup_len ho.1 fun v hv => hns v ((ds.mem v).mp (List.mem_filter.mp hv).1)
      refine ⟨D, _, rfl, SqL.of hv6, by omega, fun ys p perm srt hp => ?_⟩
      have f7 := f6.newH (o := .lst (ys.map V.str)) hp
      refine ⟨p, _, rfl, .inl ⟨SqL.of upd_same, fun t ht => ?_⟩⟩
      obtain ⟨R8, g8, t8, n8⟩ := nw_tup f7.rh (atL_strs R4 ys) ht
      exact q ys R8 _ _ ⟨perm.nodup_iff.mpr ho.1, fun v => by rw [perm.mem_iff, ho.2]⟩ (f7.trans g8) t8
end
end Ld
/-! Na: checked_nodes. -/
namespace Ld
open PySem L2 PyProof.Rows
/-- a list or a tuple of data -/
def AtS (R : Hp) (v : V) (ds : List PyData) : Prop := At R v (.list ds) ∨ At R v (.tuple ds)
theorem AtS.is {R : Hp} {v : V} {ds : List PyData} (h : AtS R v ds) : ∃ a xs o, v = .ref a ∧ R a = some o ∧ (o = .lst xs ∨ o = .tup xs) ∧ AtL R xs ds := by
  rcases h with h | h
  · cases h with
    | lst e x => exact ⟨_, _, _, rfl, e, .inl rfl, x⟩
  · cases h with
    | tup e x => exact ⟨_, _, _, rfl, e, .inr rfl, x⟩
def spCN (K : PySem.W.Frag) : Sp := fun vs H Q E => ∃ (R : Hp) (v : V) (ds : List PyData), vs = [v] ∧ Same R H ∧ AtS R v ds ∧ okSs ds = true ∧ ds.length ≤ 60 ∧
  (∀ d, wnode ds = some d → ER K [] R H E (.node d)) ∧
  (∀ (ns ns' : List Str) (R' H' : Hp) (v' : V), wnode ds = none → ds = ns.map PyData.str → ns'.Perm ns → sortedS ns' = true → Fx [] R H R' H' → At R' v' (.tuple (ns'.map PyData.str)) → Q v' H')
section
variable {P : Program} {w : World} {K : PySem.W.Frag} {mg : Str → Option Value} {base : Heap}
theorem ok_checked_nodes (PF : PP P) (Z : Tz w K mg) : FnOk P w K mg base (L2N.CX P w) 2 (a_checked_nodes K) (f_checked_nodes K) P_checked_nodes (spCN K) := by
  have T := Z.t
  refine T.d_checked_nodes.ok sc_checked_nodes (fun vs H Q E h => by obtain ⟨_, _, _, rfl, _⟩ := h; rfl) (fun cdv A outer s H vs Q E hr h => ?_)
  have hu := hu_of hr
  have hu2 := hr.units
  have hu3 : (A.deeper (envOfC "checked_nodes" (defScope st_checked_nodes) s.heap.objs.size (a_checked_nodes K) cdv)).units + 65 < cLine := by have := hr.un; omega
  have nd := sc_checked_nodes.nd
  have hsz := sizeLine_eq
  refine ⟨_, (pss_cons (ps_if (pt_not (pt_val (pe_call (ok_is_list T) (hr.mono (by decide)) (by rfl) T.g_is_list T.k_is_list T.b_is_list .nil pass0 (pa_cons (pv 0) pa_nil))))
      (pss_one (ps_raiseX rfl PF.toPFacts (Z.x_InvalidNode PF) T.g_InvalidNode T.f_super hr (L2N.takes_of rfl rfl rfl rfl) (pa_cons (pv 0) pa_nil)))
      pss_nil)
    (pss_cons (ps_set (i := 1) nd rfl (Or.inl rfl) (pe_lst pa_nil))
    (pss_cons (ps_for (passes_of rfl) rfl (pi_seq (pv 0)) (pg_name (i := 2) nd rfl (Or.inl rfl))
      (pss_cons (ps_if (PW.pt (pw_or (pt_not (pt_val (pe_call (ok_is_name T) (hr.mono (by decide)) (by rfl) T.g_is_name T.k_is_name T.b_is_name .nil pass0 (pa_cons (pv 2) pa_nil)))) (pw_or (pt_cmpR (op_inN hu3) (pv 2) (pv 1) (by rfl)) (pw_or1 (pt_cmpR op_eq (pe_callB call_len_seq (by rfl) T.f_len boot_len (pa_cons (pv 1) pa_nil)) (pe_globI (by rfl) T.c_MAX_NODES_HERE) (nomark _))))))
        (pss_one (ps_raiseX rfl PF.toPFacts (Z.x_InvalidNode PF) T.g_InvalidNode T.f_super hr (L2N.takes_of rfl rfl rfl rfl) (pa_cons (pv 2) pa_nil)))
        pss_nil)
      (pss_one (ps_expr (pe_bm PySem.F.plainAttrs_list PySem.F.slot_list_append PySem.F.type_list_append mt_append (pv 1) (pa_cons (pv 2) pa_nil))))))
    (pss_cons (ps_if (pt_cmpR (op_eqL0 hu2) (pv 1) (pe_lst pa_nil) (nomark _))
      (pss_one (ps_raiseX rfl PF.toPFacts (Z.x_InvalidNode PF) T.g_InvalidNode T.f_super hr (L2N.takes_of rfl rfl rfl rfl) (pa_cons (pe_tup pa_nil) pa_nil)))
      pss_nil)
    (pss_one (ps_ret (pe_callTy call_tuple_of (by rfl) T.f_tuple boot_tuple (pa_cons (pe_callB cr_sortedS (by rfl) T.f_sorted boot_sorted (pa_cons (pv 1) pa_nil)) pa_nil)))))))), ?_⟩
  obtain ⟨R, v, ds, rfl, k, hd, ho, hlen, qe, q⟩ := h
  obtain ⟨a, vs, o, rfl, e1, ho2, e2⟩ := hd.is
  have hl := e2.length
  have odv : ∃ d, At R (.ref a) d ∧ isLT d = true ∧ okS d = true := by
    rcases hd with h | h
    · exact ⟨_, h, rfl, ho⟩
    · exact ⟨_, h, rfl, ho⟩
  obtain ⟨dv, hv, hvl, hvo⟩ := odv
  refine ⟨_, rfl, R, .ref a, dv, rfl, k, hv, hvo, fun R0 H0 f0 => ⟨_, rfl, ?_⟩⟩
  rw [hvl]
  refine iteF ?_
  refine ⟨Nat.zero_le _, fun l hl0 => ?_⟩
  have lH : H l = none := f0.gone hl0
  have rl0 : R0 l = none := f0.rhn hl0
  have f1 := f0.newH (o := .lst []) hl0
  have el : upd H0 l (.lst []) l = some (.lst []) := upd_same
  show tSeq _ _ _ _ (upd H0 l (.lst []))
  generalize upd H0 l (.lst []) = H1 at f1 el ⊢
  refine ⟨_, rfl, a, vs, o, rfl, f1.rh _ _ (f1.rr _ _ e1), ho2, fun J w => for_it w (fun i σ H' => ∃ (seen : List Str) (x : Option V) (R' : Hp), σ = [some (.ref a), some (.ref l), x] ∧ Fx [] R H R' H' ∧ R' l = none ∧ H' l = some (.lst (seen.map V.str)) ∧ i ≤ ds.length ∧ seen.length = i ∧ seen.length ≤ 40 ∧ ds.take i = seen.map PyData.str ∧ wnGo [] ds = wnGo seen (ds.drop i)) ⟨[], none, R0, rfl, f1, rl0, el, Nat.zero_le _, rfl, by decide, rfl, rfl⟩ (fun i σ H' _ ⟨_, _, _, _, f, _⟩ => f.rh _ _ (f.rr _ _ e1)) ?_ ?_⟩
  · rintro i x σ H' H'' hi ⟨seen, x0, R', rfl, f, rl, hl', hil, hsl, h40, hs, hw⟩ ⟨rfl, hx⟩
    have hi' : i < ds.length := by omega
    obtain ⟨d, d1, d2⟩ := e2.get hx
    have hdi : ds[i] = d := by rw [List.getElem?_eq_getElem hi'] at d1; exact Option.some.inj d1
    have od := okSs_get ho d1
    have hdrop : ds.drop i = d :: ds.drop (i + 1) := by rw [List.drop_eq_getElem_cons hi', hdi]
    have ne : wnode ds = wnGo [] ds := by cases ds with | nil => simp at hi' | cons _ _ => rfl
    have fin : ∀ R3 H3, Fx [] R H R3 H3 → wnGo seen (ds.drop i) = some d → ∀ dd, H3 dd = none → E (.ref (He.ga K "InvalidNode")) (some dd) (upd H3 dd (.xd [("value", x)])) := by
      intro R3 H3 f3 hw3 dd hdd
      exact ER.mk (qe d (by rw [ne, hw, hw3])) rfl f3 (d2.up f3.rr) hdd
    refine ⟨_, rfl, R', x, d, rfl, f.rh, d2.up f.rr, od, fun R2 H2 f2 => ⟨_, rfl, ?_⟩⟩
    have rl2 := f2.nr rl hl'
    have hl2 := f2.kp _ _ hl' (by simp)
    have f2 := f.trans f2
    refine iteB (fun h1 => ?_) (fun h1 => ?_)
    · have h1 : isName d = true := by simpa using h1
      obtain ⟨s, rfl, hs1⟩ := isName_str h1
      cases d2
      have step : wnGo seen (ds.drop i) = if isNameS s && !inS (.str s) seen && !decide (seen.length = 40) then wnGo (seen ++ [s]) (ds.drop (i + 1)) else some (.str s) := by rw [hdrop]; rfl
      rw [hs1, Bool.true_and] at step
      refine ⟨_, rfl, _, rfl, l, seen, R2, .str s, rfl, .inl (SqL.of hl2), f2.rh, .str s, _, rfl, ?_⟩
      refine iteB (fun h2 => ?_) (fun h2 => ?_)
      · have h2 : inS (.str s) seen = false := h2
        rw [h2] at step
        refine ⟨_, rfl, l, _, rfl, .inl (SqL.of hl2), rfl, _, rfl, ?_⟩
        rw [dec_int]
        refine iteB (fun h3 => ?_) (fun h3 => ?_)
        · have hn40 : ¬ seen.length = 40 := by
            intro z
            have : ((((seen.map V.str).length : Nat) : Int) == 40) = true := by rw [beq_iff_eq, List.length_map]; omega
            rw [this] at h3
            cases h3
          rw [decide_eq_false hn40] at step
          refine ⟨_, rfl, .inl ⟨rfl, _, SqL.of hl2⟩, _, rfl, l, _, _, rfl, rfl, hl2, by rw [List.length_map]; omega, ?_⟩
          refine ⟨seen ++ [s], _, R2, rfl, f2.put rl2 (.inr lH), rl2, by rw [upd_same, List.map_append]; rfl, hi', by rw [List.length_append, hsl]; rfl, by rw [List.length_append]; show _ + 1 ≤ 40; omega, ?_, by rw [hw, step]; rfl⟩
          rw [take_snoc _ _ hi', hdi, hs, List.map_append]; rfl
        · have hn40 : seen.length = 40 := by
            have := eq_of_beq h3
            simp only [List.length_map] at this
            omega
          rw [decide_eq_true hn40] at step
          exact ⟨_, rfl, _, rfl, fin _ _ f2 (by rw [step]; rfl)⟩
      · have h2 : inS (.str s) seen = true := h2
        rw [h2] at step
        exact ⟨_, rfl, _, rfl, fin _ _ f2 (by rw [step]; rfl)⟩
    · have h1 : isName d = false := by simpa using h1
      exact ⟨_, rfl, _, rfl, fin _ _ f2 (by rw [hdrop]; exact wnGo_bad h1)⟩
  · rintro σ H' ⟨seen, x, R', rfl, f, rl, hl', hil, hsl, h40, hs, hw⟩
    rw [hl, List.take_of_length_le (Nat.le_refl _)] at hs
    refine ⟨_, rfl, Nat.zero_le _, fun b hb => ?_⟩
    have hlb : l ≠ b := ne_of_none hl' hb
    have f2 := f.newH (o := .lst []) hb
    have hl2 : upd H' b (.lst []) l = some (.lst (seen.map V.str)) := by rw [upd_ne hlb]; exact hl'
    refine ⟨l, b, _, rfl, rfl, SqL.of hl2, SqL.of upd_same, _, rfl, ?_⟩
    have hwn : seen ≠ [] → wnode ds = none := by
      intro z
      cases ds with
      | nil => exact absurd (List.map_eq_nil_iff.mp hs.symm) z
      | cons d r =>
        show wnGo [] _ = none
        rw [hw, hl, List.drop_of_length_le (Nat.le_refl _)]
        rfl
    generalize upd H' b (.lst []) = H2 at f2 hl2 ⊢
    cases seen with
    | nil =>
      refine iteT ?_
      refine ⟨Nat.zero_le _, fun t ht => ?_⟩
      obtain ⟨R3, g3, t3, n3⟩ := nw_tup f2.rh .nil ht
      refine ⟨_, rfl, fun dd hdd => ?_⟩
      have h0 : ds = [] := by simpa using hs
      exact ER.mk (qe (.tuple []) (by rw [h0]; rfl)) rfl (f2.trans g3) t3 hdd
    | cons s0 r0 =>
      refine iteF ?_
      refine ⟨_, rfl, l, s0 :: r0, rfl, SqL.of hl2, by omega, fun ys p perm srt hp => ?_⟩
      have f3 := f2.newH (o := .lst (ys.map V.str)) hp
      refine ⟨p, _, rfl, .inl ⟨SqL.of upd_same, fun t ht => ?_⟩⟩
      obtain ⟨R4, g4, t4, n4⟩ := nw_tup f3.rh (atL_strs R' ys) ht
      exact q (s0 :: r0) ys R4 _ _ (hwn (by simp)) hs perm srt (f3.trans g4) t4
end
end Ld
/-! Kp: min, max of two texts. -/
namespace Ld
open PySem L2 PyProof.Rows
def ltS (x y : Str) : Bool := decide (x.cps.toList < y.cps.toList)
def minS (u v : Str) : Str := if ltS v u then v else u
def maxS (u v : Str) : Str := if ltS u v then v else u
section
variable {prog : Program} {w : World} {A : Around} {E : Value → Shared → Prop} {s : Shared}
theorem pairAt {a b v : Value} {i : Nat} (h : #[a, b][i]? = some v) : (i = 0 ∧ v = a) ∨ (i = 1 ∧ v = b) := by
  match i, h with
  | 0, h => exact .inl ⟨rfl, by simpa using h.symm⟩
  | 1, h => exact .inr ⟨rfl, by simpa using h.symm⟩
  | i + 2, h => simp at h
def sAt (a b : Str) (i : Nat) : Str := if i = 0 then a else b
theorem sAt_is {a b : Str} {t u : Tok} {i : Nat} {v : Value} (h : #[Value.str a t, Value.str b u][i]? = some v) : ∃ t', v = .str (sAt a b i) t' := by
  rcases pairAt h with ⟨rfl, rfl⟩ | ⟨rfl, rfl⟩
  · exact ⟨_, rfl⟩
  · exact ⟨_, rfl⟩
theorem cmpS_lt {a b : Str} {t u : Tok} : CmpOf prog w A .Lt (fun i v => #[Value.str a t, Value.str b u][i]? = some v) (fun i j => ltS (sAt a b i) (sAt a b j)) := by
  intro i j vi vj s Q E hi hj hQ
  obtain ⟨t1, rfl⟩ := sAt_is hi
  obtain ⟨t2, rfl⟩ := sAt_is hj
  exact (PySem.P.lt_str hQ : wpAny (model prog w) A (compareOp .Lt (.str (sAt a b i) t1) (.str (sAt a b j) t2)) Q E s)
theorem cmpS_gt {a b : Str} {t u : Tok} : CmpOf prog w A .Gt (fun i v => #[Value.str a t, Value.str b u][i]? = some v) (fun i j => ltS (sAt a b j) (sAt a b i)) := by
  intro i j vi vj s Q E hi hj hQ
  obtain ⟨t1, rfl⟩ := sAt_is hi
  obtain ⟨t2, rfl⟩ := sAt_is hj
  exact (PySem.P.gt_str hQ : wpAny (model prog w) A (compareOp .Gt (.str (sAt a b i) t1) (.str (sAt a b j) t2)) Q E s)
theorem two_mem {a b : Value} {c : Addr} {it : Obj} (hc : c ∈ [(s.heap.push { cls := .type "tuple", data := .seq #[a, b] }).objs.size, s.heap.objs.size]) : c < ((s.heap.push { cls := .type "tuple", data := .seq #[a, b] }).push it).objs.size := by
  rw [Heap.size_push, Heap.size_push]
  rcases List.mem_cons.mp hc with rfl | hc
  · rw [Heap.size_push]; exact Nat.lt_succ_self _
  · rcases List.mem_cons.mp hc with rfl | hc
    · exact Nat.lt_succ_of_lt (Nat.lt_succ_self _)
    · cases hc
theorem two_old {a b : Value} {it : Obj} {h' : Heap} (hk : ∀ c o, c ∉ [(s.heap.push { cls := .type "tuple", data := .seq #[a, b] }).objs.size] → ((s.heap.push { cls := .type "tuple", data := .seq #[a, b] }).push it).get? c = some o → h'.get? c = some o) :
    ∀ c o, s.heap.get? c = some o → h'.get? c = some o := fun c o e => by
  refine hk c o (fun hm => ?_) (Heap.get?_push_of_some _ (Heap.get?_push_of_some _ e))
  rcases List.mem_cons.mp hm with e1 | hm
  · have := Heap.lt_size e; rw [e1, Heap.size_push] at this; exact Nat.lt_irrefl _ (Nat.lt_of_succ_lt this)
  · cases hm
theorem min_two_strs {a b : Str} {t u : Tok} {Q : Value → Shared → Prop} (hh : A.handled = none)
    (h : ∀ h' tk, (∀ c o, s.heap.get? c = some o → h'.get? c = some o) → Q (if ltS b a then .str b u else .str a t) { s with heap := h', toks := tk }) :
    wpAny (model prog w) A (call (.builtin "min") [.str a t, .str b u]) Q E s := by
  have hT : (s.heap.push { cls := .type "tuple", data := .seq #[.str a t, .str b u] }).IsTuple s.heap.objs.size #[.str a t, .str b u] := ⟨_, Heap.get?_push_size _ rfl, rfl, 0, rfl⟩
  refine call_min_two (wpAny_pyIter_tuple hT ?_)
  refine ⟨_, [_, s.heap.objs.size], [_], _, _, _, _, rfl, Walks.tuple (A := A.in1) hh _ s.heap.objs.size (by rw [Heap.size_push]; exact Nat.ne_of_lt (Nat.lt_succ_self _)) #[.str a t, .str b u],
    ⟨⟨_, Heap.get?_push_size _ rfl, rfl, rfl⟩, hT.push _⟩, fun c hc => two_mem hc, by simp, cmpS_lt, fun v h' tk hP hk => ?_⟩
  have := h h' tk (two_old hk)
  have hv : v = if ltS b a then Value.str b u else Value.str a t := by
    have hP : #[Value.str a t, Value.str b u][argBest (fun i j => ltS (sAt a b i) (sAt a b j)) 1]? = some v := hP
    cases hba : ltS b a with
    | true =>
      have e : argBest (fun i j => ltS (sAt a b i) (sAt a b j)) 1 = 1 := by simp [argBest, sAt, hba]
      rw [e] at hP
      simpa using hP.symm
    | false =>
      have e : argBest (fun i j => ltS (sAt a b i) (sAt a b j)) 1 = 0 := by simp [argBest, sAt, hba]
      rw [e] at hP
      simpa using hP.symm
  rw [hv]; exact this
theorem max_two_strs {a b : Str} {t u : Tok} {Q : Value → Shared → Prop} (hh : A.handled = none)
    (h : ∀ h' tk, (∀ c o, s.heap.get? c = some o → h'.get? c = some o) → Q (if ltS a b then .str b u else .str a t) { s with heap := h', toks := tk }) :
    wpAny (model prog w) A (call (.builtin "max") [.str a t, .str b u]) Q E s := by
  have hT : (s.heap.push { cls := .type "tuple", data := .seq #[.str a t, .str b u] }).IsTuple s.heap.objs.size #[.str a t, .str b u] := ⟨_, Heap.get?_push_size _ rfl, rfl, 0, rfl⟩
  refine call_max_two (wpAny_pyIter_tuple hT ?_)
  refine ⟨_, [_, s.heap.objs.size], [_], _, _, _, _, rfl, Walks.tuple (A := A.in1) hh _ s.heap.objs.size (by rw [Heap.size_push]; exact Nat.ne_of_lt (Nat.lt_succ_self _)) #[.str a t, .str b u],
    ⟨⟨_, Heap.get?_push_size _ rfl, rfl, rfl⟩, hT.push _⟩, fun c hc => two_mem hc, by simp, cmpS_gt, fun v h' tk hP hk => ?_⟩
  have := h h' tk (two_old hk)
  have hv : v = if ltS a b then Value.str b u else Value.str a t := by
    have hP : #[Value.str a t, Value.str b u][argBest (fun i j => ltS (sAt a b j) (sAt a b i)) 1]? = some v := hP
    cases hba : ltS a b with
    | true =>
      have e : argBest (fun i j => ltS (sAt a b j) (sAt a b i)) 1 = 1 := by simp [argBest, sAt, hba]
      rw [e] at hP
      simpa using hP.symm
    | false =>
      have e : argBest (fun i j => ltS (sAt a b j) (sAt a b i)) 1 = 0 := by simp [argBest, sAt, hba]
      rw [e] at hP
      simpa using hP.symm
  rw [hv]; exact this
end
section
variable {X : Cx}
theorem call_minS (hc : X.calm = true) : CallR X (.builtin "min") (fun xs H Q => ∃ i j, xs = [.str i, .str j] ∧ Q (.str (minS i j)) H) := by
  intro pins s σ H xs us Q I r h
  obtain ⟨i, j, rfl, q⟩ := h
  obtain ⟨u, w', rfl, ⟨t, rfl⟩, ⟨t', rfl⟩⟩ := vals2 r
  refine min_two_strs (I.ok.hd hc) fun h' tk k => ⟨_, H, I.kept k, ?_, q⟩
  unfold minS
  cases ltS j i
  · exact ⟨_, rfl⟩
  · exact ⟨_, rfl⟩
theorem call_maxS (hc : X.calm = true) : CallR X (.builtin "max") (fun xs H Q => ∃ i j, xs = [.str i, .str j] ∧ Q (.str (maxS i j)) H) := by
  intro pins s σ H xs us Q I r h
  obtain ⟨i, j, rfl, q⟩ := h
  obtain ⟨u, w', rfl, ⟨t, rfl⟩, ⟨t', rfl⟩⟩ := vals2 r
  refine max_two_strs (I.ok.hd hc) fun h' tk k => ⟨_, H, I.kept k, ?_, q⟩
  unfold maxS
  cases ltS i j
  · exact ⟨_, rfl⟩
  · exact ⟨_, rfl⟩
end
end Ld
set_option pp.maxSteps 600
/-! Nc: checked_edges. -/
namespace Ld
open PySem L2 PyProof.Rows
def Edg.norm (e : Edg) : Edg := ⟨e.n, minS e.u e.v, maxS e.u e.v, e.l⟩
theorem minmax (u v : Str) : (minS u v = u ∧ maxS u v = v) ∨ (minS u v = v ∧ maxS u v = u) := by
  unfold minS maxS
  cases h1 : ltS v u <;> cases h2 : ltS u v <;> simp
  · have e1 := of_decide_eq_false h1
    have e2 := of_decide_eq_false h2
    have : u.cps.toList = v.cps.toList := List.le_antisymm (show u.cps.toList ≤ v.cps.toList from e1) (show v.cps.toList ≤ u.cps.toList from e2)
    obtain ⟨a⟩ := u
    obtain ⟨b⟩ := v
    simp at this
    rw [this]
  · have e1 := of_decide_eq_true h1
    have e2 := of_decide_eq_true h2
    exact absurd e1 (List.lt_asymm e2)
theorem cnt_norm (v : Str) : ∀ es : List Edg, cnt v (es.map Edg.norm) = cnt v es
  | [] => rfl
  | e :: r => by
    simp only [List.map_cons, cnt, cnt_norm v r]
    show (if e.l < 0 then (if minS e.u e.v = v then 1 else 0) + (if maxS e.u e.v = v then 1 else 0) else 0) + _ = _
    rcases minmax e.u e.v with ⟨h1, h2⟩ | ⟨h1, h2⟩
    · rw [h1, h2]
    · rw [h1, h2]
      congr 2
      exact Nat.add_comm _ _
theorem cnt_perm {v : Str} {a b : List Edg} (h : a.Perm b) : cnt v a = cnt v b := by
  induction h with
  | nil => rfl
  | cons x _ ih => simp only [cnt, ih]
  | swap x y l => simp only [cnt]; omega
  | trans _ _ ih1 ih2 => rw [ih1, ih2]
theorem fits_cnt {a b : List Edg} (h : ∀ v, cnt v a = cnt v b) : fits a = fits b := by
  unfold fits
  rw [(oddL_ok a).len (oddL_ok b) h]
theorem fits_norm {rs es : List Edg} (h : rs.Perm (es.map Edg.norm)) : fits rs = fits es := fits_cnt fun v => by rw [cnt_perm h, cnt_norm]
theorem negs_cnt (v : Str) : ∀ es : List Edg, (ends (negs es)).count v = cnt v es
  | [] => rfl
  | e :: r => by
    unfold negs
    rw [List.filter_cons]
    by_cases h : e.l < 0
    · rw [if_pos (decide_eq_true h)]
      show (e.u :: e.v :: ends (negs r)).count v = _
      rw [List.count_cons, List.count_cons, negs_cnt v r]
      simp only [cnt, h, if_true, beq_iff_eq]
      omega
    · rw [if_neg (by simpa using h)]
      show (ends (negs r)).count v = _
      rw [negs_cnt v r]
      simp only [cnt, h, if_false, Nat.zero_add]
theorem odd_fits {es : List Edg} {L : List Str} (h : OddE (negs es) L) : fits es = decide (L.length ≤ 10) := by
  unfold fits
  rw [OddL.len (es := es) (fs := es) (oddL_ok es) (M := L) ⟨h.1, fun v => by rw [h.2, negs_cnt]⟩ fun _ => rfl]
theorem perm_lift {A B : Type} (f : A → B) : ∀ (ys : List B) (es : List A), ys.Perm (es.map f) → ∃ es' : List A, es'.Perm es ∧ es'.map f = ys
  | [], es, h => by
    have : es = [] := List.map_eq_nil_iff.mp (List.nil_perm.mp h)
    exact ⟨[], by rw [this], rfl⟩
  | y :: t, es, h => by
    have hy : y ∈ es.map f := h.mem_iff.mp List.mem_cons_self
    obtain ⟨e, he, rfl⟩ := List.mem_map.mp hy
    obtain ⟨s, r, rfl⟩ := List.append_of_mem he
    have h2 : (f e :: t).Perm (f e :: (s ++ r).map f) := by
      refine h.trans ?_
      rw [List.map_append, List.map_append, List.map_cons]
      exact List.perm_middle
    obtain ⟨es', p, q⟩ := perm_lift f t (s ++ r) h2.cons_inv
    exact ⟨e :: es', (p.cons e).trans List.perm_middle.symm, by rw [List.map_cons, q]⟩
theorem weGo_bad {ns seen : List Str} {d : PyData} {r : List PyData} (h : isEdge d ns = false) : weGo ns seen (d :: r) = some d := by
  show (if _ then _ else _) = _
  rw [h]
  rfl
theorem mem_ends {v : Str} : ∀ {l : List Edg}, v ∈ ends l ↔ ∃ e ∈ l, v = e.u ∨ v = e.v := by
  intro l
  induction l with
  | nil => simp [ends]
  | cons e r ih =>
    simp only [ends, List.mem_cons, ih]
    constructor
    · rintro (h | h | ⟨x, h1, h2⟩)
      · exact ⟨e, .inl rfl, .inl h⟩
      · exact ⟨e, .inl rfl, .inr h⟩
      · exact ⟨x, .inr h1, h2⟩
    · rintro ⟨x, rfl | h1, h2⟩
      · rcases h2 with h2 | h2
        · exact .inl h2
        · exact .inr (.inl h2)
      · exact .inr (.inr ⟨x, h1, h2⟩)
theorem ends_negs {ns : List Str} {es es' : List Edg} (hie : ∀ e ∈ es, isEdge e.d ns = true) (pe : es'.Perm es) : ∀ v ∈ ends (negs (es'.map Edg.norm)), v ∈ ns := by
  intro v hv
  obtain ⟨e, h1, h2⟩ := mem_ends.mp hv
  have h1 := (List.mem_filter.mp h1).1
  obtain ⟨e0, h3, rfl⟩ := List.mem_map.mp h1
  have h4 := isEdge_iff.mp (hie e0 (pe.mem_iff.mp h3))
  have h5 : v = e0.u ∨ v = e0.v := by
    rcases minmax e0.u e0.v with ⟨m1, m2⟩ | ⟨m1, m2⟩
    · rcases h2 with h2 | h2
      · exact .inl (by rw [h2]; exact m1)
      · exact .inr (by rw [h2]; exact m2)
    · rcases h2 with h2 | h2
      · exact .inr (by rw [h2]; exact m1)
      · exact .inl (by rw [h2]; exact m2)
  rcases h5 with rfl | rfl
  · exact h4.2.2.2.1
  · exact h4.2.2.2.2.1
theorem Fx.new2 {M : List Addr} {R H R1 H1 : Hp} {a : Addr} {o : HO} (f : Fx M R H R1 H1) (h : H1 a = none) : ∃ R2, Fx M R H R2 (upd H1 a o) ∧ R2 a = some o ∧ Same R1 R2 ∧ ∀ c, c ≠ a → R2 c = R1 c := by
  refine ⟨upd R1 a o, f.newR h, upd_same, fun b x e => ?_, fun c hc => upd_ne hc⟩
  rw [upd_ne (ne_of_none (f.rh _ _ e) h)]
  exact e
def spCE (K : PySem.W.Frag) : Sp := fun vs H Q E => ∃ (R : Hp) (v : V) (ds : List PyData) (p : Addr) (ns : List Str), vs = [v, .ref p] ∧ Same R H ∧ AtS R v ds ∧ okSs ds = true ∧ ds.length ≤ 60 ∧ R p = some (.tup (ns.map V.str)) ∧ ns.length < 64 ∧
  (∀ d, weGo ns [] ds = some d → ER K [] R H E (.edge d)) ∧
  (∀ es, weGo ns [] ds = none → ds = es.map Edg.d → fits es = false → ER K [] R H E (.many 10)) ∧
  (∀ (es rs : List Edg) (R' H' : Hp) (v' : V), weGo ns [] ds = none → ds = es.map Edg.d → fits es = true → rs.Perm (es.map Edg.norm) → sortedS (rs.map Edg.n) = true → Fx [] R H R' H' → At R' v' (.tuple (rs.map Edg.d)) → Q v' H')
section
variable {P : Program} {w : World} {K : PySem.W.Frag} {mg : Str → Option Value} {base : Heap}
theorem ok_checked_edges (PF : PP P) (Z : Tz w K mg) : FnOk P w K mg base (L2N.CX P w) 5 (a_checked_edges K) (f_checked_edges K) P_checked_edges (spCE K) := by
  have T := Z.t
  refine T.d_checked_edges.ok sc_checked_edges (fun vs H Q E h => by obtain ⟨_, _, _, _, _, rfl, _⟩ := h; rfl) (fun cdv A outer s H vs Q E hr h => ?_)
  have hu := hu_of hr
  have hu2 := hr.units
  have hu3 : (A.deeper (envOfC "checked_edges" (defScope st_checked_edges) s.heap.objs.size (a_checked_edges K) cdv)).units + 65 < cLine := by have := hr.un; omega
  have nd := sc_checked_edges.nd
  have hsz := sizeLine_eq
  refine ⟨_, (pss_cons (ps_if (pt_not (pt_val (pe_call (ok_is_list T) (hr.mono (by decide)) (by rfl) T.g_is_list T.k_is_list T.b_is_list .nil pass0 (pa_cons (pv 0) pa_nil))))
      (pss_one (ps_raiseX rfl PF.toPFacts (Z.x_InvalidEdge PF) T.g_InvalidEdge T.f_super hr (L2N.takes_of rfl rfl rfl rfl) (pa_cons (pv 0) pa_nil)))
      pss_nil)
    (pss_cons (ps_set (i := 2) nd rfl (Or.inr rfl) pe_dnewK)
    (pss_cons (ps_for (passes_of rfl) rfl (pi_seq (pv 0)) (pg_name (i := 3) nd rfl (Or.inl rfl))
      (pss_cons (ps_if (PW.pt (pw_or (pt_not (pt_val (pe_call (ok_is_edge T) (hr.mono (by decide)) (by rfl) T.g_is_edge T.k_is_edge T.b_is_edge .nil pass0 (pa_cons (pv 3) (pa_cons (pv 1) pa_nil))))) (pw_or1 (pt_cmp (pc_din hu (pe_ix ix_tup (pv 3) pe_int (fun _ _ => rfl)) (pv 2))))))
        (pss_one (ps_raiseX rfl PF.toPFacts (Z.x_InvalidEdge PF) T.g_InvalidEdge T.f_super hr (L2N.takes_of rfl rfl rfl rfl) (pa_cons (pv 3) pa_nil)))
        pss_nil)
      (pss_cons (ps_asg (pv 3) (pg_tup rfl (pgs_cons (pg_name (i := 4) nd rfl (Or.inl rfl)) (pgs_cons (pg_name (i := 5) nd rfl (Or.inl rfl)) (pgs_cons (pg_name (i := 6) nd rfl (Or.inl rfl)) (pgs_cons (pg_name (i := 7) nd rfl (Or.inl rfl)) pgs_nil))))))
      (pss_one (ps_dput hu (pv 2) (pv 4) (pe_tup (pa_cons (pv 4) (pa_cons (pe_callB (call_minS rfl) (by rfl) T.f_min boot_min (pa_cons (pv 5) (pa_cons (pv 6) pa_nil))) (pa_cons (pe_callB (call_maxS rfl) (by rfl) T.f_max boot_max (pa_cons (pv 5) (pa_cons (pv 6) pa_nil))) (pa_cons (pv 7) pa_nil))))) rfl)))))
    (pss_cons (ps_if (pt_cmpR op_gt (pe_callB call_lenD (by rfl) T.f_len boot_len (pa_cons (pv 2) pa_nil)) (pe_globI (by rfl) T.c_MAX_EDGES_HERE) (nomark _))
      (pss_one (ps_raiseX rfl PF.toPFacts (Z.x_TooMany PF) T.g_TooMany T.f_super hr (L2N.takes_of rfl rfl rfl rfl) (pa_cons (pe_globI (by rfl) T.c_MAX_EDGES_HERE) pa_nil)))
      pss_nil)
    (pss_cons (ps_set (i := 8) nd rfl (Or.inl rfl) (pe_callTy call_tuple_of (by rfl) T.f_tuple boot_tuple (pa_cons (pe_lc (own := [("name", 4)]) (g := (gName 4)) (tt := tYes) (by rfl) nd (pi_list (pe_callB (call_sortedD rfl) (by rfl) T.f_sorted boot_sorted (pa_cons (pv 2) pa_nil))) (blkOk_by (N := N_checked_edges) (sc := defScope st_checked_edges) (by decide +kernel)) (fun _ _ _ _ _ => (pg_name (i := 4) nd rfl (Or.inl rfl))) (fun _ _ _ _ _ => pts_nil) (fun _ _ _ _ _ => (pe_dget hu (pv 2) (pv 4) (fun _ _ => rfl)))) pa_nil)))
    (pss_cons (ps_if (pt_cmpR op_gt (pe_callB call_len_seq (by rfl) T.f_len boot_len (pa_cons (pe_call (ok_odd_nodes T) (hr.mono (by decide)) (by rfl) T.g_odd_nodes T.k_odd_nodes T.b_odd_nodes .nil pass0 (pa_cons (pe_call (ok_negative_edges T) (hr.mono (by decide)) (by rfl) T.g_negative_edges T.k_negative_edges T.b_negative_edges .nil pass0 (pa_cons (pv 8) pa_nil)) pa_nil)) pa_nil)) (pe_globI (by rfl) T.c_MAX_ODD_HERE) (nomark _))
      (pss_one (ps_raiseX rfl PF.toPFacts (Z.x_TooMany PF) T.g_TooMany T.f_super hr (L2N.takes_of rfl rfl rfl rfl) (pa_cons (pe_globI (by rfl) T.c_MAX_ODD_HERE) pa_nil)))
      pss_nil)
    (pss_one (ps_ret (pv 8))))))))), ?_⟩
  obtain ⟨R, v, ds, p, ns, rfl, k, hd, ho, hlen, hp, hn64, qe, qm, q⟩ := h
  obtain ⟨a, vs, o, rfl, e1, ho2, e2⟩ := hd.is
  have hl := e2.length
  have odv : ∃ d, At R (.ref a) d ∧ isLT d = true ∧ okS d = true := by
    rcases hd with h | h
    · exact ⟨_, h, rfl, ho⟩
    · exact ⟨_, h, rfl, ho⟩
  obtain ⟨dv, hv, hvl, hvo⟩ := odv
  refine ⟨_, rfl, R, .ref a, dv, rfl, k, hv, hvo, fun R0 H0 f0 => ⟨_, rfl, ?_⟩⟩
  rw [hvl]
  refine iteF ?_
  refine fun l hl0 => ?_
  have lH : H l = none := f0.gone hl0
  have rl0 : R0 l = none := f0.rhn hl0
  have f1 := f0.newH (o := .dK []) hl0
  have el : upd H0 l (.dK []) l = some (.dK []) := upd_same
  show tSeq _ _ _ _ (upd H0 l (.dK []))
  generalize upd H0 l (.dK []) = H1 at f1 el ⊢
  refine ⟨_, rfl, a, vs, o, rfl, f1.rh _ _ (f1.rr _ _ e1), ho2, fun J w => for_it w (fun i σ H' => ∃ (es : List Edg) (g : Str → V) (x3 x4 x5 x6 x7 : Option V) (R' : Hp), σ = [some (.ref a), some (.ref p), some (.ref l), x3, x4, x5, x6, x7, none] ∧ Fx [] R H R' H' ∧ R' l = none ∧ H' l = some (.dK (kv (es.map Edg.n) g)) ∧ (es.map Edg.n).Nodup ∧ (∀ e ∈ es, At R' (g e.n) e.norm.d) ∧ i ≤ ds.length ∧ es.length = i ∧ (∀ e ∈ es, isEdge e.d ns = true) ∧ ds.take i = es.map Edg.d ∧ weGo ns [] ds = weGo ns (es.map Edg.n) (ds.drop i)) ⟨[], fun _ => .non, none, none, none, none, none, R0, rfl, f1, rl0, el, List.nodup_nil, by simp, Nat.zero_le _, rfl, by simp, rfl, rfl⟩ (fun i σ H' _ ⟨_, _, _, _, _, _, _, _, _, f, _⟩ => f.rh _ _ (f.rr _ _ e1)) ?_ ?_⟩
  · rintro i x σ H' H'' hi ⟨es, g, x3, x4, x5, x6, x7, R', rfl, f, rl, hl', hnd, hat, hil, hsl, hie, hs, hw⟩ ⟨rfl, hx⟩
    have hi' : i < ds.length := by omega
    obtain ⟨d, d1, d2⟩ := e2.get hx
    have hdi : ds[i] = d := by rw [List.getElem?_eq_getElem hi'] at d1; exact Option.some.inj d1
    have od := okSs_get ho d1
    have hdrop : ds.drop i = d :: ds.drop (i + 1) := by rw [List.drop_eq_getElem_cons hi', hdi]
    have step : weGo ns (es.map Edg.n) (ds.drop i) = if isEdge d ns && !inS (.str (nameD d)) (es.map Edg.n) then weGo ns (es.map Edg.n ++ [nameD d]) (ds.drop (i + 1)) else some d := by rw [hdrop]; rfl
    have fin : ∀ R3 H3, Fx [] R H R3 H3 → weGo ns (es.map Edg.n) (ds.drop i) = some d → ∀ dd, H3 dd = none → E (.ref (He.ga K "InvalidEdge")) (some dd) (upd H3 dd (.xd [("value", x)])) := by
      intro R3 H3 f3 hw3 dd hdd
      exact ER.mk (qe d (by rw [hw, hw3])) rfl f3 (d2.up f3.rr) hdd
    refine ⟨_, rfl, _, rfl, R', x, d, p, ns, rfl, f.rh, d2.up f.rr, od, .inr (f.rr _ _ hp), fun R2 H2 f2 => ⟨_, rfl, ?_⟩⟩
    have rl2 := f2.nr rl hl'
    have hl2 := f2.kp _ _ hl' (by simp)
    have hat2 : ∀ e ∈ es, At R2 (g e.n) e.norm.d := fun e he => (hat e he).up f2.rr
    have f2 := f.trans f2
    refine iteB (fun h1 => ?_) (fun h1 => ?_)
    · have h1 : isEdge d ns = true := by simpa using h1
      obtain ⟨e, rfl⟩ := isEdge_edg h1
      rw [h1, Bool.true_and] at step
      obtain ⟨at_, tvs, x0, ev, sT, eT, hx0⟩ := (d2.up f2.rr).ixT K f2.rh (j := 0) rfl
      cases hx0
      refine ⟨_, rfl, at_, _, _, _, ev, rfl, sT, at_of2 (j := 0) rfl eT, ?_⟩
      refine ⟨_, rfl, l, _, rfl, dgetR (.inl hl2) rfl, _, rfl, ?_⟩
      rw [valV_kv]
      refine iteB (fun h2 => ?_) (fun h2 => ?_)
      · have h2 : e.n ∉ es.map Edg.n := fun z => by rw [if_pos z] at h2; cases h2
        have hin : inS (.str (nameD e.d)) (es.map Edg.n) = false := Bool.eq_false_iff.mpr fun z => h2 (inS_mem.mp z)
        rw [hin] at step
        obtain ⟨t, tvs', ev', t1, t2, t3⟩ := (d2.up f2.rr).isT K f2.rh
        obtain ⟨va, vb, vc, vl, rfl, h3, h4, h5, h6⟩ := t2.four
        cases h3
        cases h4
        cases h5
        cases h6
        refine ⟨_, rfl, t, _, ev', t3, rfl, _, _, rfl, _, _, rfl, _, _, rfl, _, _, rfl, rfl, ?_⟩
        refine ⟨_, rfl, _, rfl, _, rfl, _, _, rfl, _, rfl, _, rfl, _, _, rfl, _, rfl, by show 4 ≤ sizeLine; omega, fun b hb => ?_⟩
        obtain ⟨R3, f3, e3, m3, u3⟩ := f2.new2 (o := .tup [.str e.n, .str (minS e.u e.v), .str (maxS e.u e.v), .int e.l]) hb
        have hlb : l ≠ b := ne_of_none hl2 hb
        have hl3 : upd H2 b (.tup [.str e.n, .str (minS e.u e.v), .str (maxS e.u e.v), .int e.l]) l = some (.dK (kv (es.map Edg.n) g)) := by rw [upd_ne hlb]; exact hl2
        have rl3 : R3 l = none := by rw [u3 _ hlb]; exact rl2
        generalize upd H2 b (.tup [.str e.n, .str (minS e.u e.v), .str (maxS e.u e.v), .int e.l]) = H3 at f3 hl3 ⊢
        have hkl : (es.map Edg.n).length < 1000000 := by rw [List.length_map]; omega
        refine ⟨_, rfl, _, rfl, l, _, rfl, .inl ⟨_, Sum.inr e.n, hl3, rfl, by rw [kv_len]; omega, rfl⟩, ?_⟩
        refine ⟨es ++ [e], fun v => if v = e.n then .ref b else g v, _, _, _, _, _, R3, rfl, f3.put rl3 (.inr lH), rl3, ?_, ?_, ?_, hi', by rw [List.length_append, hsl]; rfl, ?_, ?_, by rw [hw, step, List.map_append]; rfl⟩
        · rw [upd_same, putK_kv, addK, if_neg h2, List.map_append]
          rfl
        · rw [List.map_append, List.nodup_append]
          exact ⟨hnd, List.nodup_cons.mpr ⟨by simp, List.nodup_nil⟩, fun y hy z hz e' => h2 (by rw [List.mem_singleton.mp hz] at e'; rw [← e']; exact hy)⟩
        · intro e' he'
          rcases List.mem_append.mp he' with he' | he'
          · have hne : e'.n ≠ e.n := fun z => h2 (by rw [← z]; exact List.mem_map_of_mem he')
            show At R3 (if e'.n = e.n then _ else _) _
            rw [if_neg hne]
            exact (hat2 e' he').up m3
          · rw [List.mem_singleton.mp he']
            show At R3 (if e.n = e.n then _ else _) _
            rw [if_pos rfl]
            exact .tup e3 (.cons (.str _) (.cons (.str _) (.cons (.str _) (.cons (.int _) .nil))))
        · intro e' he'
          rcases List.mem_append.mp he' with he' | he'
          · exact hie e' he'
          · rw [List.mem_singleton.mp he']; exact h1
        · rw [take_snoc _ _ hi', hdi, hs, List.map_append]; rfl
      · have h2 : e.n ∈ es.map Edg.n := by
          by_cases z : e.n ∈ es.map Edg.n
          · exact z
          · rw [if_neg z] at h2; cases h2
        have hin : inS (.str (nameD e.d)) (es.map Edg.n) = true := inS_mem.mpr h2
        rw [hin] at step
        exact ⟨_, rfl, _, rfl, fin _ _ f2 (by rw [step]; rfl)⟩
    · have h1 : isEdge d ns = false := by simpa using h1
      exact ⟨_, rfl, _, rfl, fin _ _ f2 (by rw [hdrop]; exact weGo_bad h1)⟩
  · rintro σ H' ⟨es, g, x3, x4, x5, x6, x7, R', rfl, f, rl, hl', hnd, hat, hil, hsl, hie, hs, hw⟩
    rw [hl, List.take_of_length_le (Nat.le_refl _)] at hs
    have hwn : weGo ns [] ds = none := by
      rw [hw, hl, List.drop_of_length_le (Nat.le_refl _)]
      rfl
    have h60 : es.length ≤ 60 := by omega
    refine ⟨_, rfl, l, _, rfl, hl', _, _, rfl, rfl, _, rfl, ?_⟩
    refine iteB (fun h => ?_) (fun h => absurd (of_decide_eq_true h) (by rw [kv_len, List.length_map]; omega))
    refine ⟨_, rfl, l, _, es.map Edg.n, rfl, .inl hl', by unfold kv; rw [List.map_map]; rfl, by rw [List.length_map]; omega, fun ys pp perm srt hpp => ?_⟩
    obtain ⟨es', pe, rfl⟩ := perm_lift Edg.n ys es perm
    have f2 := f.newH (o := .lst ((es'.map Edg.n).map V.str)) hpp
    have hlp : l ≠ pp := ne_of_none hl' hpp
    have hl2 : upd H' pp (.lst ((es'.map Edg.n).map V.str)) l = some (.dK (kv (es.map Edg.n) g)) := by rw [upd_ne hlp]; exact hl'
    have hp2 : upd H' pp (.lst ((es'.map Edg.n).map V.str)) pp = some (.lst ((es'.map Edg.n).map V.str)) := upd_same
    generalize upd H' pp (.lst ((es'.map Edg.n).map V.str)) = H2 at f2 hl2 hp2 ⊢
    have hel : es'.length = es.length := pe.length_eq
    refine ⟨pp, rfl, ⟨_, SqL.of hp2⟩, fun D hD => ?_⟩
    refine lc_data (walk_list (xs := (es'.map Edg.n).map V.str)) [] (fun i => ((es'.take i).map Edg.norm).map Edg.d) (fun _ _ _ => True) f2.rh hD (by simp) (fun i hi => ?_) rfl trivial (fun _ R H _ f _ => SqL.of (f.kp _ _ hp2 (by simp))) (fun _ _ _ _ _ _ => trivial) (fun i x R' H' H'' vs' Cy Cn hi f r hv ac e y ky kn => ?_) (fun R4 H4 vs' f4 r hv ac _ => ?_)
    · simp only [List.length_map, List.length_take]
      omega
    · obtain ⟨rfl, hx⟩ := y
      have hi' : i < es'.length := by simpa using hi
      rw [List.map_map, List.getElem?_map, List.getElem?_eq_getElem hi'] at hx
      cases hx
      have hm : es'[i] ∈ es := pe.mem_iff.mp (List.getElem_mem hi')
      have hv2 : valV (kv (es.map Edg.n) g) (Sum.inr es'[i].n : Key) = some (g es'[i].n) := by
        rw [valV_kv, if_pos (List.mem_map_of_mem hm)]
      refine ⟨rfl, _, rfl, _, rfl, l, _, rfl, dgetR (.inl (f.kp _ _ hl2 (by simp))) hv2, ?_⟩
      refine ky R' H'' _ _ (Fx.refl f.rh) (((hat _ hm).up ?_).up f.rr) ?_ trivial
      · exact Same.refl _
      · rw [take_snoc _ _ hi', List.map_append, List.map_append]
        rfl
    · rw [List.length_map, List.length_map, List.take_of_length_le (Nat.le_refl _)] at ac
      refine ⟨D, _, rfl, .inl ⟨SqL.of hv, fun t ht => ?_⟩⟩
      obtain ⟨R5, f5, t5, n5⟩ := nw_tup f4.rh ac ht
      have f6 := (f2.trans f4).trans f5
      show tSeq _ _ _ _ (upd H4 t (.tup vs'))
      generalize upd H4 t (.tup vs') = H5 at f5 f6 ⊢
      have hends : ∀ v ∈ ends (negs (es'.map Edg.norm)), v ∈ ns := ends_negs hie pe
      refine ⟨_, rfl, R5, _, es'.map Edg.norm, rfl, f6.rh, t5, by rw [List.length_map]; omega, fun R7 H7 v7 f7 t7 => ?_⟩
      refine ⟨R7, v7, negs (es'.map Edg.norm), ns, rfl, f7.rh, t7, ?_, hends, hn64, fun L R8 H8 v8 hL f8 t8 => ?_⟩
      · have h1 := List.length_filter_le (fun e : Edg => decide (e.l < 0)) (es'.map Edg.norm)
        rw [List.length_map] at h1
        unfold negs
        omega
      obtain ⟨a8, vs8, rfl, g1, g2, g3⟩ := t8.isT K f8.rh
      refine ⟨a8, _, rfl, .inr g3, _, _, rfl, rfl, _, rfl, ?_⟩
      have hf := odd_fits hL
      rw [fits_norm (pe.map _)] at hf
      have hl8 := g2.length
      rw [List.length_map] at hl8
      have f9 := (f6.trans f7).trans f8
      refine iteB (fun h => ?_) (fun h => ?_)
      · have h10 : L.length ≤ 10 := by
          have := of_decide_eq_false h
          omega
        rw [decide_eq_true h10] at hf
        exact ⟨_, rfl, q es (es'.map Edg.norm) R8 H8 _ hwn hs hf (pe.map _) (by rw [List.map_map]; exact srt) f9 ((t5.up f7.rr).up f8.rr)⟩
      · have h10 : ¬ L.length ≤ 10 := by
          have := of_decide_eq_true h
          omega
        rw [decide_eq_false h10] at hf
        exact ⟨_, rfl, fun dd hdd => ER.mk (qm es hwn hs hf) rfl f9 (.int 10) hdd⟩
end
end Ld
/-! Kq: a text not in a tuple or a dict; defs with a star; networks as they stand. -/
namespace Ld
open PySem L2 PyProof.Rows
section
variable {X : Cx}
/-- text not in (a tuple of texts, or a dict whose keys are texts) -/
def rNotKn (K : PySem.W.Frag) : R2 := fun x y H Q => ∃ (z : Str) (p : Addr) (ns : List Str), x = .str z ∧ y = .ref p ∧ (SqT K H p (ns.map V.str) ∨ ∃ g, Rd H p (.dK (kv ns g))) ∧ Q (.bl (!decide (z ∈ ns))) H
theorem inS_dec (z : Str) (ns : List Str) : inS (.str z) ns = decide (z ∈ ns) := by
  by_cases h : z ∈ ns
  · rw [decide_eq_true h]; exact inS_mem.mpr h
  · rw [decide_eq_false h]; exact Bool.eq_false_iff.mpr fun e => h (inS_mem.mp e)
theorem op_notKn (hu : X.A.units + 65 < cLine) : OpR X (compareOp .NotIn) (rNotKn X.K) := by
  intro pins s σ H x y v u Q I rx ry h
  obtain ⟨z, p, ns, rfl, rfl, h | ⟨g, h⟩, q⟩ := h
  · refine op_notInN hu pins s σ H _ _ v u Q I rx ry ⟨p, ns, fun _ => none, .str z, rfl, .inr h, (fun _ _ e => by cases e), .str z, ?_⟩
    rw [inS_dec]
    exact q
  · cases ry
    have hd : DGet H p (.str z) (if z ∈ ns then some (g z) else none) := dgetR h (valV_kv z g ns)
    refine d_notIn (by omega) I hd rx fun s3 I3 => ⟨.bl _, H, I3, rfl, ?_⟩
    have : (if z ∈ ns then some (g z) else none).isSome = decide (z ∈ ns) := by
      by_cases h : z ∈ ns
      · rw [if_pos h, decide_eq_true h]; rfl
      · rw [if_neg h, decide_eq_false h]; rfl
    rw [this]
    exact q
end
/-- a star def with one parameter ahead -/
theorem cxUpN {P : Program} {w : World} : StX.CXUp (L2N.CX P w) := by
  rintro outer s H s2 H2 E e s' un kp ho ⟨a, B, H', cls, d, ea, fl, hok, ub, na, os, ag, he⟩
  refine ⟨a, B, H', cls, d, ea, fl, hok, ⟨fun b o q n hb => ub.keep b o (kp b o q) (un.free b o q n (by simp)) hb, fun b o q hb => ub.slot b o (kp b o q) hb, fun b o q n => ub.free b o (kp b o q) (un.free b o q n (by simp)),
    fun b o q hb => ub.there b o (kp b o q) hb, fun b xs q => ub.tups b xs (un.tups b xs q), fun b o xs q => ub.frzs b o xs (un.frzs b o xs q), fun b ps q => ?_⟩, na, os.trans ho, ag, he⟩
  obtain ⟨m1, e1⟩ := un.tbls b ps q
  obtain ⟨m2, e2⟩ := ub.tbls b _ e1
  exact ⟨m1 ++ m2, by rw [e2, Array.append_assoc]⟩
/-- a network stands at v: its class, its parts, all of it standing still -/
structure NetAt (K : PySem.W.Frag) (R : Hp) (v : V) (N : Net) : Prop where
  ob : ∃ (a dx p q b : Addr) (vs : List V) (g : Str → V), v = .ref a ∧ R a = some (.ins (CN K) dx [("own_nodes", .ref p), ("own_edges", .ref q), ("by_name", .ref b)]) ∧ R p = some (.tup (N.ns.map V.str)) ∧ R q = some (.tup vs) ∧ AtL R vs (N.es.map Edg.d) ∧ R b = some (.dK (kv (N.es.map Edg.n) g)) ∧ (∀ e ∈ N.es, At R (g e.n) e.d)
theorem NetAt.up {K : PySem.W.Frag} {R R' : Hp} {v : V} {N : Net} (h : NetAt K R v N) (k : Same R R') : NetAt K R' v N := by
  obtain ⟨a, dx, p, q, b, vs, g, e, h1, h2, h3, h4, h5, h6⟩ := h.ob
  exact ⟨a, dx, p, q, b, vs, g, e, k _ _ h1, k _ _ h2, k _ _ h3, h4.up k, k _ _ h5, fun e he => (h6 e he).up k⟩
/-- its nodes and its edges are sorted, each edge's ends too -/
structure NormOf (N : Net) (ns : List Str) (es : List Edg) : Prop where
  np : N.ns.Perm ns
  ns_ : sortedS N.ns = true
  ep : N.es.Perm (es.map Edg.norm)
  es_ : sortedS (N.es.map Edg.n) = true
def namL : List PyData → List Str
  | [] => []
  | .str s :: r => s :: namL r
  | _ :: r => namL r
def edgs : List PyData → List Edg
  | [] => []
  | .tuple [.str n, .str u, .str v, .int l] :: r => ⟨n, u, v, l⟩ :: edgs r
  | _ :: r => edgs r
theorem namL_map : ∀ ns : List Str, namL (ns.map PyData.str) = ns
  | [] => rfl
  | n :: r => by
    show n :: namL (r.map PyData.str) = _
    rw [namL_map r]
theorem edgs_map : ∀ es : List Edg, edgs (es.map Edg.d) = es
  | [] => rfl
  | e :: r => by
    show e :: edgs (r.map Edg.d) = _
    rw [edgs_map r]
/-- what is wrong with nodes and edges -/
def due (nds eds : List PyData) : Option Err := match wnode nds with
  | some d => some (.node d)
  | none => match weGo (namL nds) [] eds with
    | some d => some (.edge d)
    | none => if fits (edgs eds) = true then none else some (.many 10)
end Ld
/-! Nd: first_unknown. -/
namespace Ld
open PySem L2 PyProof.Rows
theorem inS_not {d : PyData} (h : isSt d = false) (ns : List Str) : inS d ns = false := by
  cases d with
  | str z => cases h
  | _ => exact List.any_eq_false.mpr fun x _ => by show ¬ (false = true); decide
/-- what is known: a tuple of texts, or a dict whose keys are texts -/
def KnAt (R : Hp) (p : Addr) (ns : List Str) : Prop := R p = some (.tup (ns.map V.str)) ∨ ∃ g, R p = some (.dK (kv ns g))
def spFU : Sp := fun vs H Q _ => ∃ (R : Hp) (a p : Addr) (v : V) (d : PyData) (ns : List Str), vs = [.ref a, .ref p] ∧ Same R H ∧ R a = some (.tup [v]) ∧ At R v d ∧ okS d = true ∧ KnAt R p ns ∧
  (inS d ns = true → ∀ H', Fx [] R H R H' → Q .non H') ∧ (inS d ns = false → ∀ R' H' x, Fx [] R H R' H' → At R' x (.tuple [d]) → Q x H')
section
variable {P : Program} {w : World} {K : PySem.W.Frag} {mg : Str → Option Value} {base : Heap}
theorem ok_first_unknown (T : Tx w K mg) : FnOk P w K mg base CX0 1 (a_first_unknown K) (f_first_unknown K) P_first_unknown spFU := by
  refine T.d_first_unknown.ok sc_first_unknown (fun vs H Q E h => by obtain ⟨_, _, _, _, _, _, rfl, _⟩ := h; rfl) (fun cdv A outer s H vs Q E hr h => ?_)
  have hu := hu_of hr
  have hu2 := hr.units
  have hu3 : (A.deeper (envOfC "first_unknown" (defScope st_first_unknown) s.heap.objs.size (a_first_unknown K) cdv)).units + 65 < cLine := by have := hr.un; omega
  have nd := sc_first_unknown.nd
  have hsz := sizeLine_eq
  refine ⟨_, PSs.nox (pss_cons (ps_set (i := 2) nd rfl (Or.inl rfl) (pe_lst pa_nil))
    (pss_cons (ps_for PassesOwn.never rfl (pi_tup (pv 0)) (pg_name (i := 3) nd rfl (Or.inl rfl))
      (pss_cons (ps_if (PW.pt (pw_or (pt_not (pt_val (pe_callB call_isi (by rfl) T.f_isinstance boot_isinstance (pa_cons (pv 3) (pa_cons (pe_bltn (v := .ty "str") (by rfl) T.f_str boot_str rfl) pa_nil))))) (pw_or (pt_cmpR (op_notKn hu3) (pv 3) (pv 1) (by rfl)) (pw_or1 (pt_cmpR (op_inN hu3) (pv 3) (pv 2) (by rfl))))))
        (pss_one (ps_ret (pe_tup (pa_cons (pv 3) pa_nil))))
        pss_nil)
      (pss_one (ps_expr (pe_bm PySem.F.plainAttrs_list PySem.F.slot_list_append PySem.F.type_list_append mt_append (pv 2) (pa_cons (pv 3) pa_nil))))))
    (pss_one (ps_ret pe_non)))), ?_⟩
  obtain ⟨R, a, p, v, d, ns, rfl, k, ha, hd, od, hk, qn, q⟩ := h
  refine ⟨Nat.zero_le _, fun l hl0 => ?_⟩
  have f1 := (Fx.refl (M := []) k).newH (o := .lst []) hl0
  have el : upd H l (.lst []) l = some (.lst []) := upd_same
  show tSeq _ _ _ _ (upd H l (.lst []))
  generalize upd H l (.lst []) = H1 at f1 el ⊢
  refine ⟨_, rfl, a, rfl, ⟨_, SqT.of (f1.rh _ _ ha)⟩, for_tup (K := K) (a := a) (xs := [v]) (fun j σ H' => ∃ (x3 : Option V), σ = [some (.ref a), some (.ref p), some (.ref l), x3] ∧ Fx [] R H R H' ∧ (j = 0 → H' l = some (.lst [])) ∧ (j = 1 → inS d ns = true)) ⟨none, rfl, f1, fun _ => el, fun h => by cases h⟩ (fun j σ H' _ ⟨_, _, f, _⟩ => SqT.of (f.rh _ _ ha)) ?_ ?_⟩
  · rintro j y σ H' hy ⟨x3, rfl, f, e0, _⟩
    obtain rfl : j = 0 := by
      match j, hy with
      | 0, _ => rfl
      | j + 1, hy => simp at hy
    obtain rfl : v = y := by simpa using hy
    have hl1 := e0 rfl
    have fin : ∀ t, inS d ns = false → H' t = none → Q (.ref t) (upd H' t (.tup [v])) := fun t hn ht => by
      obtain ⟨R4, g1, t1, n1⟩ := nw_tup f.rh (.cons (hd.up f.rr) .nil) ht
      exact q hn R4 _ _ (f.trans g1) t1
    refine ⟨_, rfl, v, _, _, _, _, rfl, .ty _, (hd.up f.rr).tyx f.rh, kS K d, ?_⟩
    refine ⟨_, rfl, ?_⟩
    refine iteB (fun h1 => ?_) (fun h1 => ?_)
    · have h1 : isSt d = true := by simpa using h1
      cases d with
      | str z =>
        cases hd
        refine ⟨_, rfl, _, rfl, z, p, ns, rfl, rfl, ?_, _, rfl, ?_⟩
        · rcases hk with h | ⟨g, h⟩
          · exact .inl (SqT.of (f.rh _ _ h))
          · exact .inr ⟨g, .inl (f.rh _ _ h)⟩
        refine iteB (fun h2 => ?_) (fun h2 => ?_)
        · have h2 : inS (.str z) ns = true := by rw [inS_dec]; simpa using h2
          refine ⟨_, rfl, _, rfl, l, [], R, .str z, rfl, .inl (SqL.of hl1), f.rh, .str z, _, rfl, ?_⟩
          refine iteB (fun h3 => ?_) (fun h3 => absurd h3 (by simp [inS]))
          refine ⟨_, rfl, .inl ⟨rfl, _, SqL.of hl1⟩, _, rfl, l, _, _, rfl, rfl, hl1, by show 0 + 1 ≤ sizeLine; omega, ?_⟩
          exact ⟨_, rfl, f.put (same_none k hl0) (.inr hl0), fun h => absurd h (by decide), fun _ => h2⟩
        · have h2 : inS (.str z) ns = false := by rw [inS_dec]; simpa using h2
          exact ⟨_, rfl, by show 1 ≤ sizeLine; omega, fun t ht => fin t h2 ht⟩
      | _ => cases h1
    · have h1 : isSt d = false := by simpa using h1
      refine ⟨_, rfl, by show 1 ≤ sizeLine; omega, fun t ht => fin t (inS_not h1 ns) ht⟩
  · rintro σ H' ⟨x3, rfl, f, _, e1⟩
    exact qn (e1 rfl) H' f
end
end Ld
/-! Ne: Network.__init__, a network is made. -/
namespace Ld
open PySem L2 PyProof.Rows
theorem ER.via {K : PySem.W.Frag} {M M' : List Addr} {R H R1 H1 : Hp} {E : XK} {e : Err} (h : ER K M R H E e) (f : ∀ R' H', Fx M' R1 H1 R' H' → Fx M R H R' H') : ER K M' R1 H1 E e := by
  unfold ER at h ⊢
  cases he : e.fd with
  | none =>
    rw [he] at h
    exact fun R' H' g => h R' H' (f R' H' g)
  | some p =>
    rw [he] at h
    exact fun R' H' dd v g => h R' H' dd v (f R' H' g)
section
variable {J : It} {n : Nat} {G : Hp → Prop} {Y : Nat → Hp → V → Hp → Prop}
theorem dc_it (w : Walk J n G Y) {g : TG} {tt : TT} {tk tv : TE} {vs : List Nat} {σ : St} {H1 : Hp} {D : Addr} {Qd : Hp → Prop} (Pv : Nat → Hp → Prop) (h0 : Pv 0 (upd H1 D (.dK []))) (hG : ∀ i H, i ≤ n → Pv i H → G H)
    (hs : ∀ i x H H', i < n → Pv i H → Y i H x H' → g x (wipe σ vs) H' fun σ2 H2 => wipe σ2 vs = wipe σ vs ∧ tt σ2 H2 fun b H3 =>
      if b = true then tk σ2 H3 fun y H4 => tv σ2 H4 fun z H5 => ∃ kvs k, y = kV k ∧ H5 D = some (.dK kvs) ∧ kvs.length < sizeLine ∧ Pv (i + 1) (upd H5 D (.dK (putK kvs k z))) else Pv (i + 1) H3) (hd : ∀ H, Pv n H → Qd H) :
    ∃ W : Nat → Nat → Hp → Prop, (∃ m, W 0 m (upd H1 D (.dK []))) ∧ ∀ i m H, W i m H →
      (J.stop i H ∧ Qd H) ∨ (J.go i H ∧ ∃ Nx : Hp → Prop, (∀ H', Nx H' → ∃ m', m' < m ∧ W (i + 1) m' H') ∧ ∀ x H', J.yld i H x H' → g x (wipe σ vs) H' fun σ2 H2 => wipe σ2 vs = wipe σ vs ∧ tt σ2 H2 fun b H3 =>
        if b = true then tk σ2 H3 fun y H4 => tv σ2 H4 fun z H5 => ∃ kvs k, y = kV k ∧ H5 D = some (.dK kvs) ∧ kvs.length < sizeLine ∧ Nx (upd H5 D (.dK (putK kvs k z))) else Nx H3) := by
  refine ⟨fun i m H => m = n - i ∧ i ≤ n ∧ Pv i H, ⟨n, by simp, Nat.zero_le _, h0⟩, ?_⟩
  rintro i m H ⟨rfl, hi, p⟩
  have q := hG i H hi p
  by_cases hlt : i < n
  · refine .inr ⟨w.goes i H hlt q, Pv (i + 1), fun H' p' => ⟨n - (i + 1), by omega, rfl, hlt, p'⟩, fun x H' y => hs i x H H' hlt p (w.yields i H x H' hlt q y)⟩
  · have e : i = n := by omega
    subst e
    exact .inl ⟨w.stops H q, hd H p⟩
end
/-- what is said of a finished network, but for its own object, that stands in H -/
def NetPre (K : PySem.W.Frag) (R H : Hp) (x : Addr) (N : Net) : Prop := ∃ (dx p q b : Addr) (vs : List V) (g : Str → V), H x = some (.ins (CN K) dx [("own_nodes", .ref p), ("own_edges", .ref q), ("by_name", .ref b)]) ∧ R p = some (.tup (N.ns.map V.str)) ∧ R q = some (.tup vs) ∧ AtL R vs (N.es.map Edg.d) ∧ R b = some (.dK (kv (N.es.map Edg.n) g)) ∧ (∀ e ∈ N.es, At R (g e.n) e.d)
def spNI (K : PySem.W.Frag) : Sp := fun vs H Q E => ∃ (R : Hp) (x dx : Addr) (v ev : V) (nds eds : List PyData), vs = [.ref x, v, ev] ∧ Same R H ∧ H x = some (.ins (CN K) dx []) ∧ R x = none ∧ AtS R v nds ∧ okSs nds = true ∧ nds.length ≤ 60 ∧ AtS R ev eds ∧ okSs eds = true ∧ eds.length ≤ 60 ∧
  (∀ e, due nds eds = some e → ER K [x] R H E e) ∧
  (∀ (N : Net) (R' H' : Hp), due nds eds = none → NormOf N (namL nds) (edgs eds) → Fx [x] R H R' H' → R' x = none → NetPre K R' H' x N → Q .non H')
theorem isEdge_perm {ns ns' : List Str} (h : ns'.Perm ns) (d : PyData) : isEdge d ns' = isEdge d ns := by
  have e : ∀ d, inS d ns' = inS d ns := fun d => by
    unfold inS
    exact h.any_eq
  unfold isEdge
  simp only [e]
theorem weGo_perm {ns ns' : List Str} (h : ns'.Perm ns) : ∀ (ds : List PyData) (seen : List Str), weGo ns' seen ds = weGo ns seen ds
  | [], _ => rfl
  | d :: r, seen => by
    show (if isEdge d ns' && _ then weGo ns' _ r else _) = (if isEdge d ns && _ then weGo ns _ r else _)
    rw [isEdge_perm h, weGo_perm h r]
theorem weGo_ok {ns : List Str} : ∀ (ds : List PyData) (seen : List Str), weGo ns seen ds = none → seen.Nodup → ∃ es : List Edg, ds = es.map Edg.d ∧ (∀ e ∈ es, isEdge e.d ns = true) ∧ (seen ++ es.map Edg.n).Nodup
  | [], seen, _, h => ⟨[], rfl, by simp, by simpa using h⟩
  | d :: r, seen, h, hn => by
    have h : (if isEdge d ns && !inS (.str (nameD d)) seen then weGo ns (seen ++ [nameD d]) r else some d) = none := h
    cases h1 : isEdge d ns with
    | false => rw [h1] at h; cases h
    | true =>
      obtain ⟨e, rfl⟩ := isEdge_edg h1
      cases h2 : inS (.str e.n) seen with
      | true => rw [h1] at h; change (if true && !inS (.str e.n) seen then _ else _) = none at h; rw [h2] at h; cases h
      | false =>
        rw [h1] at h
        change (if true && !inS (.str e.n) seen then weGo ns (seen ++ [e.n]) r else _) = none at h
        rw [h2] at h
        have h3 : e.n ∉ seen := fun z => by rw [inS_mem.mpr z] at h2; cases h2
        have hn2 : (seen ++ [e.n]).Nodup := by
          rw [List.nodup_append]
          exact ⟨hn, List.nodup_cons.mpr ⟨by simp, List.nodup_nil⟩, fun y hy z hz e' => h3 (by rw [List.mem_singleton.mp hz] at e'; rw [← e']; exact hy)⟩
        obtain ⟨es, rfl, g1, g2⟩ := weGo_ok r _ h hn2
        refine ⟨e :: es, rfl, fun e' he' => ?_, ?_⟩
        · rcases List.mem_cons.mp he' with rfl | he'
          · exact h1
          · exact g1 e' he'
        · rw [List.append_assoc] at g2
          exact g2
def initI (K : PySem.W.Frag) (R H R3 : Hp) (x dx p c D : Addr) (rs : List Edg) (i : Nat) (H' : Hp) : Prop := ∃ (g : Str → V), Fx [x] R H R3 H' ∧ H' x = some (.ins (CN K) dx [("own_nodes", .ref p), ("own_edges", .ref c)]) ∧ H' D = some (.dK (kv ((rs.take i).map Edg.n) g)) ∧ (∀ e ∈ rs.take i, At R3 (g e.n) e.d)
theorem map_d_inj : ∀ {a b : List Edg}, a.map Edg.d = b.map Edg.d → a = b := fun {a b} h => by rw [← edgs_map a, h, edgs_map b]
theorem norm_n (es : List Edg) : (es.map Edg.norm).map Edg.n = es.map Edg.n := by
  rw [List.map_map]
  rfl
section
variable {P : Program} {w : World} {K : PySem.W.Frag} {mg : Str → Option Value} {base : Heap}
theorem ok_N_init (PF : PP P) (Z : Tz w K mg) : FnOk P w K mg base (L2N.CX P w) 6 (a_N_init K) (f_N_init K) P_N_init (spNI K) := by
  have T := Z.t
  refine T.d_N_init.ok sc_N_init (fun vs H Q E h => by obtain ⟨_, _, _, _, _, _, _, rfl, _⟩ := h; rfl) (fun cdv A outer s H vs Q E hr h => ?_)
  have hu := hu_of hr
  have nd := sc_N_init.nd
  have hsz := sizeLine_eq
  refine ⟨_, (pss_cons (ps_fld (pv 0) (pe_call (ok_checked_nodes PF Z) (hr.mono (by decide)) (by rfl) T.g_checked_nodes T.k_checked_nodes T.b_checked_nodes .nil (L2N.passes_call (W := fun cls d _ H => E cls d H) (L2N.takes_of rfl rfl rfl rfl) (fun _ _ _ _ h => h)) (pa_cons (pv 1) pa_nil)) rfl)
    (pss_cons (ps_fld (pv 0) (pe_call (ok_checked_edges PF Z) (hr.mono (by decide)) (by rfl) T.g_checked_edges T.k_checked_edges T.b_checked_edges .nil (L2N.passes_call (W := fun cls d _ H => E cls d H) (L2N.takes_of rfl rfl rfl rfl) (fun _ _ _ _ h => h)) (pa_cons (pv 2) (pa_cons (pe_fld (pv 0) rfl) pa_nil))) rfl)
    (pss_one (ps_fld (pv 0) (pe_dc (own := [("edge", 3)]) (g := (gName 3)) (tt := tYes) (by rfl) nd (pi_tup (pe_fld (pv 0) rfl)) (blkOk_by (N := N_N_init) (sc := defScope st_N_init) (by decide +kernel)) (fun _ _ _ _ _ => (pg_name (i := 3) nd rfl (Or.inl rfl))) (fun _ _ _ _ _ => pts_nil) (fun _ _ _ _ _ => (pe_ix (show IxR _ (rIxT K) from ix_tup) (pv 3) pe_int (fun _ _ => rfl))) (fun _ _ _ _ _ => (pv 3))) rfl)))), ?_⟩
  obtain ⟨R, x, dx, v, ev, nds, eds, rfl, k, hx, rx, hv, on, ln, he, oe, le, qe, q⟩ := h
  refine ⟨_, rfl, R, v, nds, rfl, k, hv, on, ln, fun d hd => (qe (.node d) (by unfold due; rw [hd])).via fun R' H' f => f.s0, fun ns ns' R1 H1 v1 hw hns hperm hsort f1 t1 => ?_⟩
  have hn : namL nds = ns := by rw [hns, namL_map]
  have hl : ns'.length ≤ 60 := by rw [hperm.length_eq]; rw [hns, List.length_map] at ln; exact ln
  obtain ⟨p, pvs, rfl, e1, e2, _⟩ := t1.isT K f1.rh
  rw [e2.strs] at e1
  have hx1 := f1.kp _ _ hx (by simp)
  have rx1 := f1.nr rx hx
  refine ⟨_, rfl, x, CN K, dx, [], rfl, hx1, T.clN, T.n_own_nodes, by decide, ?_⟩
  have f2 : Fx [x] R H R1 (upd H1 x (.ins (CN K) dx (putF "own_nodes" (.ref p) []))) := (f1.s0).put rx1 (.inl (by simp))
  have hx2 : upd H1 x (.ins (CN K) dx (putF "own_nodes" (.ref p) [])) x = some (.ins (CN K) dx [("own_nodes", .ref p)]) := upd_same
  show tSeq _ _ _ _ (upd H1 x (.ins (CN K) dx (putF "own_nodes" (.ref p) [])))
  generalize upd H1 x (.ins (CN K) dx (putF "own_nodes" (.ref p) [])) = H2 at f2 hx2 ⊢
  have hwe : ∀ o, weGo ns' [] eds = o → weGo (namL nds) [] eds = o := fun o h => by rw [hn, ← h]; exact (weGo_perm hperm eds []).symm
  refine ⟨_, rfl, _, rfl, x, CN K, dx, _, .ref p, rfl, hx2, T.clN, T.n_own_nodes, rfl, R1, ev, eds, p, ns', rfl, f2.rh, ?_, oe, le, e1, by omega, fun d hd => ?_, fun es hw2 hes hf => ?_, fun es rs R3 H3 v3 hw2 hes hf hpe hse f3 t3 => ?_⟩
  · rcases he with h | h
    · exact .inl (h.up f1.rr)
    · exact .inr (h.up f1.rr)
  · refine (qe (.edge d) (by unfold due; rw [hw, hwe _ hd])).via fun R' H' f => f2.trans f.s0
  · refine (qe (.many 10) (by unfold due; rw [hw, hwe _ hw2]; show (if _ then _ else _) = _; rw [hes, edgs_map, hf]; rfl)).via fun R' H' f => f2.trans f.s0
  have hdue : due nds eds = none := by unfold due; rw [hw, hwe _ hw2]; show (if _ then _ else _) = _; rw [hes, edgs_map, hf]; rfl
  have hx3 := f3.kp _ _ hx2 (by simp)
  have rx3 := f3.nr rx1 hx2
  have f4 := f2.trans f3.s0
  obtain ⟨c, cvs, rfl, c1, c2, _⟩ := t3.isT K f3.rh
  refine ⟨_, rfl, x, CN K, dx, _, rfl, hx3, T.clN, T.n_own_edges, by show 1 < 1000; decide, ?_⟩
  have f5 : Fx [x] R H R3 (upd H3 x (.ins (CN K) dx (putF "own_edges" (.ref c) [("own_nodes", .ref p)]))) := f4.put rx3 (.inl (by simp))
  have hx5 : upd H3 x (.ins (CN K) dx (putF "own_edges" (.ref c) [("own_nodes", .ref p)])) x = some (.ins (CN K) dx [("own_nodes", .ref p), ("own_edges", .ref c)]) := upd_same
  show tSeq _ _ _ _ (upd H3 x (.ins (CN K) dx (putF "own_edges" (.ref c) [("own_nodes", .ref p)])))
  generalize upd H3 x (.ins (CN K) dx (putF "own_edges" (.ref c) [("own_nodes", .ref p)])) = H5 at f5 hx5 ⊢
  have hrl : rs.length ≤ 60 := by
    rw [hpe.length_eq, List.length_map]
    rw [hes, List.length_map] at le
    exact le
  have hnd : (rs.map Edg.n).Nodup := by
    obtain ⟨es', h1, _, h2⟩ := weGo_ok _ _ hw2 List.nodup_nil
    rw [hes] at h1
    have := map_d_inj h1
    subst this
    have := hpe.map Edg.n
    rw [norm_n] at this
    exact this.nodup_iff.mpr h2
  refine ⟨_, rfl, x, CN K, dx, _, .ref c, rfl, hx5, T.clN, T.n_own_edges, rfl, c, rfl, ⟨_, SqT.of (f5.rh _ _ c1)⟩, fun D hD => ?_⟩
  have cl := c2.length
  rw [List.length_map] at cl
  refine dc_it (walk_tup (xs := cvs)) (initI K R H R3 x dx p c D rs) ⟨fun _ => .non, f5.newH hD, by rw [upd_ne (ne_of_none hx5 hD)]; exact hx5, upd_same, by simp⟩ (fun i H' _ ⟨_, f, _⟩ => SqT.of (f.rh _ _ c1)) (fun i y H' H'' hi ⟨g, f, hx', hd', hg⟩ yy => ?_) (fun H6 ⟨g, f6, hx6, hd6, hg6⟩ => ?_)
  · obtain ⟨rfl, hy⟩ := yy
    have hi' : i < rs.length := by omega
    obtain ⟨d, d1, d2⟩ := c2.get hy
    rw [List.getElem?_map, List.getElem?_eq_getElem hi'] at d1
    cases d1
    have d3 := d2
    obtain ⟨t, tvs, nv, rfl, sE, eE, hv2⟩ := d2.ixT K f.rh (j := 0) rfl
    cases hv2
    have hnm : rs[i].n ∉ (rs.take i).map Edg.n := by
      intro z
      have h1 : (rs.map Edg.n).take (i + 1) = (rs.take i).map Edg.n ++ [rs[i].n] := by rw [← List.map_take, take_snoc _ _ hi', List.map_append]; rfl
      have h2 : ((rs.map Edg.n).take (i + 1)).Nodup := hnd.sublist (List.take_sublist _ _)
      rw [h1, List.nodup_append] at h2
      exact h2.2.2 _ z _ (List.mem_singleton.mpr rfl) rfl
    refine ⟨rfl, iteT (B := initI K R H R3 x dx p c D rs (i + 1) H'') ?_⟩
    refine ⟨_, rfl, t, _, _, _, rfl, rfl, sE, at_of2 (j := 0) rfl eE, _, rfl, _, Sum.inr rs[i].n, rfl, hd', by rw [kv_len, List.length_map, List.length_take]; omega, fun v => if v = rs[i].n then .ref t else g v, f.put (same_none f5.rh hD) (.inr (f5.gone hD)), ?_, ?_, ?_⟩
    · rw [upd_ne (fun z => by rw [z, hd'] at hx'; cases hx')]; exact hx'
    · rw [upd_same, putK_kv, addK, if_neg hnm, take_snoc _ _ hi', List.map_append]; rfl
    · intro e' he'
      rw [take_snoc _ _ hi'] at he'
      rcases List.mem_append.mp he' with he' | he'
      · have hne : e'.n ≠ rs[i].n := fun z => hnm (by rw [← z]; exact List.mem_map_of_mem he')
        show At R3 (if e'.n = rs[i].n then _ else _) _
        rw [if_neg hne]
        exact hg e' he'
      · rw [List.mem_singleton.mp he']
        show At R3 (if rs[i].n = rs[i].n then _ else _) _
        rw [if_pos rfl]
        exact d3
  · rw [cl, List.take_of_length_le (Nat.le_refl _)] at hd6 hg6
    refine ⟨_, rfl, x, CN K, dx, _, rfl, hx6, T.clN, T.n_by_name, by show 2 < 1000; decide, ?_⟩
    obtain ⟨R7, f7, e7, m7⟩ := f6.fz hd6 (f5.gone hD) (same_none f5.rh hD)
    have rx7 : R7 x = none := f7.nr rx hx
    have f8 : Fx [x] R H R7 (upd H6 x (.ins (CN K) dx (putF "by_name" (.ref D) [("own_nodes", .ref p), ("own_edges", .ref c)]))) := f7.put rx7 (.inl (by simp))
    refine q ⟨ns', rs⟩ R7 _ hdue ⟨?_, hsort, ?_, hse⟩ f8 rx7 ⟨dx, p, c, D, cvs, g, upd_same, m7 _ _ (f3.rr _ _ e1), m7 _ _ c1, c2.up m7, e7, fun e he => (hg6 e he).up m7⟩
    · rw [hn]; exact hperm
    · rw [hes, edgs_map]; exact hpe
end
end Ld
/-! Nf: what the methods of a network need. -/
namespace Ld
open PySem L2 PyProof.Rows
section
variable {P : Program} {w : World} {K : PySem.W.Frag} {mg : Str → Option Value} {base : Heap} {x qual : Str} {params : Arguments} {body : List Stmt} {scope : Scope} {f : Addr} {fd : FuncData}
theorem defS {CX : CXT} {pv : Str} {N : List Str} {k : Nat} {sp : Sp} (F : FunD K x qual params body scope [] [] f fd) (S : FnScope N ([("self" : Str)] ++ [pv]) scope) (hCX : StX.CXUp CX)
    (hb : ∀ (kV doc pm : Value) (an : Option Addr) (cdv ct : Value) (us rest : List Value), us.length = 1 → bindArgs (PySem.W.fnOf x qual params body scope .none kV doc pm an cdv ct) ⟨us ++ rest, []⟩ = (newTuple rest >>= fun t => pure ([("self" : Str)].zip us ++ [(pv, t)])))
    (hbody : ∀ (cdv : Value) (A : Around) (outer : List Env) (s : Shared) (H : Hp) (vs : List V) (Q : VK) (E : XK), Room k (A.deeper (envOfC qual scope s.heap.objs.size f cdv)) → sp vs H Q E →
      ∃ t, PSs (cxOf CX P w K mg base N qual scope f cdv A outer s H E) body t ∧ t { nx := fun _ H' => Q .non H', rt := Q } (start N vs) H) :
    FnR P w K mg base CX (k + 1) f (fun vs H Q E => ∃ ws rest, vs = ws ++ rest ∧ ws.length = [("self" : Str)].length ∧ rest.length ≤ sizeLine ∧ ∀ p, H p = Option.none → sp (ws ++ [V.ref p]) (upd H p (.tup rest)) Q E) := by
  obtain ⟨oc, od, dV, kV, doc, pm, an, cdv, ct, osl, rfl, lk, hcd, hD, hK⟩ := F.ex
  rcases hD with ⟨_, rfl⟩ | ⟨e, _⟩
  · exact StX.fn_star lk hcd S hCX (hb kV doc pm an cdv ct) fun A outer s H vs Q E hr h => hbody cdv A outer s H vs Q E hr h
  · exact absurd rfl e
theorem bN_init (T : Tx w K mg) : Binds K (f_N_init K) P_N_init [] := by
  obtain ⟨ds, r, b⟩ := FunD.binds1 (ps := P_N_init) T.d_N_init 3 1 (by intro h; cases h) rfl (fun _ _ _ _ _ _ _ us its hl hi => match us, hl, its, hi with | [_, _, _], _, [_], _ => ⟨_, rfl, rfl⟩)
  cases r
  exact b
/-- a network is made -/
theorem mk_net {R H1 : Hp} {v ev : V} {nds eds : List PyData} {Q : VK} {E : XK} (k : Same R H1) (hv : AtS R v nds) (on : okSs nds = true) (ln : nds.length ≤ 60) (he : AtS R ev eds) (oe : okSs eds = true) (le : eds.length ≤ 60)
    (qe : ∀ e, due nds eds = some e → ER K [] R H1 E e) (q : ∀ (N : Net) (R' H' : Hp) (v' : V), due nds eds = none → NormOf N (namL nds) (edgs eds) → Fx [] R H1 R' H' → NetAt K R' v' N → Q v' H') :
    ∀ x dx, H1 x = none → H1 dx = none → dx ≠ x → spNI K (.ref x :: ([v, ev] ++ [])) (upd (upd H1 dx (.own x)) x (.ins (CN K) dx [])) (fun v H2 => v = .non ∧ Q (.ref x) H2) E := by
  intro x dx hx hdx hne
  have f0 : Fx [] R H1 R (upd (upd H1 dx (.own x)) x (.ins (CN K) dx [])) := ((Fx.refl k).newH hdx).newH (by rw [upd_ne hne.symm]; exact hx)
  have rx : R x = none := same_none k hx
  refine ⟨R, x, dx, v, ev, nds, eds, rfl, f0.rh, upd_same, rx, hv, on, ln, he, oe, le, fun e he => (qe e he).via fun R' H' f => ?_, fun N R' H' hd hn f rx' hN => ⟨rfl, ?_⟩⟩
  · exact (f0.sub (M' := [x]) (by simp)).trans f |>.drop hx
  · have f1 : Fx [] R H1 R' H' := ((f0.sub (M' := [x]) (by simp)).trans f).drop hx
    obtain ⟨dx, p, q', b, vs, g, h1, h2, h3, h4, h5, h6⟩ := hN
    obtain ⟨R2, f2, e2, m2⟩ := f1.fz h1 hx rx'
    exact q N R2 H' _ hd hn f2 ⟨x, dx, p, q', b, vs, g, rfl, e2, m2 _ _ h2, m2 _ _ h3, h4.up m2, m2 _ _ h5, fun e he => (h6 e he).up m2⟩
end
end Ld
/-! Ng: the methods of a network. -/
namespace Ld
open PySem L2 PyProof.Rows
/-- a network is made of nds, eds, or an error is raised -/
def Made (K : PySem.W.Frag) (R H : Hp) (Q : VK) (E : XK) (nds eds : List PyData) : Prop :=
  (∀ e, due nds eds = some e → ER K [] R H E e) ∧ ∀ (N' : Net) (R' H' : Hp) (v' : V), due nds eds = none → NormOf N' (namL nds) (edgs eds) → Fx [] R H R' H' → NetAt K R' v' N' → Q v' H'
theorem Made.then {K : PySem.W.Frag} {R H R1 H1 : Hp} {Q : VK} {E : XK} {nds eds : List PyData} (h : Made K R H Q E nds eds) (f : Fx [] R H R1 H1) : Made K R1 H1 Q E nds eds :=
  ⟨fun e he => (h.1 e he).then f (by simp), fun N' R' H' v' hd hn g => h.2 N' R' H' v' hd hn (f.trans g)⟩
theorem Made.mk {K : PySem.W.Frag} {R H1 : Hp} {v ev : V} {nds eds : List PyData} {Q : VK} {E : XK} (h : Made K R H1 Q E nds eds) (k : Same R H1) (hv : AtS R v nds) (on : okSs nds = true) (ln : nds.length ≤ 60) (he : AtS R ev eds) (oe : okSs eds = true) (le : eds.length ≤ 60) :
    ∀ x dx, H1 x = none → H1 dx = none → dx ≠ x → spNI K (.ref x :: ([v, ev] ++ [])) (upd (upd H1 dx (.own x)) x (.ins (CN K) dx [])) (fun v H2 => v = .non ∧ Q (.ref x) H2) E :=
  mk_net k hv on ln he oe le h.1 h.2
structure NetLe (N : Net) (m : Nat) : Prop where
  nl : N.ns.length ≤ 40
  el : N.es.length ≤ m
  nm : ∀ n ∈ N.ns, isNameS n = true
  ed : ∀ e ∈ N.es, isEdge e.d N.ns = true
def spNeed (K : PySem.W.Frag) : Sp := fun vs H Q E => ∃ (R : Hp) (a v : V) (d : PyData) (N : Net), vs = [a, v] ∧ Same R H ∧ NetAt K R a N ∧ At R v d ∧ okS d = true ∧
  (inS d (N.es.map Edg.n) = false → ER K [] R H E (.noEdge d)) ∧ (inS d (N.es.map Edg.n) = true → ∀ H', Fx [] R H R H' → Q .non H')
def spWithN (K : PySem.W.Frag) : Sp := fun vs H Q E => ∃ (R : Hp) (a v : V) (p : Addr) (d : PyData) (N : Net), vs = [a, .ref p] ∧ Same R H ∧ NetAt K R a N ∧ R p = some (.tup [v]) ∧ At R v d ∧ okS d = true ∧ NetLe N 59 ∧ Made K R H Q E (N.ns.map PyData.str ++ [d]) (N.es.map Edg.d)
def spWithE (K : PySem.W.Frag) : Sp := fun vs H Q E => ∃ (R : Hp) (a v : V) (p : Addr) (d : PyData) (N : Net), vs = [a, .ref p] ∧ Same R H ∧ NetAt K R a N ∧ R p = some (.tup [v]) ∧ At R v d ∧ okS d = true ∧ NetLe N 59 ∧ Made K R H Q E (N.ns.map PyData.str) (N.es.map Edg.d ++ [d])
/-- two tuples of data, one behind the other -/
def rCatS : R2 := fun x y H Q => ∃ (R : Hp) (ds es : List PyData), Same R H ∧ At R x (.tuple ds) ∧ At R y (.tuple es) ∧ ds.length + es.length ≤ 16777216 ∧ ∀ R' H' t, Fx [] R H R' H' → At R' t (.tuple (ds ++ es)) → Q t H'
theorem op_catS {X : Cx} : OpR X (binaryOp .Add) rCatS := by
  intro pins s σ H x y v u Q I rx ry ⟨R, ds, es, k, hx, hy, hl, q⟩
  obtain ⟨a, xs, rfl, e1, e2, _⟩ := hx.isT X.K k
  obtain ⟨b, ys, rfl, c1, c2, _⟩ := hy.isT X.K k
  refine op_catA pins s σ H _ _ v u Q I rx ry ⟨a, b, xs, ys, rfl, rfl, SqT.of (k _ _ e1), SqT.of (k _ _ c1), by rw [e2.length, c2.length, sizeLine_eq]; exact hl, fun z => ?_, fun _ z => ?_, fun _ _ p hp => ?_⟩
  · subst z
    cases e2
    exact q R H _ (Fx.refl k) hy
  · subst z
    cases c2
    refine q R H _ (Fx.refl k) ?_
    rw [List.append_nil]
    exact hx
  · obtain ⟨R1, f1, t1, m1⟩ := nw_tup k (e2.app c2) hp
    exact q R1 _ _ f1 t1
theorem okSs_strs : ∀ {ns : List Str}, (∀ n ∈ ns, isNameS n = true) → okSs (ns.map PyData.str) = true
  | [], _ => rfl
  | n :: r, h => by
    show (okS (.str n) && okSs (r.map PyData.str)) = true
    rw [okSs_strs (ns := r) fun x hx => h x (List.mem_cons_of_mem _ hx), Bool.and_true]
    exact decide_eq_true (Nat.le_trans (isNameS_len (h n List.mem_cons_self)).2 (by decide))
theorem okSs_app : ∀ {a b : List PyData}, okSs a = true → okSs b = true → okSs (a ++ b) = true
  | [], b, _, h => h
  | x :: r, b, h, g => by
    have h : (okS x && okSs r) = true := h
    rw [Bool.and_eq_true] at h
    show (okS x && okSs (r ++ b)) = true
    rw [h.1, okSs_app h.2 g]; rfl
theorem okSs_edgs {ns : List Str} : ∀ {es : List Edg}, (∀ e ∈ es, isEdge e.d ns = true) → okSs (es.map Edg.d) = true
  | [], _ => rfl
  | e :: r, h => by
    show (okS e.d && okSs (r.map Edg.d)) = true
    rw [okSs_edgs (es := r) fun x hx => h x (List.mem_cons_of_mem _ hx), Bool.and_true]
    have he := isEdge_iff.mp (h e List.mem_cons_self)
    have h1 := isNameS_len he.1
    have h2 := isNameS_len he.2.1
    have h3 := isNameS_len he.2.2.1
    unfold Edg.d
    simp [okS, okSs]
    omega
section
variable {P : Program} {w : World} {K : PySem.W.Frag} {mg : Str → Option Value} {base : Heap}
theorem ok_N_need_edge (PF : PP P) (Z : Tz w K mg) : FnOk P w K mg base (L2N.CX P w) 2 (a_N_need_edge K) (f_N_need_edge K) P_N_need_edge (spNeed K) := by
  have T := Z.t
  refine T.d_N_need_edge.ok sc_N_need_edge (fun vs H Q E h => by obtain ⟨_, _, _, _, _, rfl, _⟩ := h; rfl) (fun cdv A outer s H vs Q E hr h => ?_)
  have hu := hu_of hr
  have hu3 : (A.deeper (envOfC "Network.need_edge" (defScope st_N_need_edge) s.heap.objs.size (a_N_need_edge K) cdv)).units + 65 < cLine := by have := hr.un; omega
  have nd := sc_N_need_edge.nd
  refine ⟨_, (pss_one (ps_if (PW.pt (pw_or (pt_not (pt_val (pe_callB call_isi (by rfl) T.f_isinstance boot_isinstance (pa_cons (pv 1) (pa_cons (pe_bltn (v := .ty "str") (by rfl) T.f_str boot_str rfl) pa_nil))))) (pw_or1 (pt_cmpR (op_notKn hu3) (pv 1) (pe_fld (pv 0) rfl) (by rfl)))))
      (pss_one (ps_raiseX rfl PF.toPFacts (Z.x_UnknownEdge PF) T.g_UnknownEdge T.f_super hr (L2N.takes_of rfl rfl rfl rfl) (pa_cons (pv 1) pa_nil)))
      pss_nil)), ?_⟩
  obtain ⟨R, av, v, d, N, rfl, k, hN, hd, od, qe, q⟩ := h
  obtain ⟨a, dx, p, q', b, vs, g, rfl, h1, h2, h3, h4, h5, h6⟩ := hN.ob
  refine ⟨_, rfl, v, _, _, _, _, rfl, .ty _, hd.tyx k, kS K d, ?_⟩
  refine ⟨_, rfl, ?_⟩
  refine iteB (fun h1' => ?_) (fun h1' => ?_)
  · have h1' : isSt d = true := by simpa using h1'
    cases d with
    | str z =>
      cases hd
      refine ⟨_, rfl, _, rfl, a, CN K, dx, _, .ref b, rfl, k _ _ h1, T.clN, T.n_by_name, rfl, z, b, N.es.map Edg.n, rfl, rfl, .inr ⟨g, .inl (k _ _ h5)⟩, _, rfl, ?_⟩
      refine iteB (fun h2' => ?_) (fun h2' => ?_)
      · have h2' : inS (.str z) (N.es.map Edg.n) = true := by rw [inS_dec]; simpa using h2'
        exact q h2' H (Fx.refl k)
      · have h2' : inS (.str z) (N.es.map Edg.n) = false := by rw [inS_dec]; simpa using h2'
        exact ⟨_, rfl, _, rfl, fun dd hdd => ER.mk (qe h2') rfl (Fx.refl k) (.str z) hdd⟩
    | _ => cases h1'
  · have h1' : isSt d = false := by simpa using h1'
    exact ⟨_, rfl, _, rfl, fun dd hdd => ER.mk (qe (inS_not h1' _)) rfl (Fx.refl k) hd hdd⟩
theorem ok_N_with_nodes (PF : PP P) (Z : Tz w K mg) : FnR P w K mg base (L2N.CX P w) 8 (a_N_with_nodes K) (fun vs H Q E => ∃ ws rest, vs = ws ++ rest ∧ ws.length = [("self" : Str)].length ∧ rest.length ≤ sizeLine ∧ ∀ p, H p = Option.none → spWithN K (ws ++ [V.ref p]) (upd H p (.tup rest)) Q E) := by
  have T := Z.t
  refine defS T.d_N_with_nodes sc_N_with_nodes cxUpN (fun kV doc pm an cdv ct => StX.bind_star1 (B := fun us => bindArgs (PySem.W.fnOf "with_nodes" "Network.with_nodes" (defArgs st_N_with_nodes) (defBody st_N_with_nodes) (defScope st_N_with_nodes) .none kV doc pm an cdv ct) ⟨us, []⟩) (fun a => rfl) (fun a r rs => rfl)) (fun cdv A outer s H vs Q E hr h => ?_)
  have hu := hu_of hr
  have nd := sc_N_with_nodes.nd
  refine ⟨_, (pss_one (ps_ret (pe_make T.mkN (ok_N_init PF Z) (hr.mono (by decide)) (by rfl) T.g_Network (bN_init T) .nil (L2N.passes_call (W := fun cls d _ H => E cls d H) (L2N.takes_of rfl rfl rfl rfl) (fun _ _ _ _ h => h)) (pa_cons (pe_op op_catS (pe_fld (pv 0) rfl) (pv 1)) (pa_cons (pe_fld (pv 0) rfl) pa_nil))))), ?_⟩
  obtain ⟨R, av, v, p, d, N, rfl, k, hN, hp, hd, od, hle, q⟩ := h
  obtain ⟨a, dx, p', q', b, vs, g, rfl, h1, h2, h3, h4, h5, h6⟩ := hN.ob
  have f0 := Fx.refl (M := []) k
  refine ⟨_, rfl, a, CN K, dx, _, .ref p', rfl, k _ _ h1, T.clN, T.n_own_nodes, rfl, _, rfl, R, N.ns.map PyData.str, [d], k, .tup h2 (atL_strs R N.ns), .tup hp (.cons hd .nil), ?_, fun R1 H1 t f1 t1 => ?_⟩
  · have := hle.nl
    rw [List.length_map]
    show _ + 1 ≤ _
    omega
  have m1 := f1.rr
  refine ⟨_, rfl, a, CN K, dx, _, .ref q', rfl, f1.rh _ _ (m1 _ _ h1), T.clN, T.n_own_edges, rfl, (q.then f1).mk f1.rh (.inr t1) (okSs_app (okSs_strs hle.nm) (by show (okS d && true) = true; rw [od]; rfl)) ?_ (.inr (.tup (m1 _ _ h3) (h4.up m1))) (okSs_edgs hle.ed) ?_⟩
  · have := hle.nl
    rw [List.length_append, List.length_map]
    show _ + 1 ≤ _
    omega
  · have := hle.el
    rw [List.length_map]
    omega
theorem ok_N_with_edges (PF : PP P) (Z : Tz w K mg) : FnR P w K mg base (L2N.CX P w) 8 (a_N_with_edges K) (fun vs H Q E => ∃ ws rest, vs = ws ++ rest ∧ ws.length = [("self" : Str)].length ∧ rest.length ≤ sizeLine ∧ ∀ p, H p = Option.none → spWithE K (ws ++ [V.ref p]) (upd H p (.tup rest)) Q E) := by
  have T := Z.t
  refine defS T.d_N_with_edges sc_N_with_edges cxUpN (fun kV doc pm an cdv ct => StX.bind_star1 (B := fun us => bindArgs (PySem.W.fnOf "with_edges" "Network.with_edges" (defArgs st_N_with_edges) (defBody st_N_with_edges) (defScope st_N_with_edges) .none kV doc pm an cdv ct) ⟨us, []⟩) (fun a => rfl) (fun a r rs => rfl)) (fun cdv A outer s H vs Q E hr h => ?_)
  have hu := hu_of hr
  have nd := sc_N_with_edges.nd
  refine ⟨_, (pss_one (ps_ret (pe_make T.mkN (ok_N_init PF Z) (hr.mono (by decide)) (by rfl) T.g_Network (bN_init T) .nil (L2N.passes_call (W := fun cls d _ H => E cls d H) (L2N.takes_of rfl rfl rfl rfl) (fun _ _ _ _ h => h)) (pa_cons (pe_fld (pv 0) rfl) (pa_cons (pe_op op_catS (pe_fld (pv 0) rfl) (pv 1)) pa_nil))))), ?_⟩
  obtain ⟨R, av, v, p, d, N, rfl, k, hN, hp, hd, od, hle, q⟩ := h
  obtain ⟨a, dx, p', q', b, vs, g, rfl, h1, h2, h3, h4, h5, h6⟩ := hN.ob
  have hl4 := h4.length
  rw [List.length_map] at hl4
  refine ⟨_, rfl, a, CN K, dx, _, .ref p', rfl, k _ _ h1, T.clN, T.n_own_nodes, rfl, _, rfl, a, CN K, dx, _, .ref q', rfl, k _ _ h1, T.clN, T.n_own_edges, rfl, _, rfl, R, N.es.map Edg.d, [d], k, .tup h3 h4, .tup hp (.cons hd .nil), ?_, fun R1 H1 t f1 t1 => ?_⟩
  · have := hle.el
    rw [List.length_map]
    show _ + 1 ≤ _
    omega
  have m1 := f1.rr
  refine (q.then f1).mk f1.rh (.inr (.tup (m1 _ _ h2) (atL_strs R1 N.ns))) (okSs_strs hle.nm) ?_ (.inr t1) (okSs_app (okSs_edgs hle.ed) (by show (okS d && true) = true; rw [od]; rfl)) ?_
  · have := hle.nl
    rw [List.length_map]
    omega
  · have := hle.el
    rw [List.length_append, List.length_map]
    show _ + 1 ≤ _
    omega
end
end Ld
/-! Nh: without_nodes, without_edges. -/
namespace Ld
open PySem L2 PyProof.Rows
def leftN (d : PyData) (ns : List Str) : List Str := ns.filter fun n => !isS n d
def leftE (left : List Str) (es : List Edg) : List Edg := es.filter fun e => decide (e.u ∈ left) && decide (e.v ∈ left)
def cutE (d : PyData) (es : List Edg) : List Edg := es.filter fun e => !isS e.n d
def spNoN (K : PySem.W.Frag) : Sp := fun vs H Q E => ∃ (R : Hp) (a v : V) (p : Addr) (d : PyData) (N : Net), vs = [a, .ref p] ∧ Same R H ∧ NetAt K R a N ∧ R p = some (.tup [v]) ∧ At R v d ∧ okS d = true ∧ NetLe N 60 ∧
  (inS d N.ns = false → ER K [] R H E (.noNode d)) ∧ (inS d N.ns = true → Made K R H Q E ((leftN d N.ns).map PyData.str) ((leftE (leftN d N.ns) N.es).map Edg.d))
def spNoE (K : PySem.W.Frag) : Sp := fun vs H Q E => ∃ (R : Hp) (a v : V) (p : Addr) (d : PyData) (N : Net), vs = [a, .ref p] ∧ Same R H ∧ NetAt K R a N ∧ R p = some (.tup [v]) ∧ At R v d ∧ okS d = true ∧ NetLe N 60 ∧
  (inS d (N.es.map Edg.n) = false → ER K [] R H E (.noEdge d)) ∧ (inS d (N.es.map Edg.n) = true → Made K R H Q E (N.ns.map PyData.str) ((cutE d N.es).map Edg.d))
theorem inS_str {d : PyData} {ns : List Str} (h : inS d ns = true) : ∃ z, d = .str z := by
  cases hs : isSt d with
  | false => rw [inS_not hs] at h; cases h
  | true =>
    cases d with
    | str z => exact ⟨z, rfl⟩
    | _ => cases hs
theorem isS_eq (n z : Str) : isS n (.str z) = decide (n = z) := by
  by_cases h : n = z
  · rw [decide_eq_true h, h]; exact beq_self_eq_true z
  · rw [decide_eq_false h]; exact beq_eq_false_iff_ne.mpr h
theorem inS_one (n z : Str) : inS (.str n) [z] = isS n (.str z) := by
  rw [inS_dec, isS_eq]
  by_cases h : n = z
  · rw [decide_eq_true h, decide_eq_true (List.mem_singleton.mpr h)]
  · rw [decide_eq_false h, decide_eq_false (fun z => h (List.mem_singleton.mp z))]
section
variable {P : Program} {w : World} {K : PySem.W.Frag} {mg : Str → Option Value} {base : Heap}
theorem ok_N_without_edges (PF : PP P) (Z : Tz w K mg) : FnR P w K mg base (L2N.CX P w) 8 (a_N_without_edges K) (fun vs H Q E => ∃ ws rest, vs = ws ++ rest ∧ ws.length = [("self" : Str)].length ∧ rest.length ≤ sizeLine ∧ ∀ p, H p = Option.none → spNoE K (ws ++ [V.ref p]) (upd H p (.tup rest)) Q E) := by
  have T := Z.t
  refine defS T.d_N_without_edges sc_N_without_edges cxUpN (fun kV doc pm an cdv ct => StX.bind_star1 (B := fun us => bindArgs (PySem.W.fnOf "without_edges" "Network.without_edges" (defArgs st_N_without_edges) (defBody st_N_without_edges) (defScope st_N_without_edges) .none kV doc pm an cdv ct) ⟨us, []⟩) (fun a => rfl) (fun a r rs => rfl)) (fun cdv A outer s H vs Q E hr h => ?_)
  have hu := hu_of hr
  have hu3 : (A.deeper (envOfC "Network.without_edges" (defScope st_N_without_edges) s.heap.objs.size (a_N_without_edges K) cdv)).units + 65 < cLine := by have := hr.un; omega
  have nd := sc_N_without_edges.nd
  refine ⟨_, (pss_cons (ps_set (i := 2) nd rfl (Or.inl rfl) (pe_call (ok_first_unknown T) (hr.mono (by decide)) (by rfl) T.g_first_unknown T.k_first_unknown T.b_first_unknown .nil pass0 (pa_cons (pv 1) (pa_cons (pe_fld (pv 0) rfl) pa_nil))))
    (pss_cons (ps_if (pt_cmpR op_notN (pv 2) pe_non (nomark _))
      (pss_one (ps_raiseX rfl PF.toPFacts (Z.x_UnknownEdge PF) T.g_UnknownEdge T.f_super hr (L2N.takes_of rfl rfl rfl rfl) (pa_cons (pe_ix ix_tup (pv 2) pe_int (fun _ _ => rfl)) pa_nil)))
      pss_nil)
    (pss_one (ps_ret (pe_make T.mkN (ok_N_init PF Z) (hr.mono (by decide)) (by rfl) T.g_Network (bN_init T) .nil (L2N.passes_call (W := fun cls d _ H => E cls d H) (L2N.takes_of rfl rfl rfl rfl) (fun _ _ _ _ h => h)) (pa_cons (pe_fld (pv 0) rfl) (pa_cons (pe_lc (own := [("edge", 3)]) (g := (gName 3)) (by rfl) nd (pi_tup (pe_fld (pv 0) rfl)) (blkOk_by (N := N_N_without_edges) (sc := defScope st_N_without_edges) (by decide +kernel)) (fun _ _ _ _ _ => (pg_name (i := 3) nd rfl (Or.inl rfl))) (fun _ _ _ _ _ => (pts_one (pt_cmpR (show OpR _ _ (rInN K true) from op_notInN hu3) (pe_ix (show IxR _ (rIxT K) from ix_tup) (pv 3) pe_int (fun _ _ => rfl)) (pv 1) (by rfl)))) (fun _ _ _ _ _ => (pv 3))) pa_nil))))))), ?_⟩
  obtain ⟨R, av, v, p, d, N, rfl, k, hN, hp, hd, od, hle, qe, q⟩ := h
  obtain ⟨a, dx, p', q', b, vs, g, rfl, h1, h2, h3, h4, h5, h6⟩ := hN.ob
  have hl4 := h4.length
  rw [List.length_map] at hl4
  have hel := hle.el
  refine ⟨_, rfl, _, rfl, a, CN K, dx, _, .ref b, rfl, k _ _ h1, T.clN, T.n_by_name, rfl, R, p, b, v, d, N.es.map Edg.n, rfl, k, hp, hd, od, .inr ⟨g, h5⟩, fun hin H1 f1 => ?_, fun hin R1 H1 x1 f1 t1 => ?_⟩
  · refine ⟨_, rfl, rfl, _, rfl, ?_⟩
    obtain ⟨z, rfl⟩ := inS_str hin
    cases hd
    refine ⟨_, rfl, a, CN K, dx, _, .ref p', rfl, f1.rh _ _ h1, T.clN, T.n_own_nodes, rfl, _, rfl, a, CN K, dx, _, .ref q', rfl, f1.rh _ _ h1, T.clN, T.n_own_edges, rfl, q', rfl, ⟨_, SqT.of (f1.rh _ _ h3)⟩, fun D hD => ?_⟩
    refine lc_data (walk_tup (xs := vs)) [] (fun i => (cutE (.str z) (N.es.take i)).map Edg.d) (fun _ _ _ => True) f1.rh hD (by simp) (fun i hi => ?_) rfl trivial (fun _ R H _ f _ => SqT.of (f.rh _ _ (f.rr _ _ h3))) (fun _ _ _ _ _ _ => trivial) (fun i x R' H' H'' vs' Cy Cn hi f r hv ac e y ky kn => ?_) (fun R4 H4 vs' f4 r hv ac _ => ?_)
    · have h1 := List.length_filter_le (fun e : Edg => !isS e.n (.str z)) (N.es.take i)
      unfold cutE
      simp only [List.length_map, List.length_take, sizeLine_eq] at h1 ⊢
      omega
    · obtain ⟨rfl, hx⟩ := y
      have hi' : i < N.es.length := by omega
      obtain ⟨d, d1, d2⟩ := h4.get hx
      rw [List.getElem?_map, List.getElem?_eq_getElem hi'] at d1
      cases d1
      have d3 := d2.up f.rr
      obtain ⟨t, tvs, v3, rfl, sE, eE, hv3⟩ := d3.ixT K f.rh (j := 0) rfl
      cases hv3
      refine ⟨rfl, _, rfl, t, _, _, _, rfl, rfl, sE, at_of2 (j := 0) rfl eE, _, rfl, p, [z], R', .str N.es[i].n, rfl, .inr (SqT.of (f.rh _ _ (f.rr _ _ hp))), f.rh, .str _, _, rfl, ?_⟩
      rw [inS_one]
      have hst : cutE (.str z) (N.es.take (i + 1)) = cutE (.str z) (N.es.take i) ++ (if (!isS N.es[i].n (.str z)) = true then [N.es[i]] else []) := by
        unfold cutE
        rw [take_snoc _ _ hi', List.filter_append, List.filter_cons]
        rfl
      refine iteB (fun h => ?_) (fun h => ?_)
      · have h : (!isS N.es[i].n (.str z)) = false := h
        refine kn R' H'' (Fx.refl f.rh) ?_ trivial
        rw [hst, h]
        simp
      · have h : (!isS N.es[i].n (.str z)) = true := h
        refine ⟨_, rfl, ky R' H'' _ _ (Fx.refl f.rh) d3 ?_ trivial⟩
        rw [hst, h, List.map_append]
        rfl
    · rw [hl4, List.take_of_length_le (Nat.le_refl _)] at ac
      obtain ⟨R5, f5, e5, m5⟩ := f4.fz hv hD r
      have m6 := (f1.trans f5).rr
      refine ((q hin).then (f1.trans f5)).mk f5.rh (.inr (.tup (m6 _ _ h2) (atL_strs _ _))) (okSs_strs hle.nm) ?_ (.inl (.lst e5 (ac.up m5))) (okSs_edgs (ns := N.ns) fun e he => hle.ed e (List.mem_filter.mp he).1) ?_
      · have := hle.nl
        rw [List.length_map]
        omega
      · have := List.length_filter_le (fun e : Edg => !isS e.n (.str z)) N.es
        rw [List.length_map]
        unfold cutE
        omega
  · obtain ⟨t, tvs, u, rfl, sE, eE, hu2⟩ := t1.ixT K f1.rh (j := 0) rfl
    refine ⟨_, rfl, rfl, _, rfl, ?_⟩
    exact ⟨_, rfl, t, _, _, u, rfl, rfl, sE, at_of2 (j := 0) rfl eE, _, rfl, fun dd hdd => ER.mk (qe hin) rfl f1 hu2 hdd⟩
theorem ok_N_without_nodes (PF : PP P) (Z : Tz w K mg) : FnR P w K mg base (L2N.CX P w) 8 (a_N_without_nodes K) (fun vs H Q E => ∃ ws rest, vs = ws ++ rest ∧ ws.length = [("self" : Str)].length ∧ rest.length ≤ sizeLine ∧ ∀ p, H p = Option.none → spNoN K (ws ++ [V.ref p]) (upd H p (.tup rest)) Q E) := by
  have T := Z.t
  refine defS T.d_N_without_nodes sc_N_without_nodes cxUpN (fun kV doc pm an cdv ct => StX.bind_star1 (B := fun us => bindArgs (PySem.W.fnOf "without_nodes" "Network.without_nodes" (defArgs st_N_without_nodes) (defBody st_N_without_nodes) (defScope st_N_without_nodes) .none kV doc pm an cdv ct) ⟨us, []⟩) (fun a => rfl) (fun a r rs => rfl)) (fun cdv A outer s H vs Q E hr h => ?_)
  have hu := hu_of hr
  have hu3 : (A.deeper (envOfC "Network.without_nodes" (defScope st_N_without_nodes) s.heap.objs.size (a_N_without_nodes K) cdv)).units + 65 < cLine := by have := hr.un; omega
  have nd := sc_N_without_nodes.nd
  refine ⟨_, (pss_cons (ps_set (i := 2) nd rfl (Or.inl rfl) (pe_call (ok_first_unknown T) (hr.mono (by decide)) (by rfl) T.g_first_unknown T.k_first_unknown T.b_first_unknown .nil pass0 (pa_cons (pv 1) (pa_cons (pe_fld (pv 0) rfl) pa_nil))))
    (pss_cons (ps_if (pt_cmpR op_notN (pv 2) pe_non (nomark _))
      (pss_one (ps_raiseX rfl PF.toPFacts (Z.x_UnknownNode PF) T.g_UnknownNode T.f_super hr (L2N.takes_of rfl rfl rfl rfl) (pa_cons (pe_ix ix_tup (pv 2) pe_int (fun _ _ => rfl)) pa_nil)))
      pss_nil)
    (pss_cons (ps_set (i := 3) nd rfl (Or.inr rfl) (pe_lc (own := [("node", 4)]) (g := (gName 4)) (by rfl) nd (pi_tup (pe_fld (pv 0) rfl)) (blkOk_by (N := N_N_without_nodes) (sc := defScope st_N_without_nodes) (by decide +kernel)) (fun _ _ _ _ _ => (pg_name (i := 4) nd rfl (Or.inl rfl))) (fun _ _ _ _ _ => (pts_one (pt_cmpR (show OpR _ _ (rInN K true) from op_notInN hu3) (pv 4) (pv 1) (by rfl)))) (fun _ _ _ _ _ => (pv 4))))
    (pss_one (ps_ret (pe_make T.mkN (ok_N_init PF Z) (hr.mono (by decide)) (by rfl) T.g_Network (bN_init T) .nil (L2N.passes_call (W := fun cls d _ H => E cls d H) (L2N.takes_of rfl rfl rfl rfl) (fun _ _ _ _ h => h)) (pa_cons (pv 3) (pa_cons (pe_lc (own := [("edge", 5)]) (g := (gName 5)) (by rfl) nd (pi_tup (pe_fld (pv 0) rfl)) (blkOk_by (N := N_N_without_nodes) (sc := defScope st_N_without_nodes) (by decide +kernel)) (fun _ _ _ _ _ => (pg_name (i := 5) nd rfl (Or.inl rfl))) (fun _ _ _ _ _ => (pts_one (PW.pt (pw_and (pt_cmpR (show OpR _ _ (rInN K false) from op_inN hu3) (pe_ix (show IxR _ (rIxT K) from ix_tup) (pv 5) pe_int (fun _ _ => rfl)) (pv 3) (by rfl)) (pw_and1 (pt_cmpR (show OpR _ _ (rInN K false) from op_inN hu3) (pe_ix (show IxR _ (rIxT K) from ix_tup) (pv 5) pe_int (fun _ _ => rfl)) (pv 3) (by rfl))))))) (fun _ _ _ _ _ => (pv 5))) pa_nil)))))))), ?_⟩
  obtain ⟨R, av, v, p, d, N, rfl, k, hN, hp, hd, od, hle, qe, q⟩ := h
  obtain ⟨a, dx, p', q', b, vs, g, rfl, h1, h2, h3, h4, h5, h6⟩ := hN.ob
  have hl4 := h4.length
  rw [List.length_map] at hl4
  have hel := hle.el
  have hnl := hle.nl
  refine ⟨_, rfl, _, rfl, a, CN K, dx, _, .ref p', rfl, k _ _ h1, T.clN, T.n_own_nodes, rfl, R, p, p', v, d, N.ns, rfl, k, hp, hd, od, .inl h2, fun hin H1 f1 => ?_, fun hin R1 H1 x1 f1 t1 => ?_⟩
  · refine ⟨_, rfl, rfl, _, rfl, ?_⟩
    obtain ⟨z, rfl⟩ := inS_str hin
    cases hd
    refine ⟨_, rfl, a, CN K, dx, _, .ref p', rfl, f1.rh _ _ h1, T.clN, T.n_own_nodes, rfl, p', rfl, ⟨_, SqT.of (f1.rh _ _ h2)⟩, fun D hD => ?_⟩
    refine lc_data (walk_tup (xs := N.ns.map V.str)) [] (fun i => (leftN (.str z) (N.ns.take i)).map PyData.str) (fun _ _ _ => True) f1.rh hD (by simp) (fun i hi => ?_) rfl trivial (fun _ R H _ f _ => SqT.of (f.rh _ _ (f.rr _ _ h2))) (fun _ _ _ _ _ _ => trivial) (fun i x R' H' H'' vs' Cy Cn hi f r hv ac e y ky kn => ?_) (fun R4 H4 vs' f4 r hv ac _ => ?_)
    · have h1 := List.length_filter_le (fun n : Str => !isS n (.str z)) (N.ns.take i)
      unfold leftN
      simp only [List.length_map, List.length_take, sizeLine_eq] at h1 ⊢
      omega
    · obtain ⟨rfl, hx⟩ := y
      have hi' : i < N.ns.length := by simpa using hi
      rw [List.getElem?_map, List.getElem?_eq_getElem hi'] at hx
      cases hx
      refine ⟨rfl, _, rfl, _, rfl, p, [z], R', .str N.ns[i], rfl, .inr (SqT.of (f.rh _ _ (f.rr _ _ hp))), f.rh, .str _, _, rfl, ?_⟩
      rw [inS_one]
      have hst : leftN (.str z) (N.ns.take (i + 1)) = leftN (.str z) (N.ns.take i) ++ (if (!isS N.ns[i] (.str z)) = true then [N.ns[i]] else []) := by
        unfold leftN
        rw [take_snoc _ _ hi', List.filter_append, List.filter_cons]
        rfl
      refine iteB (fun h => ?_) (fun h => ?_)
      · have h : (!isS N.ns[i] (.str z)) = false := h
        refine kn R' H'' (Fx.refl f.rh) ?_ trivial
        rw [hst, h]
        simp
      · have h : (!isS N.ns[i] (.str z)) = true := h
        refine ⟨_, rfl, ky R' H'' _ _ (Fx.refl f.rh) (.str _) ?_ trivial⟩
        rw [hst, h, List.map_append]
        rfl
    rw [List.length_map, List.take_of_length_le (Nat.le_refl _)] at ac
    obtain ⟨R5, f5, e5, m5⟩ := f4.fz hv hD r
    rw [ac.strs] at e5
    have f6 := f1.trans f5
    have m6 := f6.rr
    have hD4 := f5.rh _ _ e5
    refine ⟨_, rfl, _, rfl, a, CN K, dx, _, .ref q', rfl, f6.rh _ _ (m6 _ _ h1), T.clN, T.n_own_edges, rfl, q', rfl, ⟨_, SqT.of (f6.rh _ _ (m6 _ _ h3))⟩, fun D2 hD2 => ?_⟩
    refine lc_data (walk_tup (xs := vs)) [] (fun i => (leftE (leftN (.str z) N.ns) (N.es.take i)).map Edg.d) (fun _ _ _ => True) f6.rh hD2 (by simp) (fun i hi => ?_) rfl trivial (fun _ R H _ f _ => SqT.of (f.rh _ _ (f.rr _ _ (m6 _ _ h3)))) (fun _ _ _ _ _ _ => trivial) (fun i x R' H' H'' vs' Cy Cn hi f r hv ac e y ky kn => ?_) (fun R7 H7 vs' f7 r hv ac _ => ?_)
    · have h1 := List.length_filter_le (fun e : Edg => decide (e.u ∈ leftN (.str z) N.ns) && decide (e.v ∈ leftN (.str z) N.ns)) (N.es.take i)
      unfold leftE
      simp only [List.length_map, List.length_take, sizeLine_eq] at h1 ⊢
      omega
    · obtain ⟨rfl, hx⟩ := y
      have hi' : i < N.es.length := by omega
      obtain ⟨d, d1, d2⟩ := (h4.up m6).get hx
      rw [List.getElem?_map, List.getElem?_eq_getElem hi'] at d1
      cases d1
      have d3 := d2.up f.rr
      obtain ⟨t, tvs, v3, rfl, sE, eE, hv3⟩ := d3.ixT K f.rh (j := 1) rfl
      cases hv3
      have hD5 := f.rh _ _ (f.rr _ _ e5)
      have hst : leftE (leftN (.str z) N.ns) (N.es.take (i + 1)) = leftE (leftN (.str z) N.ns) (N.es.take i) ++ (if (decide (N.es[i].u ∈ leftN (.str z) N.ns) && decide (N.es[i].v ∈ leftN (.str z) N.ns)) = true then [N.es[i]] else []) := by
        unfold leftE
        rw [take_snoc _ _ hi', List.filter_append, List.filter_cons]
        rfl
      refine ⟨rfl, _, rfl, t, _, _, _, rfl, rfl, sE, at_of2 (j := 1) rfl eE, _, rfl, D, leftN (.str z) N.ns, R', .str N.es[i].u, rfl, .inl (SqL.of hD5), f.rh, .str _, _, rfl, ?_⟩
      refine iteB (fun h => ?_) (fun h => ?_)
      · have h : inS (.str N.es[i].u) (leftN (.str z) N.ns) = false := h
        rw [inS_dec] at h
        refine kn R' H'' (Fx.refl f.rh) ?_ trivial
        rw [hst, h]
        simp
      · have h : inS (.str N.es[i].u) (leftN (.str z) N.ns) = true := h
        rw [inS_dec] at h
        obtain ⟨t', tvs', v3', et, sE', eE', hv3'⟩ := d3.ixT K f.rh (j := 2) rfl
        cases et
        cases hv3'
        refine ⟨_, rfl, t, _, _, _, rfl, rfl, sE', at_of2 (j := 2) rfl eE', _, rfl, D, leftN (.str z) N.ns, R', .str N.es[i].v, rfl, .inl (SqL.of hD5), f.rh, .str _, _, rfl, ?_⟩
        refine iteB (fun h2 => ?_) (fun h2 => ?_)
        · have h2 : inS (.str N.es[i].v) (leftN (.str z) N.ns) = false := h2
          rw [inS_dec] at h2
          refine kn R' H'' (Fx.refl f.rh) ?_ trivial
          rw [hst, h, h2]
          simp
        · have h2 : inS (.str N.es[i].v) (leftN (.str z) N.ns) = true := h2
          rw [inS_dec] at h2
          refine ⟨_, rfl, ky R' H'' _ _ (Fx.refl f.rh) d3 ?_ trivial⟩
          rw [hst, h, h2, List.map_append]
          rfl
    rw [hl4, List.take_of_length_le (Nat.le_refl _)] at ac
    obtain ⟨R8, f8, e8, m8⟩ := f7.fz hv hD2 r
    refine ((q hin).then (f6.trans f8)).mk f8.rh (.inl (.lst (f8.rr _ _ e5) (atL_strs _ _))) (okSs_strs fun n hn => hle.nm n (List.mem_filter.mp hn).1) ?_ (.inl (.lst e8 (ac.up m8))) (okSs_edgs (ns := N.ns) fun e he => hle.ed e (List.mem_filter.mp he).1) ?_
    · have := List.length_filter_le (fun n : Str => !isS n (.str z)) N.ns
      rw [List.length_map]
      unfold leftN
      omega
    · have := List.length_filter_le (fun e : Edg => decide (e.u ∈ leftN (.str z) N.ns) && decide (e.v ∈ leftN (.str z) N.ns)) N.es
      rw [List.length_map]
      unfold leftE
      omega
  · obtain ⟨t, tvs, u, rfl, sE, eE, hu2⟩ := t1.ixT K f1.rh (j := 0) rfl
    refine ⟨_, rfl, rfl, _, rfl, ?_⟩
    exact ⟨_, rfl, t, _, _, u, rfl, rfl, sE, at_of2 (j := 0) rfl eE, _, rfl, fun dd hdd => ER.mk (qe hin) rfl f1 hu2 hdd⟩
end
end Ld
/-! Ni: edges_with, and what is read of a network. -/
namespace Ld
open PySem L2 PyProof.Rows
def Edg.len (z : Str) (i : Int) (e : Edg) : Edg := if e.n = z then ⟨e.n, e.u, e.v, i⟩ else e
def spEW (K : PySem.W.Frag) : Sp := fun vs H Q E => ∃ (R : Hp) (a lv : V) (d : Addr) (z : Str) (l : PyData) (N : Net), vs = [a, .ref d] ∧ Same R H ∧ NetAt K R a N ∧ H d = some (.dK [((Sum.inr z : Key), lv)]) ∧ R d = none ∧ At R lv l ∧ okS l = true ∧ z.length ≤ 1000 ∧ z ∈ N.es.map Edg.n ∧ NetLe N 60 ∧
  (isLen l = false → ER K [d] R H E (.length l)) ∧ (∀ i, l = .int i → isLen l = true → ∀ R' H' v', Fx [d] R H R' H' → At R' v' (.list ((N.es.map (Edg.len z i)).map Edg.d)) → Q v' H')
theorem ER.mkM {K : PySem.W.Frag} {M : List Addr} {R H R1 H1 : Hp} {E : XK} {e : Err} {f : Str} {d : PyData} {v : V} {dd : Addr} (h : ER K M R H E e) (he : e.fd = some (f, d)) (g : Fx M R H R1 H1) (hv : At R1 v d) (hd : H1 dd = none) : E (.ref (He.ga K e.c)) (some dd) (upd H1 dd (.xd [(f, v)])) := by
  unfold ER at h
  rw [he] at h
  exact h R1 _ dd v (g.newH hd) upd_same hv
theorem isLen_int {l : PyData} (h : isLen l = true) : ∃ i, l = .int i := by
  cases l with
  | int i => exact ⟨i, rfl⟩
  | _ => simp [isLen, isBtw] at h
theorem len_d (z : Str) (i : Int) (e : Edg) : (e.len z i).d = .tuple [.str e.n, .str e.u, .str e.v, .int (if e.n = z then i else e.l)] := by
  unfold Edg.len
  split <;> rfl
section
variable {P : Program} {w : World} {K : PySem.W.Frag} {mg : Str → Option Value} {base : Heap}
theorem ok_N_edges_with (PF : PP P) (Z : Tz w K mg) : FnOk P w K mg base (L2N.CX P w) 4 (a_N_edges_with K) (f_N_edges_with K) P_N_edges_with (spEW K) := by
  have T := Z.t
  refine T.d_N_edges_with.ok sc_N_edges_with (fun vs H Q E h => by obtain ⟨_, _, _, _, _, _, _, rfl, _⟩ := h; rfl) (fun cdv A outer s H vs Q E hr h => ?_)
  have hu := hu_of hr
  have nd := sc_N_edges_with.nd
  have hsz := sizeLine_eq
  refine ⟨_, (pss_cons (ps_lock (ps_for (passes_of rfl) rfl (pi_keys (pv 1)) (pg_name (i := 2) nd rfl (Or.inl rfl))
      (pss_one (ps_expr (pe_meth (pv 0) T.clN T.m_N_need_edge (ok_N_need_edge PF Z) (hr.mono (by decide)) T.b_N_need_edge .nil (L2N.passes_call (W := fun cls d _ H => E cls d H) (L2N.takes_of rfl rfl rfl rfl) (fun _ _ _ _ h => h)) (pa_cons (pv 2) pa_nil))))))
    (pss_cons (ps_lock (ps_for (passes_of rfl) rfl (pi_values (pv 1)) (pg_name (i := 3) nd rfl (Or.inl rfl))
      (pss_one (ps_if (pt_not (pt_val (pe_call (ok_is_length T) (hr.mono (by decide)) (by rfl) T.g_is_length T.k_is_length T.b_is_length .nil pass0 (pa_cons (pv 3) pa_nil))))
        (pss_one (ps_raiseX rfl PF.toPFacts (Z.x_InvalidLength PF) T.g_InvalidLength T.f_super hr (L2N.takes_of rfl rfl rfl rfl) (pa_cons (pv 3) pa_nil)))
        pss_nil))))
    (pss_one (ps_ret (pe_lc (own := [("edge", 4)]) (g := (gName 4)) (tt := tYes) (by rfl) nd (pi_tup (pe_fld (pv 0) rfl)) (blkOk_by (N := N_N_edges_with) (sc := defScope st_N_edges_with) (by decide +kernel)) (fun _ _ _ _ _ => (pg_name (i := 4) nd rfl (Or.inl rfl))) (fun _ _ _ _ _ => pts_nil) (fun _ _ _ _ _ => (pe_op op_catS (pe_slice (show SlR _ (rSlX K) from sl_tupX) (pv 4) po_none (po_some pe_int)) (pe_tup (pa_cons (pe_dget2 hu (pv 1) (pe_ix (show IxR _ (rIxT K) from ix_tup) (pv 4) pe_int (fun _ _ => rfl)) (pe_ix (show IxR _ (rIxT K) from ix_tup) (pv 4) pe_int (fun _ _ => rfl)) ⟨rfl, rfl, rfl, rfl⟩) pa_nil))))))))), ?_⟩
  obtain ⟨R, av, lv, d, z, l, N, rfl, k, hN, hd, rd, hl, ol, oz, hz, hle, qe, q⟩ := h
  obtain ⟨a, dx, p', q', b, vs, g, rfl, h1, h2, h3, h4, h5, h6⟩ := hN.ob
  have hl4 := h4.length
  rw [List.length_map] at hl4
  have hel := hle.el
  refine ⟨d, _, hd, trivial, fun od => ?_⟩
  have f1 : Fx [d] R H R (upd H d (.frz od (.dK [((Sum.inr z : Key), lv)]))) := (Fx.refl k).put rd (.inl (by simp))
  have ed1 : upd H d (.frz od (.dK [((Sum.inr z : Key), lv)])) d = some (.frz od (.dK [((Sum.inr z : Key), lv)])) := upd_same
  generalize upd H d (.frz od (.dK [((Sum.inr z : Key), lv)])) = H1 at f1 ed1 ⊢
  refine ⟨_, rfl, d, od, rfl, .inl ⟨_, ed1, for_it walk_keys (fun i σ H' => ∃ (x2 x3 : Option V), σ = [some (.ref a), some (.ref d), x2, x3, none] ∧ Fx [d] R H R H' ∧ H' d = some (.frz od (.dK [((Sum.inr z : Key), lv)]))) ⟨none, none, rfl, f1, ed1⟩ (fun i σ H' _ ⟨_, _, _, _, e⟩ => e) ?_ ?_⟩⟩
  · rintro i x σ H' H'' hi ⟨x2, x3, rfl, f, ed⟩ ⟨rfl, kk, vv, hkv, rfl⟩
    obtain rfl : i = 0 := by
      have : i < 1 := hi
      omega
    cases hkv
    refine ⟨_, rfl, a, dx, _, rfl, f.rh _ _ h1, rfl, _, rfl, R, .ref a, .str z, .str z, N, rfl, f.rh, hN, .str z, decide_eq_true oz, fun hin => ?_, fun _ H3 f3 => ?_⟩
    · rw [inS_dec, decide_eq_true hz] at hin
      cases hin
    · exact ⟨_, _, rfl, f.trans f3.s0, f3.kp _ _ ed (by simp)⟩
  · rintro σ H' ⟨x2, x3, rfl, f, ed⟩
    refine ⟨ed, ?_⟩
    have f2 : Fx [d] R H R (upd H' d (.dK [((Sum.inr z : Key), lv)])) := f.put rd (.inl (by simp))
    have ed2 : upd H' d (.dK [((Sum.inr z : Key), lv)]) d = some (.dK [((Sum.inr z : Key), lv)]) := upd_same
    show tSeq _ _ _ _ (upd H' d (.dK [((Sum.inr z : Key), lv)]))
    generalize upd H' d (.dK [((Sum.inr z : Key), lv)]) = H2 at f2 ed2 ⊢
    refine ⟨d, _, ed2, trivial, fun od2 => ?_⟩
    have f3 : Fx [d] R H R (upd H2 d (.frz od2 (.dK [((Sum.inr z : Key), lv)]))) := f2.put rd (.inl (by simp))
    have ed3 : upd H2 d (.frz od2 (.dK [((Sum.inr z : Key), lv)])) d = some (.frz od2 (.dK [((Sum.inr z : Key), lv)])) := upd_same
    generalize upd H2 d (.frz od2 (.dK [((Sum.inr z : Key), lv)])) = H3 at f3 ed3 ⊢
    refine ⟨_, rfl, d, od2, _, rfl, ed3, for_it walk_values (fun i σ H' => ∃ (x2 x3 : Option V) (R' : Hp), σ = [some (.ref a), some (.ref d), x2, x3, none] ∧ Fx [d] R H R' H' ∧ H' d = some (.frz od2 (.dK [((Sum.inr z : Key), lv)])) ∧ (i = 1 → isLen l = true)) ⟨x2, x3, R, rfl, f3, ed3, fun h => by cases h⟩ (fun i σ H' _ ⟨_, _, _, _, _, e, _⟩ => e) ?_ ?_⟩
    · rintro i x σ H' H'' hi ⟨x2, x3, R', rfl, f, ed, _⟩ ⟨rfl, kk, hkv⟩
      obtain rfl : i = 0 := by
        have : i < 1 := hi
        omega
      cases hkv
      refine ⟨_, rfl, R', lv, l, rfl, f.rh, hl.up f.rr, ol, fun R4 H4 f4 => ⟨_, rfl, ?_⟩⟩
      have f5 := f.trans f4.s0
      refine iteB (fun hlen => ?_) (fun hlen => ?_)
      · have hlen : isLen l = true := by simpa using hlen
        exact ⟨_, _, _, rfl, f5, f4.kp _ _ ed (by simp), fun _ => hlen⟩
      · have hlen : isLen l = false := by simpa using hlen
        exact ⟨_, rfl, _, rfl, fun dd hdd => ER.mkM (qe hlen) rfl f5 (hl.up f5.rr) hdd⟩
    · rintro σ H' ⟨x2, x3, R', rfl, f, ed, hlen⟩
      refine ⟨ed, ?_⟩
      have hL : isLen l = true := hlen rfl
      obtain ⟨i, rfl⟩ := isLen_int hL
      cases hl
      have rd' := f.nr rd hd
      have f6 : Fx [d] R H R' (upd H' d (.dK [((Sum.inr z : Key), V.int i)])) := f.put rd' (.inl (by simp))
      have ed6 : upd H' d (.dK [((Sum.inr z : Key), V.int i)]) d = some (.dK [((Sum.inr z : Key), V.int i)]) := upd_same
      dsimp only
      generalize upd H' d (.dK [((Sum.inr z : Key), V.int i)]) = H6 at f6 ed6 ⊢
      refine ⟨_, rfl, a, CN K, dx, _, .ref q', rfl, f6.rh _ _ (f6.rr _ _ h1), T.clN, T.n_own_edges, rfl, q', rfl, ⟨_, SqT.of (f6.rh _ _ (f6.rr _ _ h3))⟩, fun D hD => ?_⟩
      refine lc_data (walk_tup (xs := vs)) [] (fun j => ((N.es.take j).map (Edg.len z i)).map Edg.d) (fun _ _ _ => True) f6.rh hD (by simp) (fun j hj => ?_) rfl trivial (fun _ R H _ f _ => SqT.of (f.rh _ _ (f.rr _ _ (f6.rr _ _ h3)))) (fun _ _ _ _ _ _ => trivial) (fun j x R' H' H'' vs' Cy Cn hj f r hv ac e y ky kn => ?_) (fun R7 H7 vs' f7 r hv ac _ => ?_)
      · simp only [List.length_map, List.length_take]
        omega
      · obtain ⟨rfl, hx⟩ := y
        have hj' : j < N.es.length := by omega
        obtain ⟨d0, d1, d2⟩ := (h4.up f6.rr).get hx
        rw [List.getElem?_map, List.getElem?_eq_getElem hj'] at d1
        cases d1
        have d3 := d2.up f.rr
        obtain ⟨t, tvs, rfl, t1, t2, t3⟩ := d3.isT K f.rh
        obtain ⟨va, vb, vc, vl, rfl, g1, g2, g3, g4⟩ := t2.four
        cases g1
        cases g2
        cases g3
        cases g4
        refine ⟨rfl, iteT (B := Cn H'') ?_⟩
        refine ⟨_, rfl, _, rfl, R', t, _, rfl, f.rh, t1, fun R8 H8 b8 f8 e8 => ?_⟩
        have ed8 := f8.kp _ _ (f.kp _ _ ed6 (by simp)) (by simp)
        have t8 := f8.rh _ _ (f8.rr _ _ t1)
        refine ⟨_, rfl, d, rfl, .inl ⟨_, .inl ed8⟩, _, rfl, t, _, _, _, rfl, rfl, SqT.of t8, at_of2 (j := 0) rfl rfl, _, rfl, t, _, _, _, rfl, rfl, SqT.of t8, at_of2 (j := 3) rfl rfl, _, dgetR (.inl ed8) rfl, by show 1 ≤ sizeLine; omega, fun b9 hb9 => ?_⟩
        have hval : (valV [((Sum.inr z : Key), V.int i)] (Sum.inr N.es[j].n : Key)).getD (.int N.es[j].l) = .int (if N.es[j].n = z then i else N.es[j].l) := by
          have h := valV_kv N.es[j].n (fun _ => V.int i) [z]
          show (valV (kv [z] fun _ => V.int i) _).getD _ = _
          rw [h]
          by_cases c : N.es[j].n = z
          · rw [if_pos c, if_pos (by rw [c]; simp)]; rfl
          · rw [if_neg c, if_neg (by simpa using c)]; rfl
        rw [hval]
        obtain ⟨R9, f9, t9, m9⟩ := nw_tup (xs := [.int (if N.es[j].n = z then i else N.es[j].l)]) f8.rh (.cons (.int _) .nil) hb9
        refine ⟨R9, [.str N.es[j].n, .str N.es[j].u, .str N.es[j].v], _, f9.rh, .tup (m9 _ _ e8) (.cons (.str _) (.cons (.str _) (.cons (.str _) .nil))), t9, by show 3 + 1 ≤ 16777216; decide, fun R10 H10 t10 f10 a10 => ?_⟩
        refine ky R10 H10 t10 _ ((f8.trans f9).trans f10) a10 ?_ trivial
        rw [take_snoc _ _ hj', List.map_append, List.map_append]
        show _ ++ [((N.es[j]).len z i).d] = _
        rw [len_d]
        rfl
      · rw [hl4, List.take_of_length_le (Nat.le_refl _)] at ac
        obtain ⟨R8, f8, e8, m8⟩ := f7.fz hv hD r
        exact q i rfl hL R8 H7 _ (f6.trans f8.s0) (.lst e8 (ac.up m8))
end
end Ld
/-! Kr: tuple(d) of a dict, len of an instance. -/
namespace Ld
open PySem L2 PyProof.Rows
section
variable {prog : Program} {w : World} {A : Around} {E : Value → Shared → Prop} {s : Shared} {r d : Addr} {n : Nat} {P : Nat → Value → Prop} {OK : Heap → Prop}
theorem code_tuple_new_dict {Q₁ : Value → Shared → Prop} (hh : A.handled = none) (K : PySem.W.KdlSrc prog w "dict" r d n P OK) (hok : OK s.heap) (hn : n ≤ sizeLine)
    (h : ∀ (h' : Heap) (tk : Nat) (acc : Array Value), (∀ b o, s.heap.get? b = some o → h'.get? b = some o) → ItemsOf P acc n →
      Q₁ (.ref h'.objs.size) { s with heap := h'.push { cls := .type "tuple", data := .seq acc }, toks := tk }) :
    codeAny (model prog w) A (.call (.builtin "tuple.__new__") ⟨[.type "tuple", .ref r], []⟩) (wants Q₁ E) s := by
  refine codeAny_of_tree ?_
  show wpAny _ A.in1 (do checkBuiltinCall "tuple.__new__" ⟨[.type "tuple", .ref r], []⟩; again (.builtin "tuple.__new__" ⟨[.type "tuple", .ref r], []⟩)) _ _ s
  refine wpAny_bind (wpAny_of_eq (F.newCall_tuple_1 _) (wpAny_pure ⟨plainId_quiet F.plain_tuple_new _, codeAny_builtin F.entry_tuple_new ?_⟩))
  rw [Around.under_plainId F.plain_tuple_new _]
  have hsub := sub_tuple_self
  have hinit := init_tuple_lookup
  have hmh := madeHere_tuple
  have hTI : s.TypeIs (.ref r) "dict" := K.type _ hok
  have hh1 : A.in1.handled = none := hh
  wp_walk using wpAny_typeOf hTI, PySem.W.kdu_collect (A := A.in1) K hh1 hok hn
  intro h' tk acc hk hacc
  show wpAny _ _ (Builtin.Tuple.tupleExact acc.toList.toArray >>= fun v => ret v) _ _ _
  unfold Builtin.Tuple.tupleExact
  refine wpAny_bind (wpAny_newObj_type ?_ (by show acc.toList.toArray.size ≤ sizeLine; simp only [Array.toArray_toList]; rw [hacc.1]; exact hn))
  refine wpAny_pure ?_
  have e : acc.toList.toArray = acc := by simp
  rw [e]
  exact h h' tk acc hk hacc
theorem call_tuple_dict {Q : Value → Shared → Prop} (hh : A.handled = none) (K : PySem.W.KdlSrc prog w "dict" r d n P OK) (hok : OK s.heap) (hn : n ≤ sizeLine)
    (hQ : ∀ (h' : Heap) (tk : Nat) (acc : Array Value), (∀ b o, s.heap.get? b = some o → h'.get? b = some o) → ItemsOf P acc n →
      Q (.ref h'.objs.size) { s with heap := h'.push { cls := .type "tuple", data := .seq acc }, toks := tk }) :
    wpAny (model prog w) A (call (.type "tuple") [.ref r]) Q E s := by
  refine callType_codes (Q₁ := fun obj s₁ => s₁.TypeIs obj "tuple" ∧ Q obj s₁) F.called_tuple (F.typeCall_tuple_1 _) F.entry_object_init
    (code_tuple_new_dict (A := A.in1) hh K hok hn fun h' tk acc hk hacc => ⟨⟨_, Heap.get?_push_size _ rfl, rfl⟩, hQ h' tk acc hk hacc⟩) fun obj s₁ h₁ => ?_
  exact ⟨h₁.1, F.args_object_init_2 obj _, object_init_meets F.called_tuple.init.lookup F.called_tuple.made (by decide) prog w A.in1 _ s₁ ⟨h₁.1, rfl, h₁.2⟩⟩
end
/-- tuple(d): its keys -/
theorem call_tupleD {X : Cx} (hcalm : X.calm = true) : CallR X (.type "tuple") (fun xs H Q => ∃ (a : Addr) (kvs : List (Key × V)), xs = [.ref a] ∧ Rd H a (.dK kvs) ∧ ∀ p, H p = none → Q (.ref p) (upd H p (.tup (kvs.map fun kv => kV kv.1)))) := by
  intro pins s σ H xs us Q I r q
  obtain ⟨a, kvs, ex, hd, q⟩ := q
  subst ex
  obtain ⟨u, eu, rx⟩ := vals1 r
  subst eu
  cases rx
  obtain ⟨z, lo, vs, rel, dd⟩ := dk_rd I.hok hd
  obtain ⟨ep, hat⟩ := dd.dictAt
  have ek : (kvs.map fun kv => kV kv.1) = vs.map fun p => kV p.1 := by
    have e := congrArg (List.map kV) rel.keys
    rw [List.map_map, List.map_map] at e
    exact e
  refine call_tuple_dict (I.ok.hd hcalm) (PySem.W.kdl_dict (knd := mixKind X.prog X.w) (kvs := vs) (ep := ep) lo) hat (by rw [← rel.length]; exact z) fun h' tk acc hk hacc => ?_
  have hv : Vals (vs.map fun p => kV p.1) acc.toList := keys_at (by rw [Array.length_toList]; exact hacc.1) fun j v e => hacc.2 j v (by rw [← Array.getElem?_toList]; exact e)
  have I2 : Inv X pins σ H { s with heap := h', toks := tk } := I.kept hk
  refine ⟨.ref h'.objs.size, upd H h'.objs.size (.tup (kvs.map fun kv => kV kv.1)), I2.laid (t' := tk) (fun c o e => Heap.get?_push_of_some _ e) (Nat.le_refl _)
    (show ObjOk X.prog X.w _ _ _ (.tup (kvs.map fun kv => kV kv.1)) from ⟨by rw [List.length_map]; exact z, acc.toList, by rw [ek]; exact hv, by rw [Array.toArray_toList]; exact IsTup.new _ _⟩), rfl, q _ (I2.hok.fresh (Nat.le_refl _))⟩
section
variable {prog : Program} {w : World} {A : Around} {E : Value → Shared → Prop} {s : Shared} {K : PySem.W.Frag} {a C f : Addr} {ox : Obj} {od : Option Obj}
theorem len_def {Q : Value → Shared → Prop} (X : K.In s.heap) (I : PySem.W.InstAt s.heap a ox C od) (hs : PySem.W.findIn K (.ref C) "__len__" = some (some (.ref f))) (hf : PySem.W.isFn K (.ref f) = true)
    (hcall : wpAny (model prog w) A.in1 (call (.ref f) [.ref a]) (fun r s' => ∃ n u, r = .int n u ∧ 0 ≤ n ∧ n < 2 ^ 63 ∧ ∀ t tk, Q (.int n t) { s' with toks := tk }) E s) :
    wpAny (model prog w) A (call (.builtin "len") [.ref a]) Q E s := by
  refine Calls.call_function_entry kind_len plain_len entry_len (args_len1 _) ?_
  unfold Builtin.«len»
  refine wpAny_bind (m := oneArg "len" _) (wpAny_pure ?_)
  have hc : wpAny (model prog w) A.in1 (callSpecial? (.ref a) (Str.ofString "__len__")) (fun o s' => ∃ r, o = some r ∧ ∃ n u, r = .int n u ∧ 0 ≤ n ∧ n < 2 ^ 63 ∧ ∀ t tk, Q (.int n t) { s' with toks := tk }) E s := by
    unfold callSpecial? specialOf
    refine wpAny_bind (wpAny_bind (I.type.here ((PySem.W.looks_findIn X hs).here ?_)))
    refine wpAny_holding ?_
    refine wpAny_bind ((PySem.W.bind_fn X _ (beq_iff_eq.mp hf)).here ?_)
    exact wpAny_bind (wpAny_mono hcall (fun v s' z => wpAny_pure ⟨v, rfl, z⟩) fun _ _ z => z)
  refine wpAny_bind (wpAny_mono hc (fun o s' h => ?_) fun _ _ z => z)
  obtain ⟨r, rfl, n, u, rfl, h0, h1, hq⟩ := h
  refine wpAny_bind (wpAny_holding (wpAny_pure ?_))
  refine wpAny_bind (wpAny_letGo ?_)
  show wpAny _ _ (if n < 0 then _ else _) _ _ _
  rw [if_neg (by omega)]
  show wpAny _ _ (if n ≥ 2 ^ 63 then _ else _) _ _ _
  rw [if_neg (by omega)]
  exact wpAny_bind (wpAny_mkInt (wpAny_pure ⟨_, rfl, hq _ _⟩))
end
/-- len(o), o an instance with a __len__ of its own -/
theorem call_lenO {X : Cx} {CX : CXT} {k : Nat} {C f : Addr} {fd : FuncData} {ps : List Str} {sp : Sp} {ds : List Value} {E : XK} (hm : Meth X.K C "__len__" f) (F : FnOk X.prog X.w X.K X.mg X.base CX k f fd ps sp) (hr : Room (k + 1) X.A) (hb : Binds X.K fd ps []) (hx : Passes CX X E) :
    CallR X (.builtin "len") (fun xs H Q => ∃ (a dx : Addr) (fs : List (Str × V)), xs = [.ref a] ∧ H a = some (.ins C dx fs) ∧ sp [.ref a] H (fun v H' => ∃ n : Int, v = .int n ∧ 0 ≤ n ∧ n < 2 ^ 63 ∧ Q (.int n) H') E) := by
  intro pins s σ H xs us Q I r h
  obtain ⟨a, dx, fs, rfl, ea, h⟩ := h
  obtain ⟨u, rfl, rx⟩ := vals1 r
  obtain rfl : u = Value.ref a := rx
  obtain ⟨mA, O, _, _, _, _⟩ := ins_get I.hok ea
  obtain ⟨od, J, _⟩ := O.look
  refine len_def I.kIn J hm.at_ hm.fn (wpAny_call (codeAny_mono (F.run X.A.in1 X.stack s H ⟨[.ref a], []⟩ [.ref a] [.ref a] _ E hr.in1 I.env0.in1 (hb _ [.ref a] I.kIn (by have := F.len _ _ _ _ h; exact this)) (.cons rfl .nil) h) fun r s' hq => ?_))
  cases r with
  | error er => exact hx pins σ H s er s' I hq
  | ok fl =>
    cases fl with
    | ret u =>
      obtain ⟨v, H', I3, rv, n, rfl, h0, h1, q3⟩ := I.after hq
      obtain ⟨t, rfl⟩ := rv
      exact ⟨n, t, rfl, h0, h1, fun t tk => ⟨.int n, H', I3.tok _, ⟨_, rfl⟩, q3⟩⟩
    | next => exact False.elim hq
    | brk => exact False.elim hq
    | cont => exact False.elim hq
end Ld
/-! Nj: what is read of a network. -/
namespace Ld
open PySem L2 PyProof.Rows
def spGet (K : PySem.W.Frag) (f : Net → PyData) : Sp := fun vs H Q _ => ∃ (R : Hp) (a : V) (N : Net), vs = [a] ∧ Same R H ∧ NetAt K R a N ∧ N.es.length ≤ 1000 ∧ ∀ R' H' v, Fx [] R H R' H' → At R' v (f N) → Q v H'
theorem len_spGet {K : PySem.W.Frag} {f : Net → PyData} {n : Str} (vs : List V) (H : Hp) (Q : VK) (E : XK) (h : spGet K f vs H Q E) : vs.length = [n].length := by
  obtain ⟨_, _, _, rfl, _⟩ := h
  rfl
def nodesD (N : Net) : PyData := .tuple (N.ns.map PyData.str)
def edgesD (N : Net) : PyData := .tuple (N.es.map Edg.d)
def namesD (N : Net) : PyData := .tuple ((N.es.map Edg.n).map PyData.str)
def lenD (N : Net) : PyData := .int N.es.length
section
variable {P : Program} {w : World} {K : PySem.W.Frag} {mg : Str → Option Value} {base : Heap}
theorem ok_N_nodes (T : Tx w K mg) : FnOk P w K mg base CX0 1 (a_N_nodes K) (f_N_nodes K) P_N_nodes (spGet K nodesD) := by
  refine T.d_N_nodes.ok sc_N_nodes len_spGet (fun cdv A outer s H vs Q E hr h => ?_)
  have hu := hu_of hr
  have nd := sc_N_nodes.nd
  refine ⟨_, PSs.nox (pss_one (ps_ret (pe_fld (pv 0) rfl))), ?_⟩
  obtain ⟨R, av, N, rfl, k, hN, hl, q⟩ := h
  obtain ⟨a, dx, p', q', b, vs, g, rfl, h1, h2, h3, h4, h5, h6⟩ := hN.ob
  exact ⟨_, rfl, a, CN K, dx, _, .ref p', rfl, k _ _ h1, T.clN, T.n_own_nodes, rfl, q R H _ (Fx.refl k) (.tup h2 (atL_strs _ _))⟩
theorem ok_N_edges (T : Tx w K mg) : FnOk P w K mg base CX0 1 (a_N_edges K) (f_N_edges K) P_N_edges (spGet K edgesD) := by
  refine T.d_N_edges.ok sc_N_edges len_spGet (fun cdv A outer s H vs Q E hr h => ?_)
  have hu := hu_of hr
  have nd := sc_N_edges.nd
  refine ⟨_, PSs.nox (pss_one (ps_ret (pe_fld (pv 0) rfl))), ?_⟩
  obtain ⟨R, av, N, rfl, k, hN, hl, q⟩ := h
  obtain ⟨a, dx, p', q', b, vs, g, rfl, h1, h2, h3, h4, h5, h6⟩ := hN.ob
  exact ⟨_, rfl, a, CN K, dx, _, .ref q', rfl, k _ _ h1, T.clN, T.n_own_edges, rfl, q R H _ (Fx.refl k) (.tup h3 h4)⟩
theorem ok_N_names (T : Tx w K mg) : FnOk P w K mg base CX0 1 (a_N_names K) (f_N_names K) P_N_names (spGet K namesD) := by
  refine T.d_N_names.ok sc_N_names len_spGet (fun cdv A outer s H vs Q E hr h => ?_)
  have hu := hu_of hr
  have nd := sc_N_names.nd
  refine ⟨_, PSs.nox (pss_one (ps_ret (pe_callTy (call_tupleD rfl) (by rfl) T.f_tuple boot_tuple (pa_cons (pe_fld (pv 0) rfl) pa_nil)))), ?_⟩
  obtain ⟨R, av, N, rfl, k, hN, hl, q⟩ := h
  obtain ⟨a, dx, p', q', b, vs, g, rfl, h1, h2, h3, h4, h5, h6⟩ := hN.ob
  refine ⟨_, rfl, a, CN K, dx, _, .ref b, rfl, k _ _ h1, T.clN, T.n_by_name, rfl, b, _, rfl, .inl (k _ _ h5), fun p hp => ?_⟩
  have e : ((kv (N.es.map Edg.n) g).map fun kv => kV kv.1) = (N.es.map Edg.n).map V.str := by
    unfold kv
    rw [List.map_map]
    rfl
  rw [e]
  obtain ⟨R1, f1, t1, m1⟩ := nw_tup k (atL_strs R (N.es.map Edg.n)) hp
  exact q R1 _ _ f1 t1
theorem ok_N_len (T : Tx w K mg) : FnOk P w K mg base CX0 1 (a_N_len K) (f_N_len K) P_N_len (spGet K lenD) := by
  refine T.d_N_len.ok sc_N_len len_spGet (fun cdv A outer s H vs Q E hr h => ?_)
  have hu := hu_of hr
  have nd := sc_N_len.nd
  refine ⟨_, PSs.nox (pss_one (ps_ret (pe_callB call_len_seq (by rfl) T.f_len boot_len (pa_cons (pe_fld (pv 0) rfl) pa_nil)))), ?_⟩
  obtain ⟨R, av, N, rfl, k, hN, hl, q⟩ := h
  obtain ⟨a, dx, p', q', b, vs, g, rfl, h1, h2, h3, h4, h5, h6⟩ := hN.ob
  have hl4 := h4.length
  rw [List.length_map] at hl4
  refine ⟨_, rfl, a, CN K, dx, _, .ref q', rfl, k _ _ h1, T.clN, T.n_own_edges, rfl, q', vs, rfl, .inr (SqT.of (k _ _ h3)), ?_⟩
  rw [hl4]
  exact q R H _ (Fx.refl k) (.int _)
end
end Ld
/-! Ks: D.get(key) of a dict of the module; FORMS. -/
namespace Ld
open PySem L2 PyProof.Rows
def tKGet (K : PySem.W.Frag) (d : Addr) (ty : TE) : TE := fun σ H Q => ty σ H fun y H1 => ∃ (z : Str) (u0 : Value) (v0 : V), y = .str z ∧ PySem.W.nsIn K d z = some (some u0) ∧ RelV v0 u0 ∧ Q v0 H1
section
variable {X : Cx} {d : Addr} {es : Array DictEntry} {n : Nat} {x : Str} {e : Expr} {p apos cpos : Pos} {ty : TE}
theorem pe_kget (D : KDict X.K X.w d es n) (hg : Gl X x) (hm : X.mg x = some (.ref d)) (he : PE X e ty) (m : M1 X (.Name x p) "get" apos e cpos) (hd : (x == ("__debug__" : Str)) = false := by decide) : PE X (.Call (.Attribute (.Name x p) "get" apos) [e] [] cpos) (tKGet X.K d ty) := by
  refine ⟨fun pins s σ H Q I h => ?_⟩
  refine wpAny_Call_method m.base m.few m.line PySem.F.plainAttrs_dict PySem.F.slot_dict_get PySem.F.type_dict_get (thn ((pe_glob (v := .ref d) (pos := p) hg hm rfl hd).run pins s σ H (fun x' H' => x' = .ref d ∧ ty σ H' fun y H1 => ∃ (z : Str) (u0 : Value) (v0 : V), y = .str z ∧ PySem.W.nsIn X.K d z = some (some u0) ∧ RelV v0 u0 ∧ Q v0 H1) I ⟨rfl, h⟩) fun u s1 ⟨x', H1, I1, rx, ex, q1⟩ => ?_)
  subst ex
  obtain rfl : u = Value.ref d := rx
  refine ⟨kd_type D I1, fun b q => ?_, ?_⟩
  · cases q
    exact ⟨_, I1.kIn _ _ D.at_, rfl⟩
  rw [m.trees]
  refine Calls.callWith_builtin rfl (Calls.evalArgs_plain (Calls.spliced_cons (thn (he.run pins s1 σ H1 _ I1 q1) fun iv s2 ⟨y, H2, I2, ry, z, u0, v0, ey, en, r0, q2⟩ => Calls.spliced_nil ?_)))
  subst ey
  obtain ⟨t, rfl⟩ := ry
  refine call_meetsIn PySem.F.slot_dict_get (kd_type D I2) PySem.F.entry_dict_get (PySem.F.args_dict_get_2 _ _) (meets_dict_get (PySem.strKind X.prog X.w) d (PySem.strKind_is X.prog X.w z t) D.low) ⟨_, PySem.W.mapOf_K (prog := X.prog) I2.kIn D.at_ D.lit, ?_⟩
  rw [PySem.W.find_K D.at_ en]
  exact ⟨v0, H2, I2.tok _, r0, q2⟩
end
/-- the forms of changes -/
theorem forms_at {w : World} {K : PySem.W.Frag} {mg : Str → Option Value} (T : Tx w K mg) {z : Str} {i : Int} (h : (z, He.Dv.int i) ∈ formsL) : ∃ u0, PySem.W.nsIn K (He.ga K "FORMS") z = some (some u0) ∧ RelV (.int i) u0 := He.valsB_ok T.formsB h
end Ld
/-! Fi: a change. -/
namespace Ld
open PySem L2 PyProof.Rows
inductive Chg where
  | node (d : PyData)
  | drop (d : PyData)
  | cut (d : PyData)
  | len (d l : PyData)
  | edge (a b c l : PyData)
def Chg.d : Chg → PyData
  | .node d => .tuple [s_ "node", d]
  | .drop d => .tuple [s_ "drop", d]
  | .cut d => .tuple [s_ "cut", d]
  | .len d l => .tuple [s_ "length", d, l]
  | .edge a b c l => .tuple [s_ "edge", a, b, c, l]
def ValOk (d : PyData) : Prop := OddV d ∨ (∃ s, d = .str s ∧ isNameS s = true) ∨ (∃ i, d = .int i ∧ -2000000 ≤ i ∧ i ≤ 2000000)
def Chg.ok : Chg → Prop
  | .node d => ValOk d
  | .drop d => ValOk d
  | .cut d => ValOk d
  | .len d l => ValOk d ∧ ValOk l
  | .edge a b c l => ValOk a ∧ ValOk b ∧ ValOk c ∧ ValOk l
def strsD (ns : List Str) : PyData := .list (ns.map PyData.str)
def spChange : Sp := fun vs H Q _ => ∃ (R : Hp) (p : Addr) (u : Nat) (nv pv_ : V) (N : Net) (pool : List Str), vs = [.ref p, nv, pv_] ∧ Same R H ∧ PenAt R H p u ∧ At R nv N.d ∧ At R pv_ (strsD pool) ∧ Good N ∧ (∀ s ∈ pool, isNameS s = true) ∧ 1 ≤ pool.length ∧ pool.length ≤ 100 ∧ u + 100 ≤ lim ∧
  ∀ (c : Chg) (v : V) (u' : Nat) (R' H' : Hp), c.ok → At R' v c.d → u' ≤ u + 20 → PenAt R' H' p u' → Fx [p] R H R' H' → Q v H'
section
variable {P : Program} {w : World} {K : PySem.W.Frag} {mg : Str → Option Value} {base : Heap}
theorem valOk_names {ns : List Str} (h : ∀ s ∈ ns, isNameS s = true) : ∀ d ∈ ns.map PyData.str, ValOk d := by
  intro d hd
  obtain ⟨s, hs, rfl⟩ := List.mem_map.mp hd
  exact .inr (.inl ⟨s, rfl, h s hs⟩)
theorem ok_lchange (T : Tx w K mg) : FnOk P w K mg base CX0 4 (a_lchange K) (f_lchange K) P_lchange spChange := by
  refine T.d_lchange.ok sc_lchange (fun vs H Q E h => by obtain ⟨_, _, _, _, _, _, _, rfl, _⟩ := h; rfl) (fun cdv A outer s H vs Q E hr h => ?_)
  have hu := hu_of hr
  have nd := sc_lchange.nd
  refine ⟨_, PSs.nox (pss_cons (ps_par3 (i := 3) (j := 4) (l := 5) (by rfl) nd rfl rfl rfl (by decide) (by decide) (by decide) rfl rfl rfl (pa_cons (pe_ix ix_tup (pv 1) pe_int (fun _ _ => rfl)) (pa_cons (pe_lc (own := [("_law_edge", 12)]) (g := (gName 12)) (tt := tYes) (by rfl) nd (pi_list (pe_ix ix_tup (pv 1) pe_int (fun _ _ => rfl))) (blkOk_by (N := N_lchange) (sc := defScope st_lchange) (by decide +kernel)) (fun _ _ _ _ _ => (pg_name (i := 12) nd rfl (Or.inl rfl))) (fun _ _ _ _ _ => pts_nil) (fun _ _ _ _ _ => (pe_ix (show IxR _ (rIxT K) from ix_tup) (pv 12) pe_int (fun _ _ => rfl)))) (pa_cons (pe_call (ok_lodd T) (hr.mono (by decide)) (by rfl) T.g_lodd T.k_lodd T.b_lodd .nil pass0 (pa_cons (pv 0) pa_nil)) pa_nil))) (by rfl))
    (pss_cons (ps_set (i := 6) nd rfl (Or.inl rfl) (pe_call (ok_lpick T) (hr.mono (by decide)) (by rfl) T.g_lpick T.k_lpick T.b_lpick .nil pass0 (pa_cons (pv 0) (pa_cons (pe_lst (pa_cons pe_str (pa_cons pe_str (pa_cons pe_str (pa_cons pe_str (pa_cons pe_str (pa_cons pe_str (pa_cons pe_str (pa_cons pe_str (pa_cons pe_str pa_nil)))))))))) pa_nil))))
    (pss_cons (ps_if (pt_cmpR op_eq (pv 6) pe_str (nomark _))
      (pss_one (ps_ret (pe_tup (pa_cons (pv 6) (pa_cons (pe_call (ok_lpick T) (hr.mono (by decide)) (by rfl) T.g_lpick T.k_lpick T.b_lpick .nil pass0 (pa_cons (pv 0) (pa_cons (pe_op op_cat (pe_op op_cat (pe_op op_cat (pv 2) (pv 2)) (pe_lst (pa_cons (pv 5) pa_nil))) (pe_slice sl_list (pv 3) po_none (po_some pe_int))) pa_nil))) pa_nil)))))
      pss_nil)
    (pss_cons (ps_if (pt_cmpR op_eq (pv 6) pe_str (nomark _))
      (pss_one (ps_ret (pe_tup (pa_cons (pv 6) (pa_cons (pe_call (ok_lpick T) (hr.mono (by decide)) (by rfl) T.g_lpick T.k_lpick T.b_lpick .nil pass0 (pa_cons (pv 0) (pa_cons (pe_op op_cat (pe_op op_cat (pv 3) (pv 3)) (pe_lst (pa_cons (pv 5) (pa_cons (pe_ix ix_list (pv 2) pe_int (fun _ _ => rfl)) pa_nil)))) pa_nil))) pa_nil)))))
      pss_nil)
    (pss_cons (ps_if (pt_cmpR op_eq (pv 6) pe_str (nomark _))
      (pss_one (ps_ret (pe_tup (pa_cons (pv 6) (pa_cons (pe_call (ok_lpick T) (hr.mono (by decide)) (by rfl) T.g_lpick T.k_lpick T.b_lpick .nil pass0 (pa_cons (pv 0) (pa_cons (pe_op op_cat (pe_op op_cat (pv 4) (pv 4)) (pe_lst (pa_cons (pv 5) (pa_cons (pe_ix ix_list (pv 2) pe_int (fun _ _ => rfl)) pa_nil)))) pa_nil))) pa_nil)))))
      pss_nil)
    (pss_cons (ps_if (pt_cmpR op_eq (pv 6) pe_str (nomark _))
      (pss_cons (ps_set (i := 7) nd rfl (Or.inl rfl) (pe_call (ok_lpick T) (hr.mono (by decide)) (by rfl) T.g_lpick T.k_lpick T.b_lpick .nil pass0 (pa_cons (pv 0) (pa_cons (pe_lst (pa_cons pe_int (pa_cons (pe_un un_neg pe_int) (pa_cons pe_int (pa_cons (pe_un un_neg pe_int) (pa_cons pe_int (pa_cons (pv 5) (pa_cons (pe_op op_sub (pe_call (ok_ldraw T) (hr.mono (by decide)) (by rfl) T.g_ldraw T.k_ldraw T.b_ldraw .nil pass0 (pa_cons (pv 0) (pa_cons pe_int pa_nil))) pe_int) (pa_cons pe_int pa_nil))))))))) pa_nil))))
      (pss_one (ps_ret (pe_tup (pa_cons (pv 6) (pa_cons (pe_call (ok_lpick T) (hr.mono (by decide)) (by rfl) T.g_lpick T.k_lpick T.b_lpick .nil pass0 (pa_cons (pv 0) (pa_cons (pe_op op_cat (pe_op op_cat (pv 4) (pv 4)) (pe_lst (pa_cons (pv 5) pa_nil))) pa_nil))) (pa_cons (pv 7) pa_nil)))))))
      pss_nil)
    (pss_cons (ps_par3 (i := 8) (j := 9) (l := 10) (by rfl) nd rfl rfl rfl (by decide) (by decide) (by decide) rfl rfl rfl (pa_cons (pe_call (ok_lpick T) (hr.mono (by decide)) (by rfl) T.g_lpick T.k_lpick T.b_lpick .nil pass0 (pa_cons (pv 0) (pa_cons (pv 3) pa_nil))) (pa_cons (pe_call (ok_lpick T) (hr.mono (by decide)) (by rfl) T.g_lpick T.k_lpick T.b_lpick .nil pass0 (pa_cons (pv 0) (pa_cons (pe_op op_cat (pv 3) (pe_slice sl_list (pv 3) po_none (po_some pe_int))) pa_nil))) (pa_cons (pe_call (ok_lpick T) (hr.mono (by decide)) (by rfl) T.g_lpick T.k_lpick T.b_lpick .nil pass0 (pa_cons (pv 0) (pa_cons (pv 2) pa_nil))) pa_nil))) (by rfl))
    (pss_cons (ps_set (i := 11) nd rfl (Or.inl rfl) (pe_op op_cat (pe_op op_rep (pe_lst (pa_cons (pe_tup (pa_cons (pv 6) (pa_cons (pv 10) (pa_cons (pv 8) (pa_cons (pv 9) (pa_cons (pe_op op_sub (pe_call (ok_ldraw T) (hr.mono (by decide)) (by rfl) T.g_ldraw T.k_ldraw T.b_ldraw .nil pass0 (pa_cons (pv 0) (pa_cons pe_int pa_nil))) pe_int) pa_nil)))))) pa_nil)) pe_int) (pe_lst (pa_cons (pe_tup (pa_cons (pv 6) (pa_cons (pv 10) (pa_cons (pv 8) (pa_cons (pv 8) (pa_cons pe_int pa_nil)))))) (pa_cons (pe_tup (pa_cons (pv 6) (pa_cons (pv 5) (pa_cons (pv 8) (pa_cons (pv 9) (pa_cons pe_int pa_nil)))))) pa_nil)))))
    (pss_one (ps_ret (pe_call (ok_lpick T) (hr.mono (by decide)) (by rfl) T.g_lpick T.k_lpick T.b_lpick .nil pass0 (pa_cons (pv 0) (pa_cons (pe_op op_cat (pv 11) (pe_lst (pa_cons (pe_tup (pa_cons (pv 6) (pa_cons (pv 10) (pa_cons (pv 5) (pa_cons (pv 9) (pa_cons pe_int pa_nil)))))) pa_nil))) pa_nil))))))))))))), ?_⟩
  obtain ⟨R, p, u, nv, pv_, N, pool, rfl, k, hp, hN, hpo, gN, gpo, hpl, hpl2, hu0, q⟩ := h
  have hu0 : u + 100 ≤ 1000000000 := hu0
  have hsz := sizeLine_eq
  have hnl := gN.nl
  have hnl1 := gN.ne
  have hel := gN.el
  obtain ⟨nt, nvs, nn, rfl, sN, eN0, hnn⟩ := hN.ixT K k (j := 0) rfl
  refine ⟨_, rfl, nt, _, _, nn, rfl, rfl, sN, at_of2 (j := 0) rfl eN0, ?_⟩
  obtain ⟨nt', nvs', ev, ent, sN', eN1, hev⟩ := hN.ixT K k (j := 1) rfl
  cases ent
  refine ⟨_, rfl, nt, _, _, ev, rfl, rfl, sN', at_of2 (j := 1) rfl eN1, ?_⟩
  obtain ⟨ea, evs, rfl, e1, e2, e3⟩ := hev.isL K k
  refine ⟨ea, rfl, ⟨_, e3⟩, fun D hD => ?_⟩
  have evl : evs.length = N.es.length := by rw [e2.length, List.length_map]
  refine lc_data (walk_list (xs := evs)) [] (fun i => (N.es.take i).map fun e => PyData.str e.n) (fun _ _ _ => True) k hD (by simp) (fun i hi => ?_) rfl trivial (fun i R H _ f _ => SqL.of (f.rh _ _ (f.rr _ _ e1))) (fun _ _ _ _ _ _ => trivial) (fun i x R' H' H'' vs Cy Cn hi f r hv ac e y ky kn => ?_) (fun R1 H1 vs f1 r hv ac _ => ?_)
  · simp only [List.length_map, List.length_take]; omega
  · obtain ⟨rfl, hx⟩ := y
    have hi' : i < N.es.length := by omega
    obtain ⟨d, hd1, hd2⟩ := e2.get hx
    rw [List.getElem?_map, List.getElem?_eq_getElem hi'] at hd1
    cases hd1
    refine ⟨rfl, iteT (B := Cn H'') ?_⟩
    obtain ⟨et, ets, nv, rfl, sE, eE, hv2⟩ := (hd2.up f.rr).ixT K f.rh (j := 0) rfl
    refine ⟨_, rfl, et, _, _, nv, rfl, rfl, sE, at_of2 (j := 0) rfl eE, ky R' H'' _ _ (Fx.refl f.rh) hv2 ?_ trivial⟩
    rw [take_snoc _ _ hi', List.map_append]
    rfl
  · rw [evl, List.take_of_length_le (Nat.le_refl _)] at ac
    have hp1 := hp.up0 f1
    obtain ⟨R2, f2, eD, m2⟩ := f1.fz hv hD r
    have hp2 : PenAt R2 H1 p u := hp.up0 f2
    have hD2 : At R2 (.ref D) (strsD (N.es.map Edg.n)) := by
      refine .lst eD ?_
      rw [List.map_map]
      exact ac.up m2
    have hnn2 := hnn.up f2.rr
    have hpo2 := hpo.up f2.rr
    refine ⟨_, rfl, R2, p, u, rfl, f2.rh, hp2, by show u + 100 ≤ 1000000000; omega, fun od ov u3 R3 H3 hod hov hu3 hp3 f3 => ?_⟩
    have f3' := f3
    have f3 := (f2.s0 (M := [p])).trans f3
    refine ⟨_, _, _, rfl, ?_⟩
    -- word
    refine ⟨_, rfl, by show 9 ≤ sizeLine; omega, fun L hL => ?_⟩
    have f4 := f3.newH (o := .lst [.str "node", .str "node", .str "drop", .str "edge", .str "edge", .str "edge", .str "cut", .str "length", .str "length"]) hL
    have hp4 := hp3.new (o := .lst [.str "node", .str "node", .str "drop", .str "edge", .str "edge", .str "edge", .str "cut", .str "length", .str "length"]) hL
    refine .inl ⟨R3, p, u3, L, _, rfl, f4.rh, hp4, upd_same, by simp, by simp, by show u3 ≤ 1000000000; omega, fun jw w u5 H5 hw hu5 hp5 f5 => ?_⟩
    have f5 := f4.trans f5
    have hmw := List.mem_of_getElem? hw
    have m3 : Same R2 R3 := by
      have := f3.rr
      exact f3'.rr
    obtain ⟨pa, pvs, rfl, ep, hpl3, _⟩ := (hpo2.up m3).isL K f5.rh
    obtain ⟨na, nvs2, rfl, en, hnl3, _⟩ := (hnn2.up m3).isL K f5.rh
    obtain ⟨D', dvs, eDD, eD3, hdl3, _⟩ := (hD2.up m3).isL K f5.rh
    cases eDD
    have lp := hpl3.length
    have ln := hnl3.length
    have ld := hdl3.length
    simp only [List.length_map] at lp ln ld
    have vp := valOk_names gpo
    have vn := valOk_names gN.nm
    have vd : ∀ d ∈ (N.es.map Edg.n).map PyData.str, ValOk d := valOk_names (by
      intro s hs
      obtain ⟨e, he, rfl⟩ := List.mem_map.mp hs
      exact (isEdge_iff.mp (gN.ed e he)).1)
    have vo : ValOk od := .inl hod
    have k5 := f5.rh
    have hw5 : w = .str "node" ∨ w = .str "drop" ∨ w = .str "cut" ∨ w = .str "length" ∨ w = .str "edge" := by
      simp only [List.mem_cons, List.not_mem_nil, or_false] at hmw
      rcases hmw with h | h | h | h | h | h | h | h | h <;> simp [h]
    have hl6 : u5 + 50 ≤ 1000000000 := by omega
    rcases hw5 with rfl | rfl | rfl | rfl | rfl
    · -- node
      refine ⟨_, rfl, rfl, _, rfl, ?_⟩
      refine iteB (fun h => absurd h (by decide)) (fun _ => ?_)
      refine ⟨_, rfl, _, rfl, _, rfl, _, rfl, pa, pa, _, _, rfl, rfl, k5 _ _ ep, k5 _ _ ep, by omega, fun a1 h1 => ?_⟩
      obtain ⟨R4, g1, t1, n1⟩ := nw_lst k5 (hpl3.app hpl3) h1
      refine ⟨_, rfl, by show 1 ≤ sizeLine; omega, fun a2 h2 => ?_⟩
      obtain ⟨R5, g2, t2, n2⟩ := nw_lst g1.rh (.cons (hov.up n1) .nil) h2
      obtain ⟨_, _, e, x1, x2, _⟩ := (t1.up n2).isL K g2.rh
      cases e
      obtain ⟨_, _, e, y1, y2, _⟩ := t2.isL K g2.rh
      cases e
      have lx := x2.length
      have ly := y2.length
      simp only [List.length_append, List.length_map, List.length_cons, List.length_nil] at lx ly
      refine ⟨a1, a2, _, _, rfl, rfl, g2.rh _ _ x1, g2.rh _ _ y1, by omega, fun a3 h3 => ?_⟩
      obtain ⟨R6, g3, t3, n3⟩ := nw_lst g2.rh (x2.app y2) h3
      refine ⟨_, rfl, _, rfl, na, _, rfl, SqL.of (g3.rh _ _ (n3 _ _ (n2 _ _ (n1 _ _ en)))), fun a4 h4 => ?_⟩
      obtain ⟨R7, g4, t4, n4⟩ := nw_lst g3.rh (cutAtL (hnl3.up (n1.trans (n2.trans n3))) 1) h4
      obtain ⟨_, _, e, x1, x2, _⟩ := (t3.up n4).isL K g4.rh
      cases e
      obtain ⟨_, _, e, y1, y2, _⟩ := t4.isL K g4.rh
      cases e
      have lx := x2.length
      have ly := y2.length
      simp only [List.length_append, List.length_map, List.length_cons, List.length_nil, List.length_take] at lx ly
      refine ⟨a3, a4, _, _, rfl, rfl, g4.rh _ _ x1, g4.rh _ _ y1, by omega, fun a5 h5 => ?_⟩
      obtain ⟨R8, g5, t5, n5⟩ := nw_lst g4.rh (x2.app y2) h5
      obtain ⟨_, _, e, z1, z2, _⟩ := t5.isL K g5.rh
      cases e
      have gg := (g1.trans (g2.trans (g3.trans (g4.trans g5)))).s0 (M := [p])
      have lz := z2.length
      simp only [List.length_append, List.length_map, List.length_cons, List.length_nil, List.length_take] at lz
      refine .inl ⟨R8, p, u5, a5, _, rfl, g5.rh, ((((hp5.up0 g1).up0 g2).up0 g3).up0 g4).up0 g5, g5.rh _ _ z1, by omega, by omega, by show u5 ≤ 1000000000; omega, fun j x u6 H6 hj hu6 hp6 f6 => ?_⟩
      obtain ⟨d, d1, d2⟩ := z2.get hj
      refine ⟨by show 2 ≤ sizeLine; omega, fun t ht => ?_⟩
      obtain ⟨R9, g7, t7, n7⟩ := nw_tup f6.rh (.cons (.str "node") (.cons d2 .nil)) ht
      refine q (.node d) _ u6 R9 _ ?_ t7 (by omega) (hp6.up0 g7) ((f5.trans (gg.trans f6)).trans g7.s0)
      have hd := List.mem_of_getElem? d1
      simp only [List.mem_append, List.mem_cons, List.not_mem_nil, or_false] at hd
      rcases hd with (((hd | hd) | rfl) | hd)
      · exact vp d hd
      · exact vp d hd
      · exact vo
      · exact vn d (List.mem_of_mem_take hd)
    · -- drop
      refine ⟨_, rfl, rfl, _, rfl, ?_⟩
      refine iteB (fun _ => ?_) (fun h => absurd h (by decide))
      refine ⟨_, rfl, rfl, _, rfl, ?_⟩
      refine iteB (fun h => absurd h (by decide)) (fun _ => ?_)
      refine ⟨_, rfl, _, rfl, _, rfl, _, rfl, na, na, _, _, rfl, rfl, k5 _ _ en, k5 _ _ en, by omega, fun a1 h1 => ?_⟩
      obtain ⟨R4, g1, t1, n1⟩ := nw_lst k5 (hnl3.app hnl3) h1
      obtain ⟨pa', ps', pv0, e, sp', ep', hv0⟩ := ((hpo2.up m3).up n1).ixL K g1.rh (j := 0) (d := .str pool[0]) (by rw [List.getElem?_map, List.getElem?_eq_getElem hpl]; rfl)
      cases e
      refine ⟨_, rfl, _, rfl, pa, _, _, pv0, rfl, rfl, sp', at_of2 (j := 0) rfl ep', by show 2 ≤ sizeLine; omega, fun a2 h2 => ?_⟩
      obtain ⟨R5, g2, t2, n2⟩ := nw_lst g1.rh (.cons (hov.up n1) (.cons hv0 .nil)) h2
      obtain ⟨_, _, e, x1, x2, _⟩ := (t1.up n2).isL K g2.rh
      cases e
      obtain ⟨_, _, e, y1, y2, _⟩ := t2.isL K g2.rh
      cases e
      have lx := x2.length
      have ly := y2.length
      simp only [List.length_append, List.length_map, List.length_cons, List.length_nil] at lx ly
      refine ⟨a1, a2, _, _, rfl, rfl, g2.rh _ _ x1, g2.rh _ _ y1, by omega, fun a3 h3 => ?_⟩
      obtain ⟨R6, g3, t3, n3⟩ := nw_lst g2.rh (x2.app y2) h3
      obtain ⟨_, _, e, z1, z2, _⟩ := t3.isL K g3.rh
      cases e
      have gg := (g1.trans (g2.trans g3)).s0 (M := [p])
      have lz := z2.length
      simp only [List.length_append, List.length_map, List.length_cons, List.length_nil] at lz
      refine .inl ⟨R6, p, u5, a3, _, rfl, g3.rh, ((hp5.up0 g1).up0 g2).up0 g3, g3.rh _ _ z1, by omega, by omega, by show u5 ≤ 1000000000; omega, fun j x u6 H6 hj hu6 hp6 f6 => ?_⟩
      obtain ⟨d, d1, d2⟩ := z2.get hj
      refine ⟨by show 2 ≤ sizeLine; omega, fun t ht => ?_⟩
      obtain ⟨R9, g7, t7, n7⟩ := nw_tup f6.rh (.cons (.str "drop") (.cons d2 .nil)) ht
      refine q (.drop d) _ u6 R9 _ ?_ t7 (by omega) (hp6.up0 g7) ((f5.trans (gg.trans f6)).trans g7.s0)
      have hd := List.mem_of_getElem? d1
      simp only [List.mem_append, List.mem_cons, List.not_mem_nil, or_false] at hd
      rcases hd with (hd | hd) | rfl | rfl
      · exact vn d hd
      · exact vn d hd
      · exact vo
      · exact vp _ (List.mem_map.mpr ⟨_, List.getElem_mem _, rfl⟩)
    · -- cut
      refine ⟨_, rfl, rfl, _, rfl, ?_⟩
      refine iteB (fun _ => ?_) (fun h => absurd h (by decide))
      refine ⟨_, rfl, rfl, _, rfl, ?_⟩
      refine iteB (fun _ => ?_) (fun h => absurd h (by decide))
      refine ⟨_, rfl, rfl, _, rfl, ?_⟩
      refine iteB (fun h => absurd h (by decide)) (fun _ => ?_)
      refine ⟨_, rfl, _, rfl, _, rfl, _, rfl, D, D, _, _, rfl, rfl, k5 _ _ eD3, k5 _ _ eD3, by omega, fun a1 h1 => ?_⟩
      obtain ⟨R4, g1, t1, n1⟩ := nw_lst k5 (hdl3.app hdl3) h1
      obtain ⟨pa', ps', pv0, e, sp', ep', hv0⟩ := ((hpo2.up m3).up n1).ixL K g1.rh (j := 0) (d := .str pool[0]) (by rw [List.getElem?_map, List.getElem?_eq_getElem hpl]; rfl)
      cases e
      refine ⟨_, rfl, _, rfl, pa, _, _, pv0, rfl, rfl, sp', at_of2 (j := 0) rfl ep', by show 2 ≤ sizeLine; omega, fun a2 h2 => ?_⟩
      obtain ⟨R5, g2, t2, n2⟩ := nw_lst g1.rh (.cons (hov.up n1) (.cons hv0 .nil)) h2
      obtain ⟨_, _, e, x1, x2, _⟩ := (t1.up n2).isL K g2.rh
      cases e
      obtain ⟨_, _, e, y1, y2, _⟩ := t2.isL K g2.rh
      cases e
      have lx := x2.length
      have ly := y2.length
      simp only [List.length_append, List.length_map, List.length_cons, List.length_nil] at lx ly
      refine ⟨a1, a2, _, _, rfl, rfl, g2.rh _ _ x1, g2.rh _ _ y1, by omega, fun a3 h3 => ?_⟩
      obtain ⟨R6, g3, t3, n3⟩ := nw_lst g2.rh (x2.app y2) h3
      obtain ⟨_, _, e, z1, z2, _⟩ := t3.isL K g3.rh
      cases e
      have gg := (g1.trans (g2.trans g3)).s0 (M := [p])
      have lz := z2.length
      simp only [List.length_append, List.length_map, List.length_cons, List.length_nil] at lz
      refine .inl ⟨R6, p, u5, a3, _, rfl, g3.rh, ((hp5.up0 g1).up0 g2).up0 g3, g3.rh _ _ z1, by omega, by omega, by show u5 ≤ 1000000000; omega, fun j x u6 H6 hj hu6 hp6 f6 => ?_⟩
      obtain ⟨d, d1, d2⟩ := z2.get hj
      refine ⟨by show 2 ≤ sizeLine; omega, fun t ht => ?_⟩
      obtain ⟨R9, g7, t7, n7⟩ := nw_tup f6.rh (.cons (.str "cut") (.cons d2 .nil)) ht
      refine q (.cut d) _ u6 R9 _ ?_ t7 (by omega) (hp6.up0 g7) ((f5.trans (gg.trans f6)).trans g7.s0)
      have hd := List.mem_of_getElem? d1
      simp only [List.mem_append, List.mem_cons, List.not_mem_nil, or_false] at hd
      rcases hd with (hd | hd) | rfl | rfl
      · exact vd d hd
      · exact vd d hd
      · exact vo
      · exact vp _ (List.mem_map.mpr ⟨_, List.getElem_mem _, rfl⟩)
    · -- length
      refine ⟨_, rfl, rfl, _, rfl, ?_⟩
      refine iteB (fun _ => ?_) (fun h => absurd h (by decide))
      refine ⟨_, rfl, rfl, _, rfl, ?_⟩
      refine iteB (fun _ => ?_) (fun h => absurd h (by decide))
      refine ⟨_, rfl, rfl, _, rfl, ?_⟩
      refine iteB (fun _ => ?_) (fun h => absurd h (by decide))
      refine ⟨_, rfl, rfl, _, rfl, ?_⟩
      refine iteB (fun h => absurd h (by decide)) (fun _ => ?_)
      refine ⟨_, rfl, _, rfl, _, rfl, _, rfl, _, rfl, R3, p, u5, _, rfl, k5, hp5, by decide, by decide, by show u5 ≤ 1000000000; omega, fun j u6 H6 j0 j1 hu6 hp6 f6 => ?_⟩
      refine ⟨_, _, rfl, rfl, by show 8 ≤ sizeLine; omega, fun a1 h1 => ?_⟩
      have b1 : -2000000 ≤ j - 50 ∧ j - 50 ≤ 2000000 := by omega
      obtain ⟨R4, g1, t1, n1⟩ := nw_lst (ds := [.int 0, .int (-1), .int 5, .int (-1000000), .int 1000001, od, .int (j - 50), .int 2]) f6.rh (.cons (.int _) (.cons (.int _) (.cons (.int _) (.cons (.int _) (.cons (.int _) (.cons hov (.cons (.int _) (.cons (.int _) .nil)))))))) h1
      obtain ⟨_, _, e, x1, x2, _⟩ := t1.isL K g1.rh
      cases e
      have lx := x2.length
      simp only [List.length_cons, List.length_nil] at lx
      have f7 := f6.trans (g1.s0 (M := [p]))
      refine .inl ⟨R4, p, u6, a1, _, rfl, g1.rh, hp6.up0 g1, g1.rh _ _ x1, by omega, by omega, by show u6 ≤ 1000000000; omega, fun j7 x u7 H7 hj hu7 hp7 f8 => ?_⟩
      have f8 := f7.trans f8
      obtain ⟨dl, d1, d2⟩ := x2.get hj
      have vl : ValOk dl := by
        have hd := List.mem_of_getElem? d1
        simp only [List.mem_cons, List.not_mem_nil, or_false] at hd
        rcases hd with rfl | rfl | rfl | rfl | rfl | rfl | rfl | rfl
        · exact .inr (.inr ⟨_, rfl, by decide, by decide⟩)
        · exact .inr (.inr ⟨_, rfl, by decide, by decide⟩)
        · exact .inr (.inr ⟨_, rfl, by decide, by decide⟩)
        · exact .inr (.inr ⟨_, rfl, by decide, by decide⟩)
        · exact .inr (.inr ⟨_, rfl, by decide, by decide⟩)
        · exact vo
        · exact .inr (.inr ⟨_, rfl, b1.1, b1.2⟩)
        · exact .inr (.inr ⟨_, rfl, by decide, by decide⟩)
      have k7 := f8.rh
      have eD4 := n1 _ _ eD3
      have hdl4 := hdl3.up n1
      refine ⟨_, rfl, _, rfl, _, rfl, _, rfl, D, D, _, _, rfl, rfl, k7 _ _ eD4, k7 _ _ eD4, by omega, fun a2 h2 => ?_⟩
      obtain ⟨R5, g2, t2, n2⟩ := nw_lst k7 (hdl4.app hdl4) h2
      refine ⟨_, rfl, by show 1 ≤ sizeLine; omega, fun a3 h3 => ?_⟩
      obtain ⟨R6, g3, t3, n3⟩ := nw_lst g2.rh (.cons ((hov.up n1).up n2) .nil) h3
      obtain ⟨_, _, e, x1, x2, _⟩ := (t2.up n3).isL K g3.rh
      cases e
      obtain ⟨_, _, e, y1, y2, _⟩ := t3.isL K g3.rh
      cases e
      have lx := x2.length
      have ly := y2.length
      simp only [List.length_append, List.length_map, List.length_cons, List.length_nil] at lx ly
      refine ⟨a2, a3, _, _, rfl, rfl, g3.rh _ _ x1, g3.rh _ _ y1, by omega, fun a4 h4 => ?_⟩
      obtain ⟨R7, g4, t4, n4⟩ := nw_lst g3.rh (x2.app y2) h4
      obtain ⟨_, _, e, z1, z2, _⟩ := t4.isL K g4.rh
      cases e
      have gg := (g2.trans (g3.trans g4)).s0 (M := [p])
      have lz := z2.length
      simp only [List.length_append, List.length_map, List.length_cons, List.length_nil] at lz
      refine .inl ⟨R7, p, u7, a4, _, rfl, g4.rh, ((hp7.up0 g2).up0 g3).up0 g4, g4.rh _ _ z1, by omega, by omega, by show u7 ≤ 1000000000; omega, fun j8 x8 u8 H8 hj8 hu8 hp8 f9 => ?_⟩
      obtain ⟨d, e1, e2⟩ := z2.get hj8
      refine ⟨_, rfl, by show 3 ≤ sizeLine; omega, fun t ht => ?_⟩
      obtain ⟨R9, g7, t7, n7⟩ := nw_tup f9.rh (.cons (.str "length") (.cons e2 (.cons (d2.up (n2.trans (n3.trans n4))) .nil))) ht
      refine q (.len d dl) _ u8 R9 _ ⟨?_, vl⟩ t7 (by omega) (hp8.up0 g7) ((f5.trans (f8.trans (gg.trans f9))).trans g7.s0)
      have hd := List.mem_of_getElem? e1
      simp only [List.mem_append, List.mem_cons, List.not_mem_nil, or_false] at hd
      rcases hd with (hd | hd) | rfl
      · exact vd d hd
      · exact vd d hd
      · exact vo
    · -- edge
      refine ⟨_, rfl, rfl, _, rfl, ?_⟩
      refine iteB (fun _ => ?_) (fun h => absurd h (by decide))
      refine ⟨_, rfl, rfl, _, rfl, ?_⟩
      refine iteB (fun _ => ?_) (fun h => absurd h (by decide))
      refine ⟨_, rfl, rfl, _, rfl, ?_⟩
      refine iteB (fun _ => ?_) (fun h => absurd h (by decide))
      refine ⟨_, rfl, rfl, _, rfl, ?_⟩
      refine iteB (fun _ => ?_) (fun h => absurd h (by decide))
      refine ⟨_, rfl, _, rfl, .inl ⟨R3, p, u5, na, _, rfl, k5, hp5, k5 _ _ en, by omega, by omega, by show u5 ≤ 1000000000; omega, fun ju xu u6 H6 hju hu6 hp6 f6 => ?_⟩⟩
      obtain ⟨du, du1, du2⟩ := hnl3.get hju
      have vu := vn du (List.mem_of_getElem? du1)
      refine ⟨_, rfl, _, rfl, _, rfl, _, rfl, na, _, rfl, SqL.of (f6.rh _ _ en), fun a1 h1 => ?_⟩
      obtain ⟨R4, g1, t1, n1⟩ := nw_lst f6.rh (cutAtL hnl3 1) h1
      obtain ⟨_, _, e, y1, y2, _⟩ := t1.isL K g1.rh
      cases e
      have ly := y2.length
      simp only [List.length_map, List.length_take] at ly
      refine ⟨na, a1, _, _, rfl, rfl, g1.rh _ _ (n1 _ _ en), g1.rh _ _ y1, by omega, fun a2 h2 => ?_⟩
      obtain ⟨R5, g2, t2, n2⟩ := nw_lst g1.rh ((hnl3.up n1).app y2) h2
      obtain ⟨_, _, e, z1, z2, _⟩ := t2.isL K g2.rh
      cases e
      have lz := z2.length
      simp only [List.length_append, List.length_map, List.length_take] at lz
      refine .inl ⟨R5, p, u6, a2, _, rfl, g2.rh, (hp6.up0 g1).up0 g2, g2.rh _ _ z1, by omega, by omega, by show u6 ≤ 1000000000; omega, fun jv xv u7 H7 hjv hu7 hp7 f7 => ?_⟩
      obtain ⟨dv, dv1, dv2⟩ := z2.get hjv
      have vv : ValOk dv := by
        have hd := List.mem_of_getElem? dv1
        rcases List.mem_append.mp hd with hd | hd
        · exact vn dv hd
        · exact vn dv (List.mem_of_mem_take hd)
      have ep5 := n2 _ _ (n1 _ _ ep)
      refine ⟨_, rfl, _, rfl, .inl ⟨R5, p, u7, pa, _, rfl, f7.rh, hp7, f7.rh _ _ ep5, by omega, by omega, by show u7 ≤ 1000000000; omega, fun jn xn u8 H8 hjn hu8 hp8 f8 => ?_⟩⟩
      obtain ⟨dn, dn1, dn2⟩ := ((hpl3.up n1).up n2).get hjn
      have vm := vp dn (List.mem_of_getElem? dn1)
      refine ⟨_, _, _, rfl, ?_⟩
      have F8 := f5.trans (f6.trans (((g1.trans g2).s0 (M := [p])).trans (f7.trans f8)))
      have hu2 := (du2.up n1).up n2
      have ho2 := (hov.up n1).up n2
      -- some
      refine ⟨_, rfl, _, rfl, _, rfl, _, rfl, _, rfl, R5, p, u8, _, rfl, f8.rh, hp8, by decide, by decide, by show u8 ≤ 1000000000; omega, fun j u9 H9 j0 j1 hu9 hp9 f9 => ?_⟩
      refine ⟨_, _, rfl, rfl, by show 5 ≤ sizeLine; omega, fun b1 i1 => ?_⟩
      obtain ⟨R6, g3, t3, n3⟩ := nw_tup f9.rh (.cons (.str "edge") (.cons dn2 (.cons hu2 (.cons dv2 (.cons (.int (j - 3)) .nil))))) i1
      refine ⟨by show 1 ≤ sizeLine; omega, fun b2 i2 => ?_⟩
      obtain ⟨R7, g4, t4, n4⟩ := nw_lst g3.rh (.cons t3 .nil) i2
      obtain ⟨_, _, e, x1, x2, _⟩ := t4.isL K g4.rh
      cases e
      refine ⟨b2, _, _, rfl, rfl, g4.rh _ _ x1, by decide, by decide, by rw [x2.length]; show 1 * 5 ≤ sizeLine; omega, fun b3 i3 => ?_⟩
      obtain ⟨R8, g5, t5, n5⟩ := nw_lst g4.rh (x2.rep 5) i3
      have m38 := n3.trans (n4.trans n5)
      refine ⟨_, rfl, _, rfl, _, rfl, _, rfl, by show 5 ≤ sizeLine; omega, fun b4 i4 => ?_⟩
      obtain ⟨R9, g6, t6, n6⟩ := nw_tup g5.rh (.cons (.str "edge") (.cons (dn2.up m38) (.cons (hu2.up m38) (.cons (hu2.up m38) (.cons (.int 1) .nil))))) i4
      have m39 := m38.trans n6
      refine ⟨_, rfl, _, rfl, _, rfl, _, rfl, by show 5 ≤ sizeLine; omega, fun b5 i5 => ?_⟩
      obtain ⟨R10, g7, t7, n7⟩ := nw_tup g6.rh (.cons (.str "edge") (.cons (ho2.up m39) (.cons (hu2.up m39) (.cons (dv2.up m39) (.cons (.int 1) .nil))))) i5
      have m310 := m39.trans n7
      refine ⟨by show 2 ≤ sizeLine; omega, fun b6 i6 => ?_⟩
      obtain ⟨R11, g8, t8, n8⟩ := nw_lst g7.rh (.cons (t6.up n7) (.cons t7 .nil)) i6
      obtain ⟨_, _, e, x1, x2, _⟩ := ((t5.up n6).up (n7.trans n8)).isL K g8.rh
      cases e
      obtain ⟨_, _, e, y1, y2, _⟩ := t8.isL K g8.rh
      cases e
      have lx : _ = 5 := x2.length
      have ly : _ = 2 := y2.length
      refine ⟨b3, b6, _, _, rfl, rfl, g8.rh _ _ x1, g8.rh _ _ y1, by omega, fun b7 i7 => ?_⟩
      obtain ⟨R12, g9, t9, n9⟩ := nw_lst g8.rh (x2.app y2) i7
      have m312 := (m310.trans n8).trans n9
      refine ⟨_, rfl, _, rfl, _, rfl, _, rfl, _, rfl, _, rfl, by show 5 ≤ sizeLine; omega, fun b8 i8 => ?_⟩
      obtain ⟨R13, g10, t10, n10⟩ := nw_tup g9.rh (.cons (.str "edge") (.cons (dn2.up m312) (.cons (ho2.up m312) (.cons (dv2.up m312) (.cons (.int 1) .nil))))) i8
      refine ⟨by show 1 ≤ sizeLine; omega, fun b9 i9 => ?_⟩
      obtain ⟨R14, g11, t11, n11⟩ := nw_lst g10.rh (.cons t10 .nil) i9
      obtain ⟨_, _, e, x1, x2, _⟩ := ((t9.up n10).up n11).isL K g11.rh
      cases e
      obtain ⟨_, _, e, y1, y2, _⟩ := t11.isL K g11.rh
      cases e
      have lx : _ = 7 := x2.length
      have ly : _ = 1 := y2.length
      refine ⟨b7, b9, _, _, rfl, rfl, g11.rh _ _ x1, g11.rh _ _ y1, by omega, fun b10 i10 => ?_⟩
      obtain ⟨R15, g12, t12, n12⟩ := nw_lst g11.rh (x2.app y2) i10
      obtain ⟨_, _, e, z1, z2, _⟩ := t12.isL K g12.rh
      cases e
      have lz : _ = 8 := z2.length
      have gg := g3.trans (g4.trans (g5.trans (g6.trans (g7.trans (g8.trans (g9.trans (g10.trans (g11.trans g12))))))))
      refine .inl ⟨R15, p, u9, b10, _, rfl, g12.rh, hp9.up0 gg, g12.rh _ _ z1, by omega, by omega, by show u9 ≤ 1000000000; omega, fun jc xc u10 H10 hjc hu10 hp10 f10 => ?_⟩
      obtain ⟨dc, dc1, dc2⟩ := z2.get hjc
      have hd := List.mem_of_getElem? dc1
      have FF := F8.trans (f9.trans ((gg.s0 (M := [p])).trans f10))
      have v1 : ValOk (.int 1) := .inr (.inr ⟨1, rfl, by decide, by decide⟩)
      have v3 : ValOk (.int (j - 3)) := .inr (.inr ⟨_, rfl, by omega, by omega⟩)
      have fin : dc = Chg.d (.edge dn du dv (.int (j - 3))) ∨ dc = Chg.d (.edge dn du du (.int 1)) ∨ dc = Chg.d (.edge od du dv (.int 1)) ∨ dc = Chg.d (.edge dn od dv (.int 1)) := by
        simp only [List.mem_append, List.mem_cons, List.not_mem_nil, or_false] at hd
        rcases hd with (hd | hd | hd) | hd
        · have hd : dc ∈ List.replicate 5 _ := hd
          exact .inl (List.mem_replicate.mp hd).2
        · exact .inr (.inl hd)
        · exact .inr (.inr (.inl hd))
        · exact .inr (.inr (.inr hd))
      rcases fin with rfl | rfl | rfl | rfl
      · exact q (.edge dn du dv (.int (j - 3))) _ u10 _ _ ⟨vm, vu, vv, v3⟩ dc2 (by omega) hp10 FF
      · exact q (.edge dn du du (.int 1)) _ u10 _ _ ⟨vm, vu, vu, v1⟩ dc2 (by omega) hp10 FF
      · exact q (.edge od du dv (.int 1)) _ u10 _ _ ⟨vo, vu, vv, v1⟩ dc2 (by omega) hp10 FF
      · exact q (.edge dn od dv (.int 1)) _ u10 _ _ ⟨vm, vo, vv, v1⟩ dc2 (by omega) hp10 FF
end
end Ld
/-! Nk: is_change, network_after. -/
namespace Ld
open PySem L2 PyProof.Rows
def Chg.w : Chg → Str
  | .node _ => "node"
  | .drop _ => "drop"
  | .cut _ => "cut"
  | .len _ _ => "length"
  | .edge _ _ _ _ => "edge"
def Chg.ps : Chg → List PyData
  | .node d => [d]
  | .drop d => [d]
  | .cut d => [d]
  | .len d l => [d, l]
  | .edge a b c l => [a, b, c, l]
theorem Chg.d_eq (c : Chg) : c.d = .tuple (.str c.w :: c.ps) := by cases c <;> rfl
theorem Chg.form (c : Chg) : (c.w, He.Dv.int ((c.ps.length : Nat) + 1)) ∈ formsL := match c with
  | .node _ => List.Mem.head _
  | .drop _ => .tail _ (.head _)
  | .cut _ => .tail _ (.tail _ (.tail _ (.head _)))
  | .len _ _ => .tail _ (.tail _ (.tail _ (.tail _ (.head _))))
  | .edge _ _ _ _ => .tail _ (.tail _ (.head _))
def spIC : Sp := fun vs H Q _ => ∃ (R : Hp) (v : V) (c : Chg), vs = [v] ∧ Same R H ∧ At R v c.d ∧ ∀ H', Fx [] R H R H' → Q (.bl true) H'
section
variable {P : Program} {w : World} {K : PySem.W.Frag} {mg : Str → Option Value} {base : Heap}
theorem ok_is_change (T : Tx w K mg) : FnOk P w K mg base CX0 1 (a_is_change K) (f_is_change K) P_is_change spIC := by
  refine T.d_is_change.ok sc_is_change (fun vs H Q E h => by obtain ⟨_, _, _, rfl, _⟩ := h; rfl) (fun cdv A outer s H vs Q E hr h => ?_)
  have hu := hu_of hr
  have nd := sc_is_change.nd
  obtain ⟨es, n, D⟩ := T.forms
  refine ⟨_, PSs.nox (pss_cons (ps_if (PW.pt (pw_or (pt_not (pt_val (pe_callB call_isi (by rfl) T.f_isinstance boot_isinstance (pa_cons (pv 0) (pa_cons (pe_bltn (v := .ty "tuple") (by rfl) T.f_tuple boot_tuple rfl) pa_nil))))) (pw_or (pt_cmpR op_eq (pe_callB call_len_seq (by rfl) T.f_len boot_len (pa_cons (pv 0) pa_nil)) pe_int (nomark _)) (pw_or1 (pt_not (pt_val (pe_callB call_isi (by rfl) T.f_isinstance boot_isinstance (pa_cons (pe_ix ix_tup (pv 0) pe_int (fun _ _ => rfl)) (pa_cons (pe_bltn (v := .ty "str") (by rfl) T.f_str boot_str rfl) pa_nil)))))))))
      (pss_one (ps_ret pe_bl))
      pss_nil)
    (pss_one (ps_ret (pe_cmpR op_eq (pe_kget D (by rfl) T.g_FORMS (pe_ix ix_tup (pv 0) pe_int (fun _ _ => rfl)) ⟨rfl, rfl, rfl, rfl⟩) (pe_callB call_len_seq (by rfl) T.f_len boot_len (pa_cons (pv 0) pa_nil)) (nomark _))))), ?_⟩
  obtain ⟨R, v, c, rfl, k, hd, q⟩ := h
  rw [c.d_eq] at hd
  obtain ⟨a, vs, rfl, e1, e2, _⟩ := hd.isT K k
  have hl := e2.length
  obtain ⟨v0, h0, hv0⟩ := e2.get' (i := 0) rfl
  cases hv0
  obtain ⟨u0, hn, hr0⟩ := forms_at T c.form
  refine ⟨_, rfl, .ref a, _, _, _, _, rfl, .ty _, hd.tyx k, kT K _, ?_⟩
  refine ⟨_, rfl, iteF ?_⟩
  refine ⟨_, rfl, a, vs, rfl, .inr (SqT.of (k _ _ e1)), rfl, _, rfl, ?_⟩
  rw [dec_int]
  refine iteB (fun h => ?_) (fun h => absurd (eq_of_beq h) (by rw [hl]; simp only [List.length_cons]; omega))
  refine ⟨_, rfl, a, _, _, _, rfl, rfl, SqT.of (k _ _ e1), at_of2 (j := 0) rfl h0, _, _, _, _, _, rfl, .ty _, (At.str c.w : At R _ _).tyx k, kS K _, ?_⟩
  refine ⟨_, rfl, iteF ?_⟩
  refine ⟨_, rfl, a, _, _, _, rfl, rfl, SqT.of (k _ _ e1), at_of2 (j := 0) rfl h0, c.w, u0, _, rfl, hn, hr0, _, rfl, a, vs, rfl, .inr (SqT.of (k _ _ e1)), rfl, ?_⟩
  have e : V.int (((c.ps.length : Nat) : Int) + 1) = V.int ((vs.length : Nat) : Int) := by
    rw [hl, List.length_cons]
    rfl
  rw [decide_eq_true e]
  exact q H (Fx.refl k)
end
end Ld
/-! Ku: a, *b = a tuple. -/
namespace Ld
open PySem L2 PyProof.Rows
section
variable {prog : Program} {w : World} {A : Around} {E : Value → Shared → Prop} {s : Shared}
theorem starT {l : Addr} {items : Array Value} {Q : List Value → Shared → Prop} (hl : IsTup s.heap l items) (hh : A.handled = none) (h1 : 1 ≤ items.size) (hz : items.size ≤ 16384)
    (h : ∀ h' tk, Heap.ExtBut s.heap.objs.size s.heap h' → Q (items.toList.take 1 ++ [.ref h'.objs.size] ++ []) { s with heap := h'.push { cls := .type "list", data := .seq (items.toList.drop 1).toArray }, toks := tk }) : wpAny (model prog w) A (unpackItems (.ref l) 2 (some 1)) Q E s := by
  have hlt : l ≠ s.heap.objs.size := by obtain ⟨o, ho, _⟩ := hl; exact Nat.ne_of_lt (Heap.lt_size ho)
  unfold unpackItems
  refine wpAny_bind ?_
  unfold notIterableAtAll
  refine wpAny_bind (wpAny_specialOf hl.typeIs slot_tuple_iter.lookup ?_)
  refine wpAny_pure ?_
  simp only [Bool.false_eq_true, if_false]
  refine wpAny_bind (wpAny_holding (iter_tuple hl ?_))
  refine wpAny_bind (wpAny_holding (draw_tuple hlt 1 0 _ _ ⟨_, Heap.get?_push_size _ rfl, rfl, rfl⟩ (hl.push _) (by omega) fun h₁ hit₁ hs₁ => ?_))
  have hl₁ : IsTup h₁ l items := (hl.push _).extBut hs₁.extBut hlt
  rw [Nat.zero_add] at hit₁
  have hit₁' := hit₁
  obtain ⟨oi, hoi, _⟩ := hit₁'
  have hl₁' := hl₁
  obtain ⟨ol, hol, _⟩ := hl₁'
  rw [List.drop_zero]
  have hfl : (items.toList.take 1).length = 1 := by rw [List.length_take, Array.length_toList]; omega
  rw [if_neg (show ¬ ((items.toList.take 1).length < 1) by rw [hfl]; omega)]
  refine wpAny_bind (wpAny_holding (PySem.W.kun_collect (s := { s with heap := h₁ }) (T := "tuple_iterator") (.inr (.inr (.inr rfl))) (Walks.tuple (A := A.in1) hh s.heap.objs.size l hlt items) (fun j u st => st.1.typeIs) (k := 1) (by omega) ⟨hit₁, hl₁⟩ (Heap.lt_size hoi) (Heap.lt_size hol) (fun h₂ tk hk => ?_) (by rw [sizeLine_eq]; omega)))
  have hrl : (items.toList.drop 1).length = items.size - 1 := by rw [List.length_drop, Array.length_toList]
  show wpAny _ _ (if (items.toList.drop 1).length < 0 then _ else _) _ _ _
  rw [if_neg (by omega)]
  show wpAny _ _ (newList ((items.toList.drop 1).take ((items.toList.drop 1).length - 0)) >>= fun d => pure (items.toList.take 1 ++ [d] ++ (items.toList.drop 1).drop ((items.toList.drop 1).length - 0))) _ _ _
  rw [Nat.sub_zero, List.take_of_length_le (Nat.le_refl _), List.drop_of_length_le (Nat.le_refl _)]
  have he : Heap.ExtBut s.heap.objs.size s.heap h₂ := fun b o hb e => hk b o hb (hs₁.extBut b o hb (Heap.get?_push_of_some _ e))
  exact wpAny_bind (wpAny_newList (wpAny_pure (h h₂ tk he)) (by rw [hrl, sizeLine_eq]; omega))
end
/-- (a, *b) = a tuple -/
def gStar1 (K : PySem.W.Frag) (t1 t2 : TG) : TG := fun v σ H Q => ∃ (a : Addr) (x : V) (xs : List V), v = .ref a ∧ SqT K H a (x :: xs) ∧ xs.length ≤ 16000 ∧ ∀ p, H p = none → t1 x σ (upd H p (.lst xs)) fun σ1 H1 => t2 (.ref p) σ1 H1 Q
theorem pg_star1 {X : Cx} {e1 e2 : Expr} {k : Nat} {t1 t2 : TG} {p pos : Pos} (hc : X.calm = true) (h1 : PG X e1 t1) (h2 : PG X e2 t2) (hs : assignEach [e1, .Starred e2 p] X.env = [(false, assign e1 X.env), (true, assign e2 X.env)] := by rfl) : PG X (.Tuple [e1, .Starred e2 p] k pos) (gStar1 X.K t1 t2) := by
  refine ⟨fun pins s σ H v u Q I r hw => ?_⟩
  obtain ⟨a, x, xs, ev, hq, hl, hw⟩ := hw
  subst ev
  cases r
  obtain ⟨its, rv, ht, hz⟩ := I.tuple hq
  cases rv with
  | cons ru rus =>
    rename_i u us
    have hul := rus.length
    rw [PyProof.Rows.assign_Tuple]
    refine wpAny_bind (wpAny_standAt ?_)
    unfold unpack
    rw [hs]
    refine wpAny_bind (wpAny_holding (starT ht (I.ok.hd hc) (by simp) (by simp; omega) fun h' tk hx => ?_))
    have I1 : Inv X pins σ H { s with heap := h', toks := tk } := I.kept (t' := tk) fun b o e => hx b o (Nat.ne_of_lt (Heap.lt_size e)) e
    have I2 : Inv X pins σ (upd H h'.objs.size (.lst xs)) { s with heap := h'.push { cls := .type "list", data := .seq us.toArray }, toks := tk } :=
      I1.laid (t' := tk) (fun b o e => Heap.get?_push_of_some _ e) (Nat.le_refl _) (show ObjOk X.prog X.w _ _ _ (.lst xs) from ⟨by rw [sizeLine_eq]; omega, us, 0, rus, Heap.get?_push_size _ rfl⟩)
    have hn : H h'.objs.size = none := I1.hok.fresh (Nat.le_refl _)
    refine assignInOrder_cons (thn (h1.run pins _ σ _ _ _ _ I2 ru (hw _ hn)) fun _ s1 ⟨σ1, H1, I3, q1⟩ => ?_)
    refine assignInOrder_cons (thn (h2.run pins s1 σ1 H1 (.ref h'.objs.size) _ _ I3 rfl q1) fun _ s2 q => ?_)
    exact assignInOrder_nil q
end Ld
/-! Nl: network_after. -/
namespace Ld
open PySem L2 PyProof.Rows
def strOf : PyData → Str
  | .str z => z
  | _ => ""
def intOf : PyData → Int
  | .int i => i
  | _ => 0
/-- the program's answer to a change: an error, or the nodes and edges of the network that is made -/
def after (N : Net) : Chg → Err ⊕ (List PyData × List PyData)
  | .node d => .inr (N.ns.map PyData.str ++ [d], N.es.map Edg.d)
  | .drop d => if inS d N.ns = true then .inr ((leftN d N.ns).map PyData.str, (leftE (leftN d N.ns) N.es).map Edg.d) else .inl (.noNode d)
  | .cut d => if inS d (N.es.map Edg.n) = true then .inr (N.ns.map PyData.str, (cutE d N.es).map Edg.d) else .inl (.noEdge d)
  | .edge a b c l => .inr (N.ns.map PyData.str, N.es.map Edg.d ++ [.tuple [a, b, c, l]])
  | .len d l => if inS d (N.es.map Edg.n) = true then (if isLen l = true then .inr (N.ns.map PyData.str, (N.es.map (Edg.len (strOf d) (intOf l))).map Edg.d) else .inl (.length l)) else .inl (.noEdge d)
def AfterOk (K : PySem.W.Frag) (R H : Hp) (Q : VK) (E : XK) : Err ⊕ (List PyData × List PyData) → Prop
  | .inl e => ER K [] R H E e
  | .inr (a, b) => Made K R H Q E a b
theorem AfterOk.then {K : PySem.W.Frag} {R H R1 H1 : Hp} {Q : VK} {E : XK} : ∀ {r : Err ⊕ (List PyData × List PyData)}, AfterOk K R H Q E r → Fx [] R H R1 H1 → AfterOk K R1 H1 Q E r
  | .inl _, h, f => ER.then h f (by simp)
  | .inr _, h, f => Made.then h f
theorem isEdge_relen {i : Int} {z : Str} {ns : List Str} {e : Edg} (hl : isLen (.int i) = true) (h : isEdge e.d ns = true) : isEdge (e.len z i).d ns = true := by
  unfold Edg.len
  split
  · have h1 := isEdge_iff.mp h
    have h2 : (decide (-1000000 ≤ i) && decide (i ≤ 1000000)) = true := hl
    rw [Bool.and_eq_true, decide_eq_true_iff, decide_eq_true_iff] at h2
    exact isEdge_iff.mpr ⟨h1.1, h1.2.1, h1.2.2.1, h1.2.2.2.1, h1.2.2.2.2.1, h1.2.2.2.2.2.1, h2.1, h2.2⟩
  · exact h
def spNA (K : PySem.W.Frag) : Sp := fun vs H Q E => ∃ (R : Hp) (a v : V) (c : Chg) (N : Net), vs = [a, v] ∧ Same R H ∧ NetAt K R a N ∧ At R v c.d ∧ okSs c.ps = true ∧ NetLe N 59 ∧ AfterOk K R H Q E (after N c)
section
variable {P : Program} {w : World} {K : PySem.W.Frag} {mg : Str → Option Value} {base : Heap}
theorem ok_network_after (PF : PP P) (Z : Tz w K mg) : FnOk P w K mg base (L2N.CX P w) 10 (a_network_after K) (f_network_after K) P_network_after (spNA K) := by
  have T := Z.t
  refine T.d_network_after.ok sc_network_after (fun vs H Q E h => by obtain ⟨_, _, _, _, _, rfl, _⟩ := h; rfl) (fun cdv A outer s H vs Q E hr h => ?_)
  have hu := hu_of hr
  have nd := sc_network_after.nd
  refine ⟨_, (pss_cons (ps_asg (pv 1) (pg_star1 rfl (pg_name (i := 2) nd rfl (Or.inl rfl)) (pg_name (i := 3) nd rfl (Or.inl rfl))))
    (pss_cons (ps_if (pt_cmpR op_eq (pv 2) pe_str (nomark _))
      (pss_one (ps_ret (pe_methR (pv 0) T.clN T.m_N_with_nodes (ok_N_with_nodes PF Z) (hr.mono (by decide)) (L2N.passes_call (W := fun cls d _ H => E cls d H) (L2N.takes_of rfl rfl rfl rfl) (fun _ _ _ _ h => h)) (pa_cons (pe_ix ix_list (pv 3) pe_int (fun _ _ => rfl)) pa_nil))))
      pss_nil)
    (pss_cons (ps_if (pt_cmpR op_eq (pv 2) pe_str (nomark _))
      (pss_one (ps_ret (pe_methR (pv 0) T.clN T.m_N_without_nodes (ok_N_without_nodes PF Z) (hr.mono (by decide)) (L2N.passes_call (W := fun cls d _ H => E cls d H) (L2N.takes_of rfl rfl rfl rfl) (fun _ _ _ _ h => h)) (pa_cons (pe_ix ix_list (pv 3) pe_int (fun _ _ => rfl)) pa_nil))))
      pss_nil)
    (pss_cons (ps_if (pt_cmpR op_eq (pv 2) pe_str (nomark _))
      (pss_one (ps_ret (pe_methR (pv 0) T.clN T.m_N_with_edges (ok_N_with_edges PF Z) (hr.mono (by decide)) (L2N.passes_call (W := fun cls d _ H => E cls d H) (L2N.takes_of rfl rfl rfl rfl) (fun _ _ _ _ h => h)) (pa_cons (pe_callTy call_tuple_of (by rfl) T.f_tuple boot_tuple (pa_cons (pv 3) pa_nil)) pa_nil))))
      pss_nil)
    (pss_cons (ps_if (pt_cmpR op_eq (pv 2) pe_str (nomark _))
      (pss_one (ps_ret (pe_methR (pv 0) T.clN T.m_N_without_edges (ok_N_without_edges PF Z) (hr.mono (by decide)) (L2N.passes_call (W := fun cls d _ H => E cls d H) (L2N.takes_of rfl rfl rfl rfl) (fun _ _ _ _ h => h)) (pa_cons (pe_ix ix_list (pv 3) pe_int (fun _ _ => rfl)) pa_nil))))
      pss_nil)
    (pss_cons (ps_expr (pe_meth (pv 0) T.clN T.m_N_need_edge (ok_N_need_edge PF Z) (hr.mono (by decide)) T.b_N_need_edge .nil (L2N.passes_call (W := fun cls d _ H => E cls d H) (L2N.takes_of rfl rfl rfl rfl) (fun _ _ _ _ h => h)) (pa_cons (pe_ix ix_list (pv 3) pe_int (fun _ _ => rfl)) pa_nil)))
    (pss_one (ps_ret (pe_make T.mkN (ok_N_init PF Z) (hr.mono (by decide)) (by rfl) T.g_Network (bN_init T) .nil (L2N.passes_call (W := fun cls d _ H => E cls d H) (L2N.takes_of rfl rfl rfl rfl) (fun _ _ _ _ h => h)) (pa_cons (pe_prop (pv 0) T.clN T.p_N_nodes (ok_N_nodes T) (hr.mono (by decide)) T.b_N_nodes .nil pass0 rfl) (pa_cons (pe_meth (pv 0) T.clN T.m_N_edges_with (ok_N_edges_with PF Z) (hr.mono (by decide)) T.b_N_edges_with .nil (L2N.passes_call (W := fun cls d _ H => E cls d H) (L2N.takes_of rfl rfl rfl rfl) (fun _ _ _ _ h => h)) (pa_cons (pe_disp (pps_cons (pe_ix ix_list (pv 3) pe_int (fun _ _ => rfl)) (pe_ix ix_list (pv 3) pe_int (fun _ _ => rfl)) pps_nil) (by rfl) (by rfl) (fun z => by cases z) (by decide)) pa_nil)) pa_nil))))))))))), ?_⟩
  obtain ⟨R, av, v, c, N, rfl, k, hN, hc, oc, hle, q⟩ := h
  rw [c.d_eq] at hc
  obtain ⟨a, vs, rfl, e1, e2, sq0⟩ := hc.isT K k
  clear sq0
  obtain _ | ⟨v0, ws⟩ := vs
  · cases e2
  cases e2 with
  | cons x y =>
    cases x
    have hwl := y.length
    have hcl : c.ps.length ≤ 4 := by cases c <;> simp [Chg.ps]
    refine ⟨_, rfl, a, .str c.w, ws, rfl, SqT.of (k _ _ e1), by omega, fun p hp => ?_⟩
    obtain ⟨R1, f1, e3, m1⟩ := Fx.at1 (o := .lst ws) k hp
    have y1 := y.up m1
    have q1 := q.then f1
    have hN1 := hN.up m1
    show tSeq _ _ _ _ (upd H p (.lst ws))
    generalize upd H p (.lst ws) = H1 at f1 q1 ⊢
    have hp1 := f1.rh _ _ e3
    obtain ⟨na, dx, p', q', b, vs2, g, rfl, h1, h2, h3, h4, h5, h6⟩ := hN1.ob
    have hna := f1.rh _ _ h1
    cases c with
    | node d =>
      obtain ⟨w0, hw0, a0⟩ := y1.get' (i := 0) rfl
      refine ⟨_, rfl, rfl, _, rfl, ?_⟩
      refine iteB (fun h => absurd h (by show ¬ decide (V.str "node" = V.str "node") = false; decide)) (fun _ => ?_)
      refine ⟨_, rfl, na, dx, _, rfl, hna, rfl, _, rfl, p, _, _, w0, rfl, rfl, SqL.of hp1, at_of2 (j := 0) rfl hw0, [.ref na], [w0], rfl, rfl, by show 1 ≤ _; decide, fun t ht => ?_⟩
      obtain ⟨R2, f2, e4, m2⟩ := Fx.at1 (o := .tup [w0]) f1.rh ht
      exact ⟨R2, .ref na, w0, t, d, N, rfl, f2.rh, hN1.up m2, e4, a0.up m2, okSs_get oc (i := 0) rfl, hle, q1.then f2⟩
    | drop d =>
      obtain ⟨w0, hw0, a0⟩ := y1.get' (i := 0) rfl
      refine ⟨_, rfl, rfl, _, rfl, ?_⟩
      refine iteB (fun _ => ?_) (fun h => absurd h (by show ¬ decide (V.str "drop" = V.str "node") = true; decide))
      refine ⟨_, rfl, rfl, _, rfl, ?_⟩
      refine iteB (fun h => absurd h (by show ¬ decide (V.str "drop" = V.str "drop") = false; decide)) (fun _ => ?_)
      refine ⟨_, rfl, na, dx, _, rfl, hna, rfl, _, rfl, p, _, _, w0, rfl, rfl, SqL.of hp1, at_of2 (j := 0) rfl hw0, [.ref na], [w0], rfl, rfl, by show 1 ≤ _; decide, fun t ht => ?_⟩
      obtain ⟨R2, f2, e4, m2⟩ := Fx.at1 (o := .tup [w0]) f1.rh ht
      have q2 : AfterOk K R2 _ _ E (if inS d N.ns = true then .inr ((leftN d N.ns).map PyData.str, (leftE (leftN d N.ns) N.es).map Edg.d) else .inl (.noNode d)) := q1.then f2
      refine ⟨R2, .ref na, w0, t, d, N, rfl, f2.rh, hN1.up m2, e4, a0.up m2, okSs_get oc (i := 0) rfl, ⟨hle.nl, Nat.le_succ_of_le hle.el, hle.nm, hle.ed⟩, fun hin => ?_, fun hin => ?_⟩
      · rw [hin] at q2
        exact q2
      · rw [hin] at q2
        exact q2
    | cut d =>
      obtain ⟨w0, hw0, a0⟩ := y1.get' (i := 0) rfl
      refine ⟨_, rfl, rfl, _, rfl, ?_⟩
      refine iteB (fun _ => ?_) (fun h => absurd h (by show ¬ decide (V.str "cut" = V.str "node") = true; decide))
      refine ⟨_, rfl, rfl, _, rfl, ?_⟩
      refine iteB (fun _ => ?_) (fun h => absurd h (by show ¬ decide (V.str "cut" = V.str "drop") = true; decide))
      refine ⟨_, rfl, rfl, _, rfl, ?_⟩
      refine iteB (fun _ => ?_) (fun h => absurd h (by show ¬ decide (V.str "cut" = V.str "edge") = true; decide))
      refine ⟨_, rfl, rfl, _, rfl, ?_⟩
      refine iteB (fun h => absurd h (by show ¬ decide (V.str "cut" = V.str "cut") = false; decide)) (fun _ => ?_)
      refine ⟨_, rfl, na, dx, _, rfl, hna, rfl, _, rfl, p, _, _, w0, rfl, rfl, SqL.of hp1, at_of2 (j := 0) rfl hw0, [.ref na], [w0], rfl, rfl, by show 1 ≤ _; decide, fun t ht => ?_⟩
      obtain ⟨R2, f2, e4, m2⟩ := Fx.at1 (o := .tup [w0]) f1.rh ht
      have q2 : AfterOk K R2 _ _ E (if inS d (N.es.map Edg.n) = true then .inr (N.ns.map PyData.str, (cutE d N.es).map Edg.d) else .inl (.noEdge d)) := q1.then f2
      refine ⟨R2, .ref na, w0, t, d, N, rfl, f2.rh, hN1.up m2, e4, a0.up m2, okSs_get oc (i := 0) rfl, ⟨hle.nl, Nat.le_succ_of_le hle.el, hle.nm, hle.ed⟩, fun hin => ?_, fun hin => ?_⟩
      · rw [hin] at q2
        exact q2
      · rw [hin] at q2
        exact q2
    | edge a b c l =>
      refine ⟨_, rfl, rfl, _, rfl, ?_⟩
      refine iteB (fun _ => ?_) (fun h => absurd h (by show ¬ decide (V.str "edge" = V.str "node") = true; decide))
      refine ⟨_, rfl, rfl, _, rfl, ?_⟩
      refine iteB (fun _ => ?_) (fun h => absurd h (by show ¬ decide (V.str "edge" = V.str "drop") = true; decide))
      refine ⟨_, rfl, rfl, _, rfl, ?_⟩
      refine iteB (fun h => absurd h (by show ¬ decide (V.str "edge" = V.str "edge") = false; decide)) (fun _ => ?_)
      refine ⟨_, rfl, na, dx, _, rfl, hna, rfl, _, rfl, p, ws, rfl, .inl ⟨SqL.of hp1, fun b2 hb2 => ?_⟩⟩
      obtain ⟨R2, f2, t2, m2⟩ := nw_tup f1.rh y1 hb2
      refine ⟨[.ref na], [.ref b2], rfl, rfl, by show 1 ≤ _; decide, fun t ht => ?_⟩
      obtain ⟨R3, f3, e4, m3⟩ := Fx.at1 (o := .tup [.ref b2]) f2.rh ht
      exact ⟨R3, .ref na, .ref b2, t, _, N, rfl, f3.rh, (hN1.up m2).up m3, e4, t2.up m3, oc, hle, (q1.then f2).then f3⟩
    | len d l =>
      refine ⟨_, rfl, rfl, _, rfl, ?_⟩
      refine iteB (fun _ => ?_) (fun h => absurd h (by show ¬ decide (V.str "length" = V.str "node") = true; decide))
      refine ⟨_, rfl, rfl, _, rfl, ?_⟩
      refine iteB (fun _ => ?_) (fun h => absurd h (by show ¬ decide (V.str "length" = V.str "drop") = true; decide))
      refine ⟨_, rfl, rfl, _, rfl, ?_⟩
      refine iteB (fun _ => ?_) (fun h => absurd h (by show ¬ decide (V.str "length" = V.str "edge") = true; decide))
      refine ⟨_, rfl, rfl, _, rfl, ?_⟩
      refine iteB (fun _ => ?_) (fun h => absurd h (by show ¬ decide (V.str "length" = V.str "cut") = true; decide))
      obtain ⟨w0, hw0, a0⟩ := y1.get' (i := 0) rfl
      obtain ⟨w1, hw1, a1⟩ := y1.get' (i := 1) rfl
      have q2 : AfterOk K R1 H1 _ E (if inS d (N.es.map Edg.n) = true then (if isLen l = true then .inr (N.ns.map PyData.str, (N.es.map (Edg.len (strOf d) (intOf l))).map Edg.d) else .inl (.length l)) else .inl (.noEdge d)) := q1
      refine ⟨_, rfl, na, dx, _, rfl, hna, rfl, _, rfl, p, _, _, w0, rfl, rfl, SqL.of hp1, at_of2 (j := 0) rfl hw0, R1, .ref na, w0, d, N, rfl, f1.rh, hN1, a0, okSs_get oc (i := 0) rfl, fun hin => ?_, fun hin H2 f2 => ?_⟩
      · rw [hin] at q2
        exact q2
      rw [if_pos hin] at q2
      obtain ⟨z, rfl⟩ := inS_str hin
      cases a0
      have q3 := q2.then f2
      refine ⟨_, rfl, na, dx, _, rfl, f2.rh _ _ h1, R1, .ref na, N, rfl, f2.rh, hN1, by have := hle.el; omega, fun R3 H3 v3 f3 t3 => ?_⟩
      refine ⟨_, rfl, na, dx, _, rfl, f3.rh _ _ (f3.rr _ _ h1), rfl, fun dp hdp => ?_⟩
      have f4 := f3.newH (o := .dK []) hdp
      have hp4 : upd H3 dp (.dK []) p = some (.lst ws) := f4.rh _ _ (f4.rr _ _ e3)
      have rdp : R3 dp = none := same_none f3.rh hdp
      refine ⟨_, rfl, p, _, _, _, rfl, rfl, SqL.of hp4, at_of2 (j := 0) rfl hw0, _, rfl, p, _, _, w1, rfl, rfl, SqL.of hp4, at_of2 (j := 1) rfl hw1, upd_same, [((Sum.inr z : Key), w1)], rfl, by show 1 ≤ 15; decide, ?_⟩
      have f5 : Fx [] R1 H2 R3 (upd (upd H3 dp (.dK [])) dp (.dK (mergeK [] [((Sum.inr z : Key), w1)]))) := f4.put rdp (.inr (f3.gone hdp))
      have e5 : upd (upd H3 dp (.dK [])) dp (.dK (mergeK [] [((Sum.inr z : Key), w1)])) dp = some (.dK [((Sum.inr z : Key), w1)]) := upd_same
      have fv : ∀ {R' H' : Hp}, Fx [dp] R3 (upd (upd H3 dp (.dK [])) dp (.dK (mergeK [] [((Sum.inr z : Key), w1)]))) R' H' → Fx [] R1 H2 R' H' := fun f => ((f5.s0 (M := [dp])).trans f).drop (f3.gone hdp)
      refine ⟨R3, .ref na, w1, dp, z, l, N, rfl, f5.rh, hN1.up f3.rr, e5, rdp, a1.up f3.rr, okSs_get oc (i := 1) rfl, of_decide_eq_true (okSs_get oc (i := 0) rfl), inS_mem.mp hin, ⟨hle.nl, Nat.le_succ_of_le hle.el, hle.nm, hle.ed⟩, fun hl => ?_, fun i hi hl R6 H6 v6 f6 t6 => ?_⟩
      · rw [hl] at q3
        exact ER.via q3 fun R' H' f => fv f
      · subst hi
        rw [if_pos hl] at q3
        have q4 : Made K R1 H2 _ E (N.ns.map PyData.str) ((N.es.map (Edg.len z i)).map Edg.d) := q3
        refine (q4.then (fv f6)).mk f6.rh (.inr (t3.up f6.rr)) (okSs_strs hle.nm) ?_ (.inl t6) ?_ ?_
        · have := hle.nl
          rw [List.length_map]; omega
        · refine okSs_edgs (ns := N.ns) fun e he => ?_
          obtain ⟨e0, he0, rfl⟩ := List.mem_map.mp he
          exact isEdge_relen hl (hle.ed e0 he0)
        · have := hle.el
          rw [List.length_map, List.length_map]; omega
end
end Ld
/-! Nm: state_of. -/
namespace Ld
open PySem L2 PyProof.Rows
inductive Deed where
  | chg (n : V)
  | undo (k : Nat)
  | redo (k : Nat)
/-- held, past, future -/
structure Stt where
  h : V
  p : List V
  f : List V
def Stt.un (S : Stt) : Option Stt := match S.p.getLast? with
  | some x => some ⟨x, S.p.dropLast, S.f ++ [S.h]⟩
  | none => none
def Stt.re (S : Stt) : Option Stt := match S.f.getLast? with
  | some x => some ⟨x, S.p ++ [S.h], S.f.dropLast⟩
  | none => none
def times (g : Stt → Option Stt) : Nat → Stt → Option Stt
  | 0, S => some S
  | k + 1, S => (times g k S).bind g
def Stt.step (S : Stt) : Deed → Option Stt
  | .chg n => some ⟨n, S.p ++ [S.h], []⟩
  | .undo k => times Stt.un k S
  | .redo k => times Stt.re k S
def runD : Stt → List Deed → Option Stt
  | S, [] => some S
  | S, d :: r => (S.step d).bind fun S' => runD S' r
theorem times_le {g : Stt → Option Stt} : ∀ {k j : Nat} {S T : Stt}, times g k S = some T → j ≤ k → ∃ U, times g j S = some U
  | 0, j, S, T, h, hj => by
    obtain rfl : j = 0 := by omega
    exact ⟨S, rfl⟩
  | k + 1, j, S, T, h, hj => by
    by_cases e : j = k + 1
    · subst e; exact ⟨T, h⟩
    · have h : (times g k S).bind g = some T := h
      cases h2 : times g k S with
      | none => rw [h2] at h; cases h
      | some U => exact times_le h2 (by omega)
theorem un_len {S T : Stt} (h : S.un = some T) : T.p.length + T.f.length = S.p.length + S.f.length := by
  unfold Stt.un at h
  split at h
  · rename_i x hx
    cases h
    have : S.p ≠ [] := fun z => by rw [z] at hx; cases hx
    have := List.length_pos_iff.mpr this
    simp only [List.length_dropLast, List.length_append, List.length_cons, List.length_nil]
    omega
  · cases h
theorem re_len {S T : Stt} (h : S.re = some T) : T.p.length + T.f.length = S.p.length + S.f.length := by
  unfold Stt.re at h
  split at h
  · rename_i x hx
    cases h
    have : S.f ≠ [] := fun z => by rw [z] at hx; cases hx
    have := List.length_pos_iff.mpr this
    simp only [List.length_dropLast, List.length_append, List.length_cons, List.length_nil]
    omega
  · cases h
theorem times_len {g : Stt → Option Stt} (hg : ∀ S T, g S = some T → T.p.length + T.f.length = S.p.length + S.f.length) : ∀ {k : Nat} {S T : Stt}, times g k S = some T → T.p.length + T.f.length = S.p.length + S.f.length
  | 0, S, T, h => by cases h; rfl
  | k + 1, S, T, h => by
    have h : (times g k S).bind g = some T := h
    cases h2 : times g k S with
    | none => rw [h2] at h; cases h
    | some U =>
      rw [h2] at h
      rw [hg _ _ h, times_len hg h2]
theorem step_len {S T : Stt} {d : Deed} (h : S.step d = some T) : T.p.length + T.f.length ≤ S.p.length + S.f.length + 1 := by
  cases d with
  | chg n => cases h; simp
  | undo k => rw [times_len (fun _ _ => un_len) h]; omega
  | redo k => rw [times_len (fun _ _ => re_len) h]; omega
/-- the lists of state_of as they stand -/
structure SoI (R H : Hp) (pa fa ma : Addr) (S : Stt) (H' : Hp) : Prop where
  f : Fx [] R H R H'
  p : H' pa = some (.lst S.p)
  rp : R pa = none
  np : H pa = none
  fu : H' fa = some (.lst S.f)
  rf : R fa = none
  nf : H fa = none
  m : H' ma = some (.lst [])
  nm : H ma = none
  pf : pa ≠ fa
  pm : pa ≠ ma
  fm : fa ≠ ma
theorem SoI.putP {R H : Hp} {pa fa ma : Addr} {S : Stt} {H' : Hp} (s : SoI R H pa fa ma S H') (h : V) (l : List V) : SoI R H pa fa ma ⟨h, l, S.f⟩ (upd H' pa (.lst l)) :=
  ⟨s.f.put s.rp (.inr s.np), upd_same, s.rp, s.np, by rw [upd_ne s.pf.symm]; exact s.fu, s.rf, s.nf, by rw [upd_ne s.pm.symm]; exact s.m, s.nm, s.pf, s.pm, s.fm⟩
theorem SoI.putF {R H : Hp} {pa fa ma : Addr} {S : Stt} {H' : Hp} (s : SoI R H pa fa ma S H') (h : V) (l : List V) : SoI R H pa fa ma ⟨h, S.p, l⟩ (upd H' fa (.lst l)) :=
  ⟨s.f.put s.rf (.inr s.nf), by rw [upd_ne s.pf]; exact s.p, s.rp, s.np, upd_same, s.rf, s.nf, by rw [upd_ne s.fm.symm]; exact s.m, s.nm, s.pf, s.pm, s.fm⟩
def DeedAt (R : Hp) (v : V) : Deed → Prop
  | .chg n => ∃ (t c : Addr) (r : List V), v = .ref t ∧ R t = some (.tup [.str "change", .ref c]) ∧ R c = some (.tup (n :: r))
  | .undo k => ∃ (t : Addr), v = .ref t ∧ R t = some (.tup [.str "undo", .int k]) ∧ k ≤ 1000
  | .redo k => ∃ (t : Addr), v = .ref t ∧ R t = some (.tup [.str "redo", .int k]) ∧ k ≤ 1000
inductive DeedsAt (R : Hp) : List V → List Deed → Prop
  | nil : DeedsAt R [] []
  | cons {v : V} {vs : List V} {d : Deed} {ds : List Deed} : DeedAt R v d → DeedsAt R vs ds → DeedsAt R (v :: vs) (d :: ds)
theorem DeedsAt.length {R : Hp} : ∀ {vs : List V} {ds : List Deed}, DeedsAt R vs ds → vs.length = ds.length
  | [], [], _ => rfl
  | _ :: _, _ :: _, h => by
    cases h with
    | cons x y => simp [DeedsAt.length y]
theorem DeedsAt.get {R : Hp} : ∀ {vs : List V} {ds : List Deed} {i : Nat} {v : V}, DeedsAt R vs ds → vs[i]? = some v → ∃ d, ds[i]? = some d ∧ DeedAt R v d
  | [], [], _, _, _, e => by simp at e
  | _ :: _, _ :: _, 0, _, h, e => by
    cases h with
    | cons x y => exact ⟨_, rfl, by simp at e; rw [← e]; exact x⟩
  | _ :: _, _ :: _, i + 1, _, h, e => by
    cases h with
    | cons x y =>
      obtain ⟨d, e1, e2⟩ := DeedsAt.get (i := i) y (by simpa using e)
      exact ⟨d, by simpa using e1, e2⟩
def spSO : Sp := fun vs H Q _ => ∃ (R : Hp) (n : V) (l : Addr) (xs : List V) (ds : List Deed) (S : Stt), vs = [n, .ref l] ∧ Same R H ∧ H l = some (.lst xs) ∧ DeedsAt R xs ds ∧ ds.length ≤ 1000 ∧ runD ⟨n, [], []⟩ ds = some S ∧
  ∀ (R' H' : Hp) (t p f m : Addr), Fx [] R H R' H' → R' t = some (.tup [S.h, .ref p, .ref f, .ref m]) → R' p = some (.lst S.p) → R' f = some (.lst S.f) → R' m = some (.lst []) → Q (.ref t) H'
section
variable {P : Program} {w : World} {K : PySem.W.Frag} {mg : Str → Option Value} {base : Heap}
theorem ok_state_of (T : Tx w K mg) : FnOk P w K mg base CX0 1 (a_state_of K) (f_state_of K) P_state_of spSO := by
  refine T.d_state_of.ok sc_state_of (fun vs H Q E h => by obtain ⟨_, _, _, _, _, _, rfl, _⟩ := h; rfl) (fun cdv A outer s H vs Q E hr h => ?_)
  have hu := hu_of hr
  have hu2 := hr.units
  have nd := sc_state_of.nd
  refine ⟨_, PSs.nox (pss_cons (ps_set (i := 2) nd rfl (Or.inl rfl) (pv 0))
    (pss_cons (ps_set (i := 3) nd rfl (Or.inl rfl) (pe_lst pa_nil))
    (pss_cons (ps_set (i := 4) nd rfl (Or.inl rfl) (pe_lst pa_nil))
    (pss_cons (ps_set (i := 5) nd rfl (Or.inl rfl) (pe_lst pa_nil))
    (pss_cons (ps_for PassesOwn.never rfl (pi_list (pv 1)) (pg_tup rfl (pgs_cons (pg_name (i := 6) nd rfl (Or.inl rfl)) (pgs_cons (pg_name (i := 7) nd rfl (Or.inl rfl)) pgs_nil)))
      (pss_one (ps_if (pt_cmpR op_eq (pv 6) pe_str (nomark _))
        (pss_one (ps_expr (pe_bm PySem.F.plainAttrs_list PySem.F.slot_list_append PySem.F.type_list_append mt_append (pv 5) (pa_cons (pv 2) pa_nil))))
        (pss_one (ps_if (pt_cmpR op_eq (pv 6) pe_str (nomark _))
          (pss_one (ps_for PassesOwn.never rfl (pi_range1 (by rfl) T.f_range (pa_cons (pv 7) pa_nil)) (pg_name (i := 8) nd rfl (Or.inl rfl))
            (pss_cons (ps_expr (pe_bm PySem.F.plainAttrs_list PySem.F.slot_list_append PySem.F.type_list_append mt_append (pv 4) (pa_cons (pv 2) pa_nil)))
            (pss_one (ps_set (i := 2) nd rfl (Or.inl rfl) (pe_bm0 PySem.F.plainAttrs_list PySem.F.slot_list_pop PySem.F.type_list_pop mt_pop (pv 3)))))))
          (pss_one (ps_if (pt_cmpR op_eq (pv 6) pe_str (nomark _))
            (pss_one (ps_for PassesOwn.never rfl (pi_range1 (by rfl) T.f_range (pa_cons (pv 7) pa_nil)) (pg_name (i := 8) nd rfl (Or.inl rfl))
              (pss_cons (ps_expr (pe_bm PySem.F.plainAttrs_list PySem.F.slot_list_append PySem.F.type_list_append mt_append (pv 3) (pa_cons (pv 2) pa_nil)))
              (pss_one (ps_set (i := 2) nd rfl (Or.inl rfl) (pe_bm0 PySem.F.plainAttrs_list PySem.F.slot_list_pop PySem.F.type_list_pop mt_pop (pv 4)))))))
            (pss_one (ps_if (pt_cmpR op_eq (pv 6) pe_str (nomark _))
              (pss_cons (ps_if (pt_cmpR op_eq (pe_callB call_len_seq (by rfl) T.f_len boot_len (pa_cons (pv 5) pa_nil)) pe_int (nomark _))
                (pss_cons (ps_expr (pe_bm PySem.F.plainAttrs_list PySem.F.slot_list_append PySem.F.type_list_append mt_append (pv 3) (pa_cons (pv 2) pa_nil)))
                (pss_one (ps_set (i := 4) nd rfl (Or.inl rfl) (pe_lst pa_nil))))
                pss_nil)
              (pss_one (ps_set (i := 2) nd rfl (Or.inl rfl) (pe_ix ix_tup (pv 7) pe_int (fun _ _ => rfl)))))
              (pss_cons (ps_set (i := 9) nd rfl (Or.inl rfl) (pe_bm0 PySem.F.plainAttrs_list PySem.F.slot_list_pop PySem.F.type_list_pop mt_pop (pv 5)))
              (pss_one (ps_if (pt_cmpR (op_neD hu2) (pv 7) (pe_lst (pa_cons pe_bl pa_nil)) (nomark _))
                (pss_one (ps_set (i := 2) nd rfl (Or.inl rfl) (pv 9)))
                (pss_one (ps_if (pt_cmpR op_eq (pe_callB call_len_seq (by rfl) T.f_len boot_len (pa_cons (pv 5) pa_nil)) pe_int (nomark _))
                  (pss_cons (ps_expr (pe_bm PySem.F.plainAttrs_list PySem.F.slot_list_append PySem.F.type_list_append mt_append (pv 3) (pa_cons (pv 9) pa_nil)))
                  (pss_one (ps_set (i := 4) nd rfl (Or.inl rfl) (pe_lst pa_nil))))
                  pss_nil))))))))))))))
    (pss_one (ps_ret (pe_tup (pa_cons (pv 2) (pa_cons (pv 3) (pa_cons (pv 4) (pa_cons (pv 5) pa_nil)))))))))))), ?_⟩
  obtain ⟨R, n, l, xs, ds, S, rfl, k, hl, hds, hlen, hrun, q⟩ := h
  have hsz := sizeLine_eq
  have hxl := hds.length
  refine ⟨_, rfl, Nat.zero_le _, fun pa hpa => ?_⟩
  have f1 := (Fx.refl (M := []) k).newH (o := .lst []) hpa
  have e1 : upd H pa (.lst []) pa = some (.lst []) := upd_same
  show tSeq _ _ _ _ (upd H pa (.lst []))
  generalize upd H pa (.lst []) = H1 at f1 e1 ⊢
  refine ⟨Nat.zero_le _, fun fa hfa => ?_⟩
  have f2 := f1.newH (o := .lst []) hfa
  have pf : pa ≠ fa := ne_of_none e1 hfa
  have e2 : upd H1 fa (.lst []) pa = some (.lst []) := by rw [upd_ne pf]; exact e1
  have e3 : upd H1 fa (.lst []) fa = some (.lst []) := upd_same
  have nfa := f1.gone hfa
  show tSeq _ _ _ _ (upd H1 fa (.lst []))
  generalize upd H1 fa (.lst []) = H2 at f2 e2 e3 ⊢
  refine ⟨Nat.zero_le _, fun ma hma => ?_⟩
  have f3 := f2.newH (o := .lst []) hma
  have pm : pa ≠ ma := ne_of_none e2 hma
  have fm : fa ≠ ma := ne_of_none e3 hma
  have e4 : upd H2 ma (.lst []) pa = some (.lst []) := by rw [upd_ne pm]; exact e2
  have e5 : upd H2 ma (.lst []) fa = some (.lst []) := by rw [upd_ne fm]; exact e3
  have e6 : upd H2 ma (.lst []) ma = some (.lst []) := upd_same
  have nma := f2.gone hma
  show tSeq _ _ _ _ (upd H2 ma (.lst []))
  generalize upd H2 ma (.lst []) = H3 at f3 e4 e5 e6 ⊢
  have s0 : SoI R H pa fa ma ⟨n, [], []⟩ H3 := ⟨f3, e4, same_none k hpa, hpa, e5, same_none k nfa, nfa, e6, nma, pf, pm, fm⟩
  refine ⟨_, rfl, l, rfl, ⟨_, SqL.of (f3.kp _ _ hl (by simp))⟩, for_list (K := K) (a := l) (xs := xs) (fun i σ H' => ∃ (Si : Stt) (fa : Addr) (x6 x7 x8 x9 : Option V), σ = [some n, some (.ref l), some Si.h, some (.ref pa), some (.ref fa), some (.ref ma), x6, x7, x8, x9] ∧ SoI R H pa fa ma Si H' ∧ runD Si (ds.drop i) = some S ∧ Si.p.length + Si.f.length ≤ i) ⟨⟨n, [], []⟩, fa, none, none, none, none, rfl, s0, hrun, by simp⟩ (fun i σ H' _ ⟨_, _, _, _, _, _, _, s, _⟩ => SqL.of (s.f.kp _ _ hl (by simp))) ?_ ?_⟩
  · rintro i x σ H' hx ⟨Si, fa, x6, x7, x8, x9, rfl, s, hr', hle⟩
    obtain ⟨d, d1, d2⟩ := hds.get hx
    have hi' : i < ds.length := (List.getElem?_eq_some_iff.mp d1).1
    have hdi : ds[i] = d := by rw [List.getElem?_eq_getElem hi'] at d1; exact Option.some.inj d1
    rw [List.drop_eq_getElem_cons hi', hdi] at hr'
    have hr' : (Si.step d).bind (fun S' => runD S' (ds.drop (i + 1))) = some S := hr'
    cases hst : Si.step d with
    | none => rw [hst] at hr'; cases hr'
    | some S' =>
      rw [hst] at hr'
      have hr2 : runD S' (ds.drop (i + 1)) = some S := hr'
      have hle' := step_len hst
      cases d with
      | chg v =>
        obtain ⟨t, c, r, rfl, t1, t2⟩ := d2
        cases hst
        have ht := s.f.rh _ _ t1
        have hc := s.f.rh _ _ t2
        refine ⟨t, _, rfl, SqT.of ht, rfl, _, _, rfl, _, _, rfl, rfl, ?_⟩
        refine ⟨_, rfl, rfl, _, rfl, ?_⟩
        refine iteB (fun _ => ?_) (fun h => absurd h (by decide))
        refine ⟨_, rfl, rfl, _, rfl, ?_⟩
        refine iteB (fun _ => ?_) (fun h => absurd h (by decide))
        refine ⟨_, rfl, rfl, _, rfl, ?_⟩
        refine iteB (fun _ => ?_) (fun h => absurd h (by decide))
        refine ⟨_, rfl, rfl, _, rfl, ?_⟩
        refine iteB (fun h => absurd h (by decide)) (fun _ => ?_)
        refine ⟨_, rfl, ma, [], rfl, .inl (SqL.of s.m), rfl, _, rfl, iteT ?_⟩
        refine ⟨_, rfl, .inl ⟨rfl, _, SqL.of s.p⟩, _, rfl, pa, _, _, rfl, rfl, s.p, by omega, ?_⟩
        have s1 := s.putP Si.h (Si.p ++ [Si.h])
        show tSeq _ _ _ _ (upd H' pa (.lst (Si.p ++ [Si.h])))
        generalize upd H' pa (.lst (Si.p ++ [Si.h])) = H4 at s1 ⊢
        refine ⟨Nat.zero_le _, fun fb hfb => ?_⟩
        have s2 : SoI R H pa fb ma ⟨v, Si.p ++ [Si.h], []⟩ (upd H4 fb (.lst [])) :=
          ⟨s1.f.newH hfb, by rw [upd_ne (ne_of_none s1.p hfb)]; exact s1.p, s1.rp, s1.np, upd_same, same_none s1.f.rh hfb, s1.f.gone hfb, by rw [upd_ne (ne_of_none s1.m hfb)]; exact s1.m, s1.nm, ne_of_none s1.p hfb, s1.pm, (ne_of_none s1.m hfb).symm⟩
        refine ⟨_, rfl, c, _, _, v, rfl, rfl, SqT.of (s2.f.rh _ _ t2), at_of2 (j := 0) rfl rfl, ?_⟩
        exact ⟨⟨v, Si.p ++ [Si.h], []⟩, fb, _, _, _, _, rfl, s2, hr2, by omega⟩
      | undo k =>
        obtain ⟨t, rfl, t1, hk⟩ := d2
        have ht := s.f.rh _ _ t1
        refine ⟨t, _, rfl, SqT.of ht, rfl, _, _, rfl, _, _, rfl, rfl, ?_⟩
        refine ⟨_, rfl, rfl, _, rfl, ?_⟩
        refine iteB (fun _ => ?_) (fun h => absurd h (by decide))
        refine ⟨_, rfl, rfl, _, rfl, ?_⟩
        refine iteB (fun h => absurd h (by decide)) (fun _ => ?_)
        have hst : times Stt.un k Si = some S' := hst
        refine ⟨_, rfl, _, rfl, by omega, by omega, for_range (n := k) (fun j σ H' => ∃ (U : Stt) (x8 : Option V), σ = [some n, some (.ref l), some U.h, some (.ref pa), some (.ref fa), some (.ref ma), some (.str "undo"), some (.int k), x8, x9] ∧ SoI R H pa fa ma U H' ∧ times Stt.un j Si = some U) ⟨Si, _, rfl, s, rfl⟩ ?_ ?_⟩
        · rintro j σ H' hj ⟨U, x8, rfl, s, hu⟩
          obtain ⟨U', hu'⟩ := times_le hst hj
          have hu2 : (times Stt.un j Si).bind Stt.un = some U' := hu'
          rw [hu] at hu2
          have hu3 : U.un = some U' := hu2
          have hul := times_len (fun _ _ => un_len) hu
          unfold Stt.un at hu3
          split at hu3
          · rename_i z hz
            cases hu3
            rw [List.getLast?_eq_getElem?] at hz
            refine ⟨_, rfl, .inl ⟨rfl, _, SqL.of s.fu⟩, _, rfl, fa, _, _, rfl, rfl, s.fu, by omega, ?_⟩
            have s1 := s.putF U.h (U.f ++ [U.h])
            refine ⟨_, rfl, .inl ⟨rfl, _, SqL.of s1.p⟩, pa, _, z, rfl, rfl, s1.p, hz, ?_⟩
            exact ⟨⟨z, U.p.dropLast, U.f ++ [U.h]⟩, _, rfl, s1.putP z U.p.dropLast, hu'⟩
          · cases hu3
        · rintro σ H' ⟨U, x8, rfl, s, hu⟩
          rw [hst] at hu
          cases hu
          exact ⟨S', fa, _, _, _, _, rfl, s, hr2, by omega⟩
      | redo k =>
        obtain ⟨t, rfl, t1, hk⟩ := d2
        have ht := s.f.rh _ _ t1
        refine ⟨t, _, rfl, SqT.of ht, rfl, _, _, rfl, _, _, rfl, rfl, ?_⟩
        refine ⟨_, rfl, rfl, _, rfl, ?_⟩
        refine iteB (fun _ => ?_) (fun h => absurd h (by decide))
        refine ⟨_, rfl, rfl, _, rfl, ?_⟩
        refine iteB (fun _ => ?_) (fun h => absurd h (by decide))
        refine ⟨_, rfl, rfl, _, rfl, ?_⟩
        refine iteB (fun h => absurd h (by decide)) (fun _ => ?_)
        have hst : times Stt.re k Si = some S' := hst
        refine ⟨_, rfl, _, rfl, by omega, by omega, for_range (n := k) (fun j σ H' => ∃ (U : Stt) (x8 : Option V), σ = [some n, some (.ref l), some U.h, some (.ref pa), some (.ref fa), some (.ref ma), some (.str "redo"), some (.int k), x8, x9] ∧ SoI R H pa fa ma U H' ∧ times Stt.re j Si = some U) ⟨Si, _, rfl, s, rfl⟩ ?_ ?_⟩
        · rintro j σ H' hj ⟨U, x8, rfl, s, hu⟩
          obtain ⟨U', hu'⟩ := times_le hst hj
          have hu2 : (times Stt.re j Si).bind Stt.re = some U' := hu'
          rw [hu] at hu2
          have hu3 : U.re = some U' := hu2
          have hul := times_len (fun _ _ => re_len) hu
          unfold Stt.re at hu3
          split at hu3
          · rename_i z hz
            cases hu3
            rw [List.getLast?_eq_getElem?] at hz
            refine ⟨_, rfl, .inl ⟨rfl, _, SqL.of s.p⟩, _, rfl, pa, _, _, rfl, rfl, s.p, by omega, ?_⟩
            have s1 := s.putP U.h (U.p ++ [U.h])
            refine ⟨_, rfl, .inl ⟨rfl, _, SqL.of s1.fu⟩, fa, _, z, rfl, rfl, s1.fu, hz, ?_⟩
            exact ⟨⟨z, U.p ++ [U.h], U.f.dropLast⟩, _, rfl, s1.putF z U.f.dropLast, hu'⟩
          · cases hu3
        · rintro σ H' ⟨U, x8, rfl, s, hu⟩
          rw [hst] at hu
          cases hu
          exact ⟨S', fa, _, _, _, _, rfl, s, hr2, by omega⟩
  · rintro σ H' ⟨Si, fa, x6, x7, x8, x9, rfl, s, hr', hle⟩
    rw [hxl, List.drop_of_length_le (Nat.le_refl _)] at hr'
    cases hr'
    refine ⟨_, rfl, _, rfl, _, rfl, _, rfl, by show 4 ≤ sizeLine; omega, fun t ht => ?_⟩
    have tp : pa ≠ t := ne_of_none s.p ht
    have tf : fa ≠ t := ne_of_none s.fu ht
    have tm : ma ≠ t := ne_of_none s.m ht
    have g := (((s.f.freeze s.p s.np).freeze s.fu s.nf).freeze s.m s.nm).newR (o := .tup [S.h, .ref pa, .ref fa, .ref ma]) ht
    refine q _ _ t pa fa ma g upd_same ?_ ?_ ?_
    · rw [upd_ne tp, upd_ne s.pm, upd_ne s.pf, upd_same]
    · rw [upd_ne tf, upd_ne s.fm, upd_same]
    · rw [upd_ne tm, upd_same]
end
end Ld
/-! Nn: a book, what is read of it. -/
namespace Ld
open PySem L2 PyProof.Rows
/-- a book stands at b: its first network and the list of its deeds (at l, that changes) -/
structure BookAt (K : PySem.W.Frag) (R H : Hp) (b l : Addr) (S : Stt) (m : Nat) : Prop where
  rl : R l = none
  ob : ∃ (dx : Addr) (n : V) (xs : List V) (ds : List Deed), R b = some (.ins (CB K) dx [("first", n), ("deeds", .ref l)]) ∧ H l = some (.lst xs) ∧ DeedsAt R xs ds ∧ ds.length ≤ m ∧ runD ⟨n, [], []⟩ ds = some S
def spBS (K : PySem.W.Frag) : Sp := fun vs H Q _ => ∃ (R : Hp) (b l : Addr) (S : Stt), vs = [.ref b] ∧ Same R H ∧ BookAt K R H b l S 1000 ∧
  ∀ (R' H' : Hp) (t p f m : Addr), Fx [] R H R' H' → R' t = some (.tup [S.h, .ref p, .ref f, .ref m]) → R' p = some (.lst S.p) → R' f = some (.lst S.f) → R' m = some (.lst []) → Q (.ref t) H'
def spBG (K : PySem.W.Frag) (g : Stt → V) : Sp := fun vs H Q _ => ∃ (R : Hp) (b l : Addr) (S : Stt), vs = [.ref b] ∧ Same R H ∧ BookAt K R H b l S 1000 ∧ ∀ (R' H' : Hp), Fx [] R H R' H' → Q (g S) H'
theorem len_spBS {K : PySem.W.Frag} {n : Str} (vs : List V) (H : Hp) (Q : VK) (E : XK) (h : spBS K vs H Q E) : vs.length = [n].length := by
  obtain ⟨_, _, _, _, rfl, _⟩ := h
  rfl
theorem len_spBG {K : PySem.W.Frag} {g : Stt → V} {n : Str} (vs : List V) (H : Hp) (Q : VK) (E : XK) (h : spBG K g vs H Q E) : vs.length = [n].length := by
  obtain ⟨_, _, _, _, rfl, _⟩ := h
  rfl
section
variable {P : Program} {w : World} {K : PySem.W.Frag} {mg : Str → Option Value} {base : Heap}
theorem ok_B_state (T : Tx w K mg) : FnOk P w K mg base CX0 2 (a_B_state K) (f_B_state K) P_B_state (spBS K) := by
  refine T.d_B_state.ok sc_B_state len_spBS (fun cdv A outer s H vs Q E hr h => ?_)
  have hu := hu_of hr
  have nd := sc_B_state.nd
  refine ⟨_, PSs.nox (pss_one (ps_ret (pe_call (ok_state_of T) (hr.mono (by decide)) (by rfl) T.g_state_of T.k_state_of T.b_state_of .nil pass0 (pa_cons (pe_fld (pv 0) rfl) (pa_cons (pe_fld (pv 0) rfl) pa_nil))))), ?_⟩
  obtain ⟨R, b, l, S, rfl, k, hb, q⟩ := h
  obtain ⟨dx, n, xs, ds, h1, h2, h3, h4, h5⟩ := hb.ob
  exact ⟨_, rfl, b, CB K, dx, _, n, rfl, k _ _ h1, T.clB, T.n_first, rfl, _, rfl, b, CB K, dx, _, .ref l, rfl, k _ _ h1, T.clB, T.n_deeds, rfl, R, n, l, xs, ds, S, rfl, k, h2, h3, h4, h5, q⟩
theorem ok_B_network (T : Tx w K mg) : FnOk P w K mg base CX0 3 (a_B_network K) (f_B_network K) P_B_network (spBG K Stt.h) := by
  refine T.d_B_network.ok sc_B_network len_spBG (fun cdv A outer s H vs Q E hr h => ?_)
  have hu := hu_of hr
  have nd := sc_B_network.nd
  refine ⟨_, PSs.nox (pss_one (ps_ret (pe_ix ix_tup (pe_meth0 (pv 0) T.clB T.m_B_state (ok_B_state T) (hr.mono (by decide)) T.b_B_state .nil pass0) pe_int (fun _ _ => rfl)))), ?_⟩
  obtain ⟨R, b, l, S, rfl, k, hb, q⟩ := h
  obtain ⟨dx, n, xs, ds, h1, h2, h3, h4, h5⟩ := hb.ob
  refine ⟨_, rfl, b, dx, _, rfl, k _ _ h1, rfl, R, b, l, S, rfl, k, hb, fun R' H' t p f m f1 ht hp hf hm => ?_⟩
  exact ⟨t, _, _, _, rfl, rfl, SqT.of (f1.rh _ _ ht), at_of2 (j := 0) rfl rfl, q R' H' f1⟩
theorem ok_B_undoable (T : Tx w K mg) : FnOk P w K mg base CX0 3 (a_B_undoable K) (f_B_undoable K) P_B_undoable (spBG K fun S => .int S.p.length) := by
  refine T.d_B_undoable.ok sc_B_undoable len_spBG (fun cdv A outer s H vs Q E hr h => ?_)
  have hu := hu_of hr
  have nd := sc_B_undoable.nd
  refine ⟨_, PSs.nox (pss_one (ps_ret (pe_callB call_len_seq (by rfl) T.f_len boot_len (pa_cons (pe_ix ix_tup (pe_meth0 (pv 0) T.clB T.m_B_state (ok_B_state T) (hr.mono (by decide)) T.b_B_state .nil pass0) pe_int (fun _ _ => rfl)) pa_nil)))), ?_⟩
  obtain ⟨R, b, l, S, rfl, k, hb, q⟩ := h
  obtain ⟨dx, n, xs, ds, h1, h2, h3, h4, h5⟩ := hb.ob
  refine ⟨_, rfl, b, dx, _, rfl, k _ _ h1, rfl, R, b, l, S, rfl, k, hb, fun R' H' t p f m f1 ht hp hf hm => ?_⟩
  exact ⟨t, _, _, _, rfl, rfl, SqT.of (f1.rh _ _ ht), at_of2 (j := 1) rfl rfl, p, _, rfl, .inl (SqL.of (f1.rh _ _ hp)), q R' H' f1⟩
theorem ok_B_redoable (T : Tx w K mg) : FnOk P w K mg base CX0 3 (a_B_redoable K) (f_B_redoable K) P_B_redoable (spBG K fun S => .int S.f.length) := by
  refine T.d_B_redoable.ok sc_B_redoable len_spBG (fun cdv A outer s H vs Q E hr h => ?_)
  have hu := hu_of hr
  have nd := sc_B_redoable.nd
  refine ⟨_, PSs.nox (pss_one (ps_ret (pe_callB call_len_seq (by rfl) T.f_len boot_len (pa_cons (pe_ix ix_tup (pe_meth0 (pv 0) T.clB T.m_B_state (ok_B_state T) (hr.mono (by decide)) T.b_B_state .nil pass0) pe_int (fun _ _ => rfl)) pa_nil)))), ?_⟩
  obtain ⟨R, b, l, S, rfl, k, hb, q⟩ := h
  obtain ⟨dx, n, xs, ds, h1, h2, h3, h4, h5⟩ := hb.ob
  refine ⟨_, rfl, b, dx, _, rfl, k _ _ h1, rfl, R, b, l, S, rfl, k, hb, fun R' H' t p f m f1 ht hp hf hm => ?_⟩
  exact ⟨t, _, _, _, rfl, rfl, SqT.of (f1.rh _ _ ht), at_of2 (j := 2) rfl rfl, f, _, rfl, .inl (SqL.of (f1.rh _ _ hf)), q R' H' f1⟩
theorem ok_B_depth (T : Tx w K mg) : FnOk P w K mg base CX0 3 (a_B_depth K) (f_B_depth K) P_B_depth (spBG K fun _ => .int 0) := by
  refine T.d_B_depth.ok sc_B_depth len_spBG (fun cdv A outer s H vs Q E hr h => ?_)
  have hu := hu_of hr
  have nd := sc_B_depth.nd
  refine ⟨_, PSs.nox (pss_one (ps_ret (pe_callB call_len_seq (by rfl) T.f_len boot_len (pa_cons (pe_ix ix_tup (pe_meth0 (pv 0) T.clB T.m_B_state (ok_B_state T) (hr.mono (by decide)) T.b_B_state .nil pass0) pe_int (fun _ _ => rfl)) pa_nil)))), ?_⟩
  obtain ⟨R, b, l, S, rfl, k, hb, q⟩ := h
  obtain ⟨dx, n, xs, ds, h1, h2, h3, h4, h5⟩ := hb.ob
  refine ⟨_, rfl, b, dx, _, rfl, k _ _ h1, rfl, R, b, l, S, rfl, k, hb, fun R' H' t p f m f1 ht hp hf hm => ?_⟩
  exact ⟨t, _, _, _, rfl, rfl, SqT.of (f1.rh _ _ ht), at_of2 (j := 3) rfl rfl, m, _, rfl, .inl (SqL.of (f1.rh _ _ hm)), q R' H' f1⟩
end
end Ld
/-! No: Book.__init__. -/
namespace Ld
open PySem L2 PyProof.Rows
def spBI (K : PySem.W.Frag) : Sp := fun vs H Q E => ∃ (R : Hp) (x dx : Addr) (v ev : V) (nds eds : List PyData), vs = [.ref x, v, ev] ∧ Same R H ∧ H x = some (.ins (CB K) dx []) ∧ R x = none ∧ AtS R v nds ∧ okSs nds = true ∧ nds.length ≤ 60 ∧ AtS R ev eds ∧ okSs eds = true ∧ eds.length ≤ 60 ∧ due nds eds = none ∧
  (∀ (N : Net) (R' H' : Hp) (n : V) (l : Addr), NormOf N (namL nds) (edgs eds) → Fx [x] R H R' H' → R' x = none → H' x = some (.ins (CB K) dx [("first", n), ("deeds", .ref l)]) → H' l = some (.lst []) → R' l = none → H l = none → NetAt K R' n N → Q .non H')
theorem spNI_mono {K : PySem.W.Frag} {vs : List V} {H : Hp} {Q Q' : VK} {E : XK} (h : spNI K vs H Q E) (m : ∀ v H, Q v H → Q' v H) : spNI K vs H Q' E := by
  obtain ⟨R, x, dx, v, ev, nds, eds, e, k, hx, rx, hv, on, ln, he, oe, le, qe, q⟩ := h
  exact ⟨R, x, dx, v, ev, nds, eds, e, k, hx, rx, hv, on, ln, he, oe, le, qe, fun N R' H' a b c d e => m _ _ (q N R' H' a b c d e)⟩
section
variable {P : Program} {w : World} {K : PySem.W.Frag} {mg : Str → Option Value} {base : Heap}
theorem ok_B_init (PF : PP P) (Z : Tz w K mg) : FnOk P w K mg base (L2N.CX P w) 8 (a_B_init K) (f_B_init K) P_B_init (spBI K) := by
  have T := Z.t
  refine T.d_B_init.ok sc_B_init (fun vs H Q E h => by obtain ⟨_, _, _, _, _, _, _, rfl, _⟩ := h; rfl) (fun cdv A outer s H vs Q E hr h => ?_)
  have hu := hu_of hr
  have nd := sc_B_init.nd
  refine ⟨_, (pss_cons (ps_fld (pv 0) (pe_make T.mkN (ok_N_init PF Z) (hr.mono (by decide)) (by rfl) T.g_Network (bN_init T) .nil (L2N.passes_call (W := fun cls d _ H => E cls d H) (L2N.takes_of rfl rfl rfl rfl) (fun _ _ _ _ h => h)) (pa_cons (pv 1) (pa_cons (pv 2) pa_nil))) rfl)
    (pss_one (ps_fld (pv 0) (pe_lst pa_nil) rfl))), ?_⟩
  obtain ⟨R, x, dx, v, ev, nds, eds, rfl, k, hx, rx, hv, on, ln, he, oe, le, hd, q⟩ := h
  refine ⟨_, rfl, _, rfl, fun y dy hy hdy hne => spNI_mono (mk_net (Q := fun v' H' => ∃ (N : Net) (R1 : Hp), NormOf N (namL nds) (edgs eds) ∧ Fx [] R H R1 H' ∧ NetAt K R1 v' N) k hv on ln he oe le (fun e h => by rw [hd] at h; cases h) (fun N R' H' v' _ a b c => ⟨N, R', a, b, c⟩) y dy hy hdy hne) fun v2 H1 ⟨e, N, R1, hN, f1, aN⟩ => ⟨e, ?_⟩⟩
  have hx1 := f1.kp _ _ hx (by simp)
  have rx1 := f1.nr rx hx
  refine ⟨_, rfl, x, CB K, dx, [], rfl, hx1, T.clB, T.n_first, by decide, ?_⟩
  have f2 : Fx [x] R H R1 (upd H1 x (.ins (CB K) dx (putF "first" (.ref y) []))) := (f1.s0).put rx1 (.inl (by simp))
  have hx2 : upd H1 x (.ins (CB K) dx (putF "first" (.ref y) [])) x = some (.ins (CB K) dx [("first", .ref y)]) := upd_same
  have rx2 : R1 x = none := rx1
  refine ⟨Nat.zero_le _, fun l hl => ?_⟩
  have f3 := f2.newH (o := .lst []) hl
  have hxl : x ≠ l := ne_of_none hx2 hl
  have hx3 : upd (upd H1 x (.ins (CB K) dx (putF "first" (.ref y) []))) l (.lst []) x = some (.ins (CB K) dx [("first", .ref y)]) := by rw [upd_ne hxl]; exact hx2
  refine ⟨_, rfl, x, CB K, dx, _, rfl, hx3, T.clB, T.n_deeds, by show 1 < 1000; decide, ?_⟩
  have f4 := f3.put (o := .ins (CB K) dx (putF "deeds" (.ref l) [("first", .ref y)])) rx2 (.inl (by simp))
  exact q N R1 _ (.ref y) l hN f4 rx2 upd_same (by rw [upd_ne hxl.symm, upd_same]) (same_none f2.rh hl) (f2.gone hl) aN
end
end Ld
/-! Kv: enumerate of a tuple. -/
namespace Ld
open PySem L2 PyProof.Rows
open AutoSeq1 (wpAny_loadPart')
theorem meets_enumerate_newT (l : Addr) (items : Array Value) (n : Nat) (dct : Option Addr) (sl : Array (Option Value)) :
    Meets (Builtin.«enumerate.__new__» ⟨[.type "enumerate", .ref l], []⟩) (fun _ R s => s.heap.get? l = some { cls := .type "tuple", dict := dct, data := .seq items n, slots := sl } ∧
      R (.ok (.ret (.ref (s.heap.push { cls := .type "tuple_iterator", data := .fields #[.ref l, .int 0 0] }).objs.size)))
        { s with heap := (s.heap.push { cls := .type "tuple_iterator", data := .fields #[.ref l, .int 0 0] }).push { cls := .type "enumerate", data := .fields #[.none, .bool false, .ref s.heap.objs.size, rawInt 0, .none, .none] } }) :=
  .of_wp fun prog w A R s h => by
    obtain ⟨hp, g, d, tk, os⟩ := s; obtain ⟨hl, h⟩ := h
    have hsub := sub_enumerate
    have hL : Heap.IsTuple (Shared.heap ⟨hp, g, d, tk, os⟩) l items := ⟨_, hl, rfl, n, rfl⟩
    wp_walk using wpAny_loadPart' hl
    refine wpAny_stack_any fun st => wpAny_pure ?_
    split
    · rename_i c _ _ _ _ _
      cases (c == Value.type "enumerate")
      · wp_walk using wpAny_loadPart' hl, wpAny_pyIter_tuple hL
        exact ⟨_, rfl, h⟩
      · wp_walk using wpAny_loadPart' hl, wpAny_pyIter_tuple hL
        exact ⟨_, rfl, h⟩
    · wp_walk using wpAny_loadPart' hl, wpAny_pyIter_tuple hL
      exact ⟨_, rfl, h⟩
theorem call_enumerate_tuple {prog : Program} {w : World} {A : Around} {E : Value → Shared → Prop} {s : Shared} {l : Addr} {items : Array Value} {Q : Value → Shared → Prop} (hL : s.heap.IsTuple l items)
    (h : ∀ h', IsEnum h' (s.heap.objs.size + 1) s.heap.objs.size 0 .none → h'.IsTupleIter s.heap.objs.size l 0 → h'.objs.size = s.heap.objs.size + 2 →
      (∀ b o, s.heap.get? b = some o → h'.get? b = some o) → Q (.ref (s.heap.objs.size + 1)) { s with heap := h' }) :
    wpAny (model prog w) A (call (.type "enumerate") [.ref l]) Q E s := by
  obtain ⟨⟨c, dct, dt, sl⟩, hl, hc, n, hd⟩ := hL
  replace hc : c = .type "tuple" := hc
  replace hd : dt = .seq items n := hd
  subst hc hd
  refine callType_new F.called_enumerate (by decide) (F.typeCall_enumerate_1 _) (F.newCall_enumerate_1 _) (fun obj => F.args_object_init_2 obj _) F.entry_enumerate_new
    (meets_enumerate_newT l items n dct sl) ⟨hl, ?_⟩
  have hz : (s.heap.push { cls := .type "tuple_iterator", data := .fields #[.ref l, .int 0 0] }).objs.size = s.heap.objs.size + 1 := Heap.size_push ..
  show _ ∧ _
  rw [hz]
  have he : IsEnum ((s.heap.push { cls := .type "tuple_iterator", data := .fields #[.ref l, .int 0 0] }).push
      { cls := .type "enumerate", data := .fields #[.none, .bool false, .ref s.heap.objs.size, rawInt 0, .none, .none] }) (s.heap.objs.size + 1) s.heap.objs.size 0 .none := by
    have := Heap.get?_push_size (s.heap.push { cls := .type "tuple_iterator", data := .fields #[.ref l, .int 0 0] })
      (o := { cls := .type "enumerate", data := .fields #[.none, .bool false, .ref s.heap.objs.size, rawInt 0, .none, .none] }) rfl
    rw [hz] at this; exact this
  refine ⟨⟨_, he, rfl⟩, h _ he ⟨_, Heap.get?_push_of_some _ (Heap.get?_push_size _ rfl), rfl, rfl⟩ (by rw [Heap.size_push, hz]) fun b o x => Heap.get?_push_of_some _ (Heap.get?_push_of_some _ x)⟩
end Ld
/-! Kw: enumerate of a tuple, walked. -/
namespace Ld
open PySem L2 PyProof.Rows
def IteT (K : PySem.W.Frag) (a : Addr) : It :=
  ⟨fun i H => ∃ (xs : List V) (x : V), SqT K H a xs ∧ xs[i]? = some x, fun i H v H' => ∃ T x, v = .ref T ∧ H T = none ∧ H' = upd H T (.tup [.int (i : Nat), x]) ∧ ∀ xs, SqT K H a xs → xs[i]? = some x, fun i H => ∃ xs : List V, SqT K H a xs ∧ xs.length ≤ i⟩
theorem pyNext_enumT_end {prog : Program} {w : World} {A : Around} {E : Value → Shared → Prop} {s : Shared} {e it l : Addr} {i : Nat} {items : Array Value} {old : Value} {Q : Option Value → Shared → Prop} (hh : A.handled = none)
    (he : IsEnum s.heap e it i old) (hit : s.heap.IsTupleIter it l i) (hl : s.heap.IsTuple l items) (hx : items[i]? = none)
    (hQ : ∀ h', Heap.ExtBut it s.heap h' → Q none { s with heap := h' }) : wpAny (model prog w) A (pyNext (.ref e)) Q E s := by
  have hT : s.TypeIs (.ref e) "enumerate" := ⟨_, he, rfl⟩
  unfold pyNext
  refine wpAny_bind (wpAny_attempt (wpAny_callSpecial?_slot (name := Str.ofString "__next__") hT F.slot_enumerate_next
    (wpAny_call_entry F.slot_enumerate_next hT F.entry_enumerate_next ?_ (F.args_enumerate_next_1 _))))
  show wpAny _ _ (field (.ref e) 2 >>= _) _ _ _
  refine wpAny_bind (wpAny_field he rfl (x := .ref it) rfl ?_)
  refine wpAny_bind (wpAny_nextOf_tuple_end hh hit hl hx fun h' x he' hx' => ?_)
  obtain ⟨o, ho, hc⟩ := hx'
  refine wpAny_bind (wpAny_isInstance (T := "StopIteration") (b := true) ⟨o, ho, hc⟩ isSubtype_stop ?_)
  exact wpAny_pure (hQ _ he')
theorem turn_enumT {P : Program} {w : World} {K : PySem.W.Frag} {elts : List Expr} {kk : Nat} {tpos : Pos} (a e it : Addr) :
    Turn P w K (.Tuple elts kk tpos) (IteT K a) [e, it] e (fun i h => (∃ old, IsEnum h e it ((i : Nat) : Int) old) ∧ h.IsTupleIter it a i ∧ e ≠ it ∧ a ≠ it ∧ e ≠ a) where
  mem := by simp
  obj := fun i h st b hb => by
    obtain ⟨⟨old, he⟩, ⟨o, ho, hc, hd⟩, _⟩ := st
    have e' : b = e ∨ b = it := by simpa using hb
    rcases e' with z | z
    · rw [z]; exact ⟨_, he, fun v q => nomatch q⟩
    · rw [z]; exact ⟨o, ho, fun v q => by rw [hd] at q; cases q⟩
  keep := fun i h h' st k => let ⟨⟨old, he⟩, hi, hne⟩ := st; ⟨⟨old, k e (by simp) _ he⟩, hi.at fun o q => k it (by simp) o q, hne⟩
  item := by
    intro X hP hw hK hc i pins s σ H E I hf st hg
    subst hP hw hK
    obtain ⟨⟨old, he⟩, hit, hne, hai, hea⟩ := st
    obtain ⟨xs, x, hq, hx⟩ := hg
    obtain ⟨its, rv, p, hz⟩ := I.tuple hq
    obtain ⟨u, hu, ru⟩ := rv.get hx
    have hlt : i < its.length := (List.getElem?_eq_some_iff.mp hu).1
    have hel : e < s.heap.objs.size := Heap.lt_size he
    have hil : it < s.heap.objs.size := by obtain ⟨_, q, _⟩ := hit; exact Heap.lt_size q
    refine wpAny_pyNext_enum_itemD (Draws.tuple (A := X.A.in1) (I.ok.hd hc) it a hai its.toArray) he ⟨hit, p⟩ (by simpa using hlt) hne (by simp [hne, hea]) fun x' h' tk hx' ho hst' hT hsz hk => ?_
    obtain rfl : x' = u := by
      have h1 : its[i]? = some x' := by simpa using hx'
      rw [hu] at h1
      exact (Option.some.inj h1).symm
    refine ⟨_, rfl, wpAny_letOwnedTupleGo_enum (s := { s with heap := h', toks := tk + 1 }) ho fun h'' he' sb => ?_⟩
    have hT2 : h''.get? s.heap.objs.size = some { cls := .type "tuple", data := .seq #[.int i tk, x'] } := (sb.2 _ (Nat.ne_of_gt hel)).trans hT
    have new : ObjOk X.prog X.w (upd H s.heap.objs.size (.tup [.int (i : Nat), x])) h'' s.heap.objs.size (.tup [.int (i : Nat), x]) :=
      ⟨by show 2 ≤ sizeLine; decide, [.int i tk, x'], .cons ⟨_, rfl⟩ (.cons ru .nil), ⟨_, hT2, rfl, _, rfl⟩⟩
    have I1 : Inv X pins σ (upd H s.heap.objs.size (.tup [.int (i : Nat), x])) { s with heap := h'', toks := tk + 1 } :=
      I.turnedNew (ch := [e, it]) (fun b ob hb q => (sb.2 b (fun z => hb (by simp [z]))).trans (hk b ob (fun z => hb (by simp [z])) (fun z => hb (by simp [z])) q)) hf (Nat.le_refl _) new
    refine ⟨.ref s.heap.objs.size, _, I1, rfl, ⟨_, x, rfl, I.hok.fresh (Nat.le_refl _), rfl, fun ys hy => by rw [I.tuple_inj hy hq]; exact hx⟩, ⟨⟨x', ?_⟩, hst'.1.at fun o q => (sb.2 it (Ne.symm hne)).trans q, hne, hai, hea⟩, fun b hb => ?_⟩
    · have e1 : ((i + 1 : Nat) : Int) = (i : Int) + 1 := by omega
      rw [e1]; exact he'
    · have hb' : b < s.heap.objs.size := by
        have e' : b = e ∨ b = it := by simpa using hb
        rcases e' with z | z
        · rw [z]; exact hel
        · rw [z]; exact hil
      rw [upd_ne (Nat.ne_of_lt hb')]
      exact (hf b hb).1
  done := by
    intro X hP hw hK hc i pins s σ H E I hf st hg
    subst hP hw hK
    obtain ⟨⟨old, he⟩, hit, hne, hai, hea⟩ := st
    obtain ⟨xs, hq, hx⟩ := hg
    obtain ⟨its, rv, p, hz⟩ := I.tuple hq
    obtain ⟨f0, f1, f2, f3, f4, f5⟩ := hf it (by simp)
    have hl := rv.length
    exact pyNext_enumT_end (I.ok.hd hc) he hit p (by simp; omega) fun h' eb => ⟨rfl, I.turned (t' := s.toks) (fun b o hb q => eb b o hb q) f0 f1 f3 f4 f5⟩
  self := fun A i s Q E st h => let ⟨⟨_, he⟩, _⟩ := st; wpAny_pyIter_enum he h
def iEnumT (K : PySem.W.Frag) (ta : TA) : TI := fun σ H R => ta σ H fun vs H1 => ∃ a xs, vs = [.ref a] ∧ SqT K H1 a xs ∧ R (IteT K a) H1
theorem pi_enumT {X : Cx} {e : Expr} {ta : TA} {p pos tpos : Pos} {elts : List Expr} {kk : Nat} (hg : Gl X "enumerate") (hm : X.mg "enumerate" = none) (ha : PA X [e] ta) (hs : starEach [e] X.env = [(false, eval e X.env)] := by rfl) :
    PI X (.Tuple elts kk tpos) (.Call (.Name "enumerate" p) [e] [] pos) (iEnumT X.K ta) := by
  refine ⟨fun pins s σ H R I h => ?_⟩
  refine Call_ (ld_blt I hg hm boot_enumerate (PyProof.Rows.callWith_type1 (thn (ha.run pos pins s σ H _ I h) fun us s1 ⟨vs, H1, I1, r1, q1⟩ => ?_) hs rfl))
  obtain ⟨a, xs, ex, hq, q⟩ := q1
  subst ex
  cases r1 with
  | cons r rr =>
    cases rr
    cases r
    obtain ⟨its, rv, p', hz⟩ := I1.tuple hq
    have hal : a < s1.heap.objs.size := by obtain ⟨o, ho, _⟩ := p'; exact Heap.lt_size ho
    refine call_enumerate_tuple p' fun h' he hit hsz hk => wpAny_pyIter_enum he ?_
    have I2 : Inv X pins σ H1 { s1 with heap := h' } := I1.kept (t' := s1.toks) hk
    refine ⟨s1.heap.objs.size + 1, [s1.heap.objs.size + 1, s1.heap.objs.size], _, _, H1, rfl, I2, turn_enumT a (s1.heap.objs.size + 1) s1.heap.objs.size, ⟨⟨.none, he⟩, hit, Nat.succ_ne_self _, Nat.ne_of_lt hal, Nat.ne_of_gt (Nat.lt_succ_of_lt hal)⟩, fun b hb => ?_, q⟩
    have e' : b = s1.heap.objs.size + 1 ∨ b = s1.heap.objs.size := by simpa using hb
    have hle : s1.heap.objs.size ≤ b := by
      rcases e' with z | z
      · rw [z]; exact Nat.le_add_right _ _
      · rw [z]; exact Nat.le_refl _
    exact I1.fpOk hle (I1.hok.fresh hle)
theorem walk_enumT {K : PySem.W.Frag} {a : Addr} {xs : List V} : Walk (IteT K a) xs.length (fun H => SqT K H a xs) (YPair (fun i => some (.int (i : Nat))) (fun i => xs[i]?)) := by
  refine ⟨fun i _ hi q => ⟨xs, xs[i], q, by simp [hi]⟩, fun _ q => ⟨xs, q, Nat.le_refl _⟩, fun i H v H' _ q y => ?_⟩
  obtain ⟨T, x, h1, h2, h3, h4⟩ := y
  exact ⟨T, .int (i : Nat), x, h1, h2, h3, rfl, h4 xs q⟩
end Ld
/-! Kma: a change of a plain network: the law's order and the program's order agree. -/
namespace Ld
open PySem L2 PyProof.Rows
theorem wnGo_names : ∀ (xs seen : List Str) (r : List PyData), (∀ n ∈ xs, isNameS n = true) → (seen ++ xs).Nodup → seen.length + xs.length ≤ 40 → wnGo seen (xs.map PyData.str ++ r) = wnGo (seen ++ xs) r
  | [], seen, r, _, _, _ => by simp
  | x :: xs, seen, r, hn, hd, hl => by
    show (if isNameS x && !inS (.str x) seen && !decide (seen.length = 40) then wnGo (seen ++ [x]) (xs.map PyData.str ++ r) else some (.str x)) = _
    have h1 : inS (.str x) seen = false := by
      cases h : inS (.str x) seen with
      | false => rfl
      | true =>
        have hx := inS_mem.mp h
        rw [List.nodup_append] at hd
        exact absurd rfl (hd.2.2 x hx x List.mem_cons_self)
    have h2 : ¬ seen.length = 40 := by
      simp only [List.length_cons] at hl
      omega
    rw [hn x List.mem_cons_self, h1, decide_eq_false h2]
    show wnGo (seen ++ [x]) (xs.map PyData.str ++ r) = _
    rw [wnGo_names xs (seen ++ [x]) r (fun n h => hn n (List.mem_cons_of_mem _ h)) (by rw [List.append_assoc]; exact hd) (by simp only [List.length_append, List.length_cons, List.length_nil] at hl ⊢; omega), List.append_assoc]
    rfl
theorem wnode_ne {ds : List PyData} (h : ds ≠ []) : wnode ds = wnGo [] ds := by
  cases ds with
  | nil => exact absurd rfl h
  | cons d r => rfl
/-- right names alone -/
theorem wnode_names {xs : List Str} (hn : ∀ n ∈ xs, isNameS n = true) (hd : xs.Nodup) (hl : xs.length ≤ 40) : wnode (xs.map PyData.str) = if xs = [] then some (.tuple []) else none := by
  cases xs with
  | nil => rfl
  | cons x r =>
    rw [wnode_ne (by simp), if_neg (by simp)]
    have := wnGo_names (x :: r) [] [] hn (by simpa using hd) (by simpa using hl)
    rw [List.append_nil] at this
    rw [this]
    rfl
/-- one more -/
def nodeOk (d : PyData) (xs : List Str) : Bool := isName d && !inS d xs && !decide (xs.length = 40)
theorem wnode_snoc {xs : List Str} (d : PyData) (hn : ∀ n ∈ xs, isNameS n = true) (hd : xs.Nodup) (hl : xs.length ≤ 40) : wnode (xs.map PyData.str ++ [d]) = if nodeOk d xs = true then none else some d := by
  rw [wnode_ne (by simp), wnGo_names xs [] [d] hn (by simpa using hd) (by simpa using hl), List.nil_append]
  cases h : isName d with
  | false =>
    rw [wnGo_bad h, if_neg (by unfold nodeOk; rw [h]; simp)]
  | true =>
    cases d with
    | str s =>
      have h : isNameS s = true := h
      show (if isNameS s && !inS (PyData.str s) xs && !decide (xs.length = 40) then none else some (PyData.str s)) = _
      unfold nodeOk
      show _ = if (isNameS s && !inS (PyData.str s) xs && !decide (xs.length = 40)) = true then none else some (PyData.str s)
      cases (isNameS s && !inS (PyData.str s) xs && !decide (xs.length = 40)) <;> rfl
    | _ => cases h
theorem weGo_edges {ns : List Str} : ∀ (es : List Edg) (seen : List Str) (r : List PyData), (∀ e ∈ es, isEdge e.d ns = true) → (seen ++ es.map Edg.n).Nodup → weGo ns seen (es.map Edg.d ++ r) = weGo ns (seen ++ es.map Edg.n) r
  | [], seen, r, _, _ => by simp
  | e :: es, seen, r, he, hd => by
    show (if isEdge e.d ns && !inS (.str (nameD e.d)) seen then weGo ns (seen ++ [nameD e.d]) (es.map Edg.d ++ r) else some e.d) = _
    have e0 : nameD e.d = e.n := rfl
    have h1 : inS (.str e.n) seen = false := by
      cases h : inS (.str e.n) seen with
      | false => rfl
      | true =>
        have hx := inS_mem.mp h
        rw [List.nodup_append] at hd
        exact absurd rfl (hd.2.2 e.n hx e.n List.mem_cons_self)
    rw [he e List.mem_cons_self, e0, h1]
    show weGo ns (seen ++ [e.n]) (es.map Edg.d ++ r) = _
    rw [weGo_edges es (seen ++ [e.n]) r (fun n h => he n (List.mem_cons_of_mem _ h)) (by rw [List.append_assoc]; exact hd), List.append_assoc]
    rfl
theorem weGo_all {ns : List Str} {es : List Edg} (he : ∀ e ∈ es, isEdge e.d ns = true) (hd : (es.map Edg.n).Nodup) : weGo ns [] (es.map Edg.d) = none := by
  have := weGo_edges (ns := ns) es [] [] he (by simpa using hd)
  rw [List.append_nil] at this
  rw [this]
  rfl
def edgeOk (d : PyData) (ns nms : List Str) : Bool := isEdge d ns && !inS (.str (nameD d)) nms
theorem weGo_snoc {ns : List Str} {es : List Edg} (d : PyData) (he : ∀ e ∈ es, isEdge e.d ns = true) (hd : (es.map Edg.n).Nodup) : weGo ns [] (es.map Edg.d ++ [d]) = if edgeOk d ns (es.map Edg.n) = true then none else some d := by
  rw [weGo_edges es [] [d] he (by simpa using hd), List.nil_append]
  show (if isEdge d ns && !inS (.str (nameD d)) (es.map Edg.n) then none else some d) = _
  unfold edgeOk
  cases (isEdge d ns && !inS (.str (nameD d)) (es.map Edg.n)) <;> rfl
theorem due_of {nds eds : List PyData} : due nds eds = match wnode nds with
  | some d => some (.node d)
  | none => match weGo (namL nds) [] eds with
    | some d => some (.edge d)
    | none => if fits (edgs eds) = true then none else some (.many 10) := rfl
/-- right nodes and edges: what is left to ask -/
def dueG (ns : List Str) (es : List Edg) : Option Err := if ns = [] then some (.node (.tuple [])) else if fits es = true then none else some (.many 10)
structure Fine (ns : List Str) (es : List Edg) : Prop where
  nm : ∀ n ∈ ns, isNameS n = true
  nd : ns.Nodup
  nl : ns.length ≤ 40
  ed : ∀ e ∈ es, isEdge e.d ns = true
  en : (es.map Edg.n).Nodup
theorem due_fine {ns : List Str} {es : List Edg} (f : Fine ns es) : due (ns.map PyData.str) (es.map Edg.d) = dueG ns es := by
  rw [due_of, wnode_names f.nm f.nd f.nl]
  unfold dueG
  by_cases h : ns = []
  · rw [if_pos h, if_pos h]
  · rw [if_neg h, if_neg h]
    simp only [namL_map, edgs_map, weGo_all f.ed f.en]
theorem inS_perm {ns ms : List Str} (h : ns.Perm ms) (d : PyData) : inS d ns = inS d ms := by
  unfold inS
  exact h.any_eq
theorem isEdge_norm {e : Edg} {ns : List Str} (h : isEdge e.d ns = true) : isEdge e.norm.d ns = true := by
  obtain ⟨a, b, c, d, f, g, i, j⟩ := isEdge_iff.mp h
  refine isEdge_iff.mpr ?_
  show isNameS e.n = true ∧ isNameS (minS e.u e.v) = true ∧ isNameS (maxS e.u e.v) = true ∧ minS e.u e.v ∈ ns ∧ maxS e.u e.v ∈ ns ∧ minS e.u e.v ≠ maxS e.u e.v ∧ -1000000 ≤ e.l ∧ e.l ≤ 1000000
  rcases minmax e.u e.v with ⟨h1, h2⟩ | ⟨h1, h2⟩ <;> rw [h1, h2]
  · exact ⟨a, b, c, d, f, g, i, j⟩
  · exact ⟨a, c, b, f, d, Ne.symm g, i, j⟩
theorem norm_norm (e : Edg) : e.norm.norm = e.norm := by
  unfold Edg.norm
  simp only
  rcases minmax e.u e.v with ⟨h1, h2⟩ | ⟨h1, h2⟩
  · rw [h1, h2, h1, h2]
  · rw [h1, h2]
    rcases minmax e.v e.u with ⟨h3, h4⟩ | ⟨h3, h4⟩
    · rw [h3, h4]
    · have e1 : e.u = e.v := by
        unfold minS at h1 h3
        split at h1
        · rename_i a1
          split at h3
          · rename_i a2
            exact absurd (of_decide_eq_true a1) (List.lt_asymm (of_decide_eq_true a2))
          · exact h3.symm
        · exact h1
      rw [h3, h4, e1]
theorem map_norm_norm (es : List Edg) : (es.map Edg.norm).map Edg.norm = es.map Edg.norm := by
  rw [List.map_map]
  exact List.map_congr_left fun e _ => norm_norm e
/-- the program's network is fine when the law's is -/
theorem Fine.perm {ns ms : List Str} {es fs : List Edg} (f : Fine ns es) (hn : ms.Perm ns) (he : fs.Perm (es.map Edg.norm)) : Fine ms fs := by
  refine ⟨fun n h => f.nm n (hn.mem_iff.mp h), hn.nodup_iff.mpr f.nd, by rw [hn.length_eq]; exact f.nl, fun e h => ?_, ?_⟩
  · rw [isEdge_perm hn]
    obtain ⟨e0, h0, rfl⟩ := List.mem_map.mp (he.mem_iff.mp h)
    exact isEdge_norm (f.ed e0 h0)
  · rw [(he.map Edg.n).nodup_iff, norm_n]
    exact f.en
theorem dueG_perm {ns ms : List Str} {es fs : List Edg} (hn : ms.Perm ns) (he : fs.Perm (es.map Edg.norm)) : dueG ms fs = dueG ns es := by
  unfold dueG
  rw [fits_norm he]
  by_cases h : ns = []
  · have h2 : ms = [] := by rw [h] at hn; exact List.perm_nil.mp hn
    rw [if_pos h, if_pos h2]
  · have h2 : ¬ ms = [] := fun z => h (by rw [z] at hn; exact List.nil_perm.mp hn)
    rw [if_neg h, if_neg h2]
end Ld
/-! Kmb: one change: the program's answer is the law's. -/
namespace Ld
open PySem L2 PyProof.Rows
theorem fin_rel {ns ms : List Str} {es fs : List Edg} (f : Fine ns es) (f2 : Fine ms fs) (hn : ms.Perm ns) (he : (fs.map Edg.norm).Perm (es.map Edg.norm)) :
    due (ms.map PyData.str) (fs.map Edg.d) = due (ns.map PyData.str) (es.map Edg.d) ∧ (due (ns.map PyData.str) (es.map Edg.d) = none → ns ≠ [] ∧ fits es = true) ∧ ∀ M, NormOf M (namL (ms.map PyData.str)) (edgs (fs.map Edg.d)) → NormOf M ns es := by
  have hf : fits fs = fits es := by
    rw [← fits_norm (List.Perm.refl (fs.map Edg.norm)), ← fits_norm (List.Perm.refl (es.map Edg.norm))]
    exact fits_cnt fun v => cnt_perm he
  refine ⟨?_, ?_, fun M h => ?_⟩
  · rw [due_fine f, due_fine f2]
    unfold dueG
    rw [hf]
    by_cases h : ns = []
    · have h2 : ms = [] := by rw [h] at hn; exact List.perm_nil.mp hn
      rw [if_pos h, if_pos h2]
    · have h2 : ¬ ms = [] := fun z => h (by rw [z] at hn; exact List.nil_perm.mp hn)
      rw [if_neg h, if_neg h2]
  · rw [due_fine f]
    unfold dueG
    intro h
    by_cases h1 : ns = []
    · rw [if_pos h1] at h; cases h
    · rw [if_neg h1] at h
      by_cases h2 : fits es = true
      · exact ⟨h1, h2⟩
      · rw [if_neg h2] at h; cases h
  · rw [namL_map, edgs_map] at h
    exact ⟨h.np.trans hn, h.ns_, h.ep.trans he, h.es_⟩
theorem isEdge_sub {d : PyData} {ns ms : List Str} (hs : ∀ x ∈ ns, x ∈ ms) (h : isEdge d ns = true) : isEdge d ms = true := by
  obtain ⟨e, rfl⟩ := isEdge_edg h
  obtain ⟨a, b, c, d, f, g⟩ := isEdge_iff.mp h
  exact isEdge_iff.mpr ⟨a, b, c, hs _ d, hs _ f, g⟩
theorem Fine.node {ns : List Str} {es : List Edg} (f : Fine ns es) {s : Str} (h : nodeOk (.str s) ns = true) : Fine (ns ++ [s]) es := by
  have h : (isNameS s && !inS (.str s) ns && !decide (ns.length = 40)) = true := h
  rw [Bool.and_eq_true, Bool.and_eq_true, Bool.not_eq_true', Bool.not_eq_true', decide_eq_false_iff_not] at h
  obtain ⟨⟨h1, h2⟩, h3⟩ := h
  have hs : s ∉ ns := fun z => by rw [inS_mem.mpr z] at h2; cases h2
  refine ⟨fun n hn => ?_, ?_, ?_, fun e he => isEdge_sub (fun x hx => List.mem_append_left _ hx) (f.ed e he), f.en⟩
  · rcases List.mem_append.mp hn with hn | hn
    · exact f.nm n hn
    · rw [List.mem_singleton.mp hn]; exact h1
  · rw [List.nodup_append]
    exact ⟨f.nd, List.nodup_cons.mpr ⟨by simp, List.nodup_nil⟩, fun a ha b hb e => hs (by rw [List.mem_singleton.mp hb] at e; rw [← e]; exact ha)⟩
  · have := f.nl
    rw [List.length_append]
    show _ + 1 ≤ 40
    omega
theorem Fine.edge {ns : List Str} {es : List Edg} (f : Fine ns es) {e : Edg} (h : edgeOk e.d ns (es.map Edg.n) = true) : Fine ns (es ++ [e]) := by
  have h : (isEdge e.d ns && !inS (.str e.n) (es.map Edg.n)) = true := h
  rw [Bool.and_eq_true, Bool.not_eq_true'] at h
  have hs : e.n ∉ es.map Edg.n := fun z => by have := inS_mem.mpr z; rw [this] at h; cases h.2
  refine ⟨f.nm, f.nd, f.nl, fun x hx => ?_, ?_⟩
  · rcases List.mem_append.mp hx with hx | hx
    · exact f.ed x hx
    · rw [List.mem_singleton.mp hx]; exact h.1
  · rw [List.map_append, List.nodup_append]
    exact ⟨f.en, List.nodup_cons.mpr ⟨by simp, List.nodup_nil⟩, fun a ha b hb z => hs (by rw [List.mem_singleton.mp hb] at z; rw [← z]; exact ha)⟩
theorem Fine.left {ns : List Str} {es : List Edg} (f : Fine ns es) (d : PyData) : Fine (leftN d ns) (leftE (leftN d ns) es) := by
  refine ⟨fun n hn => f.nm n (List.mem_filter.mp hn).1, f.nd.sublist List.filter_sublist, Nat.le_trans (List.length_filter_le _ _) f.nl, fun e he => ?_, f.en.sublist (List.Sublist.map _ List.filter_sublist)⟩
  obtain ⟨h1, h2⟩ := List.mem_filter.mp he
  rw [Bool.and_eq_true, decide_eq_true_iff, decide_eq_true_iff] at h2
  obtain ⟨a, b, c, _, _, g⟩ := isEdge_iff.mp (f.ed e h1)
  exact isEdge_iff.mpr ⟨a, b, c, h2.1, h2.2, g⟩
theorem Fine.cut {ns : List Str} {es : List Edg} (f : Fine ns es) (d : PyData) : Fine ns (cutE d es) :=
  ⟨f.nm, f.nd, f.nl, fun e he => f.ed e (List.mem_filter.mp he).1, f.en.sublist (List.Sublist.map _ List.filter_sublist)⟩
theorem len_n (z : Str) (i : Int) (e : Edg) : (e.len z i).n = e.n := by
  unfold Edg.len
  split <;> rfl
theorem len_names (z : Str) (i : Int) (es : List Edg) : (es.map (Edg.len z i)).map Edg.n = es.map Edg.n := by
  rw [List.map_map]
  exact List.map_congr_left fun e _ => len_n z i e
theorem Fine.len {ns : List Str} {es : List Edg} (f : Fine ns es) {z : Str} {i : Int} (h : isLen (.int i) = true) : Fine ns (es.map (Edg.len z i)) := by
  refine ⟨f.nm, f.nd, f.nl, fun e he => ?_, by rw [len_names]; exact f.en⟩
  obtain ⟨e0, h0, rfl⟩ := List.mem_map.mp he
  exact isEdge_relen h (f.ed e0 h0)
theorem len_norm (z : Str) (i : Int) (e : Edg) : (e.len z i).norm = e.norm.len z i := by
  unfold Edg.len Edg.norm
  simp only
  split <;> rfl
theorem norm_filter (p : Edg → Bool) (hp : ∀ e, p e.norm = p e) (es : List Edg) : (es.map Edg.norm).filter p = (es.filter p).map Edg.norm := by
  rw [List.filter_map]
  congr 1
  exact List.filter_congr fun e _ => hp e
theorem norms_perm {fs es : List Edg} (h : fs.Perm (es.map Edg.norm)) : (fs.map Edg.norm).Perm (es.map Edg.norm) := by
  have := h.map Edg.norm
  rw [map_norm_norm] at this
  exact this
theorem filter_rel (p q : Edg → Bool) (hp : ∀ e, p e.norm = p e) (hq : ∀ e, q e = p e) {fs es : List Edg} (h : fs.Perm (es.map Edg.norm)) : ((fs.filter q).map Edg.norm).Perm ((es.filter p).map Edg.norm) := by
  refine norms_perm ?_
  rw [← norm_filter p hp]
  have : fs.filter q = fs.filter p := List.filter_congr fun e _ => hq e
  rw [this]
  exact h.filter p
/-- the law's answer to a change -/
def oneL (L : Net) (c : Chg) : Err ⊕ Net := match after L c with
  | .inl e => .inl e
  | .inr (a, b) => match due a b with
    | some e => .inl e
    | none => .inr ⟨namL a, edgs b⟩
theorem oneL_inr {L : Net} {c : Chg} {a b : List PyData} (h : after L c = .inr (a, b)) : oneL L c = match due a b with
    | some e => .inl e
    | none => .inr ⟨namL a, edgs b⟩ := by
  unfold oneL
  rw [h]
/-- what the program's network makes of the change c agrees with what the law's network makes of it -/
def OneRel (N L : Net) (c : Chg) : Prop :=
  (∃ e, after N c = .inl e ∧ oneL L c = .inl e) ∨ (∃ a b, after N c = .inr (a, b) ∧ ((∃ e, due a b = some e ∧ oneL L c = .inl e) ∨
    (due a b = none ∧ ∃ L', oneL L c = .inr L' ∧ L'.ns ≠ [] ∧ Fine L'.ns L'.es ∧ fits L'.es = true ∧ L'.es.length ≤ L.es.length + 1 ∧ ∀ M, NormOf M (namL a) (edgs b) → NormOf M L'.ns L'.es)))
theorem one_of {N L : Net} {c : Chg} {ns ms : List Str} {es fs : List Edg} (hN : after N c = .inr (ms.map PyData.str, fs.map Edg.d)) (hL : after L c = .inr (ns.map PyData.str, es.map Edg.d)) (f : Fine ns es) (f2 : Fine ms fs) (hn : ms.Perm ns) (he : (fs.map Edg.norm).Perm (es.map Edg.norm)) (hl : es.length ≤ L.es.length + 1) : OneRel N L c := by
  obtain ⟨h1, h2, h3⟩ := fin_rel f f2 hn he
  refine .inr ⟨_, _, hN, ?_⟩
  have hq := oneL_inr hL
  cases hd : due (ns.map PyData.str) (es.map Edg.d) with
  | some e =>
    rw [hd] at h1 hq
    exact .inl ⟨e, h1, hq⟩
  | none =>
    rw [hd] at h1 hq
    obtain ⟨g1, g2⟩ := h2 hd
    rw [namL_map, edgs_map] at hq
    exact .inr ⟨h1, ⟨ns, es⟩, hq, g1, f, g2, hl, h3⟩
theorem one_bad {N L : Net} {c : Chg} {a b a' b' : List PyData} {e : Err} (hN : after N c = .inr (a, b)) (hL : after L c = .inr (a', b')) (h1 : due a b = some e) (h2 : due a' b' = some e) : OneRel N L c := by
  refine .inr ⟨a, b, hN, .inl ⟨e, h1, ?_⟩⟩
  rw [oneL_inr hL, h2]
theorem isName_str' {d : PyData} (h : isName d = true) : ∃ s, d = .str s := by
  cases d with
  | str s => exact ⟨s, rfl⟩
  | _ => cases h
theorem nodeOk_perm {ns ms : List Str} (h : ms.Perm ns) (d : PyData) : nodeOk d ms = nodeOk d ns := by
  unfold nodeOk
  rw [inS_perm h, h.length_eq]
theorem one_rel {N L : Net} (g : Fine L.ns L.es) (ne : L.ns ≠ []) (h : NormOf N L.ns L.es) (c : Chg) : OneRel N L c := by
  have gN : Fine N.ns N.es := g.perm h.np h.ep
  have hnm : (N.es.map Edg.n).Perm (L.es.map Edg.n) := by
    have := h.ep.map Edg.n
    rw [norm_n] at this
    exact this
  have neN : N.ns ≠ [] := fun z => by
    have := h.np
    rw [z] at this
    exact ne (List.nil_perm.mp this)
  cases c with
  | node d =>
    cases hk : nodeOk d L.ns with
    | true =>
      have hk2 : nodeOk d N.ns = true := by rw [nodeOk_perm h.np]; exact hk
      have : isName d = true := by
        unfold nodeOk at hk
        rw [Bool.and_eq_true, Bool.and_eq_true] at hk
        exact hk.1.1
      obtain ⟨s, rfl⟩ := isName_str' this
      refine one_of (ns := L.ns ++ [s]) (ms := N.ns ++ [s]) (es := L.es) (fs := N.es) ?_ ?_ (g.node hk) (gN.node hk2) (h.np.append_right _) (norms_perm h.ep) (Nat.le_succ _)
      · show (.inr (N.ns.map PyData.str ++ [.str s], N.es.map Edg.d) : Err ⊕ (List PyData × List PyData)) = _
        rw [List.map_append]; rfl
      · show (.inr (L.ns.map PyData.str ++ [.str s], L.es.map Edg.d) : Err ⊕ (List PyData × List PyData)) = _
        rw [List.map_append]; rfl
    | false =>
      have hk2 : nodeOk d N.ns = false := by rw [nodeOk_perm h.np]; exact hk
      refine one_bad (e := .node d) (N := N) (L := L) rfl rfl ?_ ?_
      · rw [due_of, wnode_snoc d gN.nm gN.nd gN.nl, hk2]; rfl
      · rw [due_of, wnode_snoc d g.nm g.nd g.nl, hk]; rfl
  | edge a b c l =>
    have hk0 : edgeOk (.tuple [a, b, c, l]) N.ns (N.es.map Edg.n) = edgeOk (.tuple [a, b, c, l]) L.ns (L.es.map Edg.n) := by
      unfold edgeOk
      rw [isEdge_perm h.np, inS_perm hnm]
    cases hk : edgeOk (.tuple [a, b, c, l]) L.ns (L.es.map Edg.n) with
    | true =>
      rw [hk] at hk0
      have hk1 := hk
      unfold edgeOk at hk1
      rw [Bool.and_eq_true] at hk1
      obtain ⟨e, he⟩ := isEdge_edg hk1.1
      rw [he] at hk hk0
      refine one_of (ns := L.ns) (ms := N.ns) (es := L.es ++ [e]) (fs := N.es ++ [e]) ?_ ?_ (g.edge hk) (gN.edge hk0) h.np ?_ (by rw [List.length_append]; exact Nat.le_refl _)
      · show (.inr (N.ns.map PyData.str, N.es.map Edg.d ++ [.tuple [a, b, c, l]]) : Err ⊕ (List PyData × List PyData)) = _
        rw [List.map_append, he]; rfl
      · show (.inr (L.ns.map PyData.str, L.es.map Edg.d ++ [.tuple [a, b, c, l]]) : Err ⊕ (List PyData × List PyData)) = _
        rw [List.map_append, he]; rfl
      · rw [List.map_append, List.map_append]
        exact (norms_perm h.ep).append_right _
    | false =>
      rw [hk] at hk0
      refine one_bad (e := .edge (.tuple [a, b, c, l])) (N := N) (L := L) rfl rfl ?_ ?_
      · rw [due_of, wnode_names gN.nm gN.nd gN.nl, if_neg neN]
        simp only [namL_map]
        rw [weGo_snoc _ gN.ed gN.en, hk0]; rfl
      · rw [due_of, wnode_names g.nm g.nd g.nl, if_neg ne]
        simp only [namL_map]
        rw [weGo_snoc _ g.ed g.en, hk]; rfl
  | drop d =>
    cases hi : inS d L.ns with
    | false =>
      have hi2 : inS d N.ns = false := by rw [inS_perm h.np]; exact hi
      refine .inl ⟨.noNode d, ?_, ?_⟩
      · show (if inS d N.ns = true then _ else _) = _
        rw [hi2]; rfl
      · unfold oneL
        show (match (if inS d L.ns = true then _ else _ : Err ⊕ (List PyData × List PyData)) with | .inl e => _ | .inr (a, b) => _) = _
        rw [hi]; rfl
    | true =>
      have hi2 : inS d N.ns = true := by rw [inS_perm h.np]; exact hi
      have pl : (leftN d N.ns).Perm (leftN d L.ns) := h.np.filter _
      refine one_of (ns := leftN d L.ns) (ms := leftN d N.ns) (es := leftE (leftN d L.ns) L.es) (fs := leftE (leftN d N.ns) N.es) ?_ ?_ (g.left d) (gN.left d) pl ?_ (Nat.le_succ_of_le (List.length_filter_le _ _))
      · show (if inS d N.ns = true then _ else _) = _
        rw [hi2]; rfl
      · show (if inS d L.ns = true then _ else _) = _
        rw [hi]; rfl
      · refine filter_rel _ _ (fun e => ?_) (fun e => ?_) h.ep
        · show (decide (minS e.u e.v ∈ leftN d L.ns) && decide (maxS e.u e.v ∈ leftN d L.ns)) = _
          rcases minmax e.u e.v with ⟨h1, h2⟩ | ⟨h1, h2⟩ <;> rw [h1, h2]
          rw [Bool.and_comm]
        · have q : ∀ x, decide (x ∈ leftN d N.ns) = decide (x ∈ leftN d L.ns) := fun x => decide_eq_decide.mpr pl.mem_iff
          rw [q, q]
  | cut d =>
    cases hi : inS d (L.es.map Edg.n) with
    | false =>
      have hi2 : inS d (N.es.map Edg.n) = false := by rw [inS_perm hnm]; exact hi
      refine .inl ⟨.noEdge d, ?_, ?_⟩
      · show (if inS d (N.es.map Edg.n) = true then _ else _) = _
        rw [hi2]; rfl
      · unfold oneL
        show (match (if inS d (L.es.map Edg.n) = true then _ else _ : Err ⊕ (List PyData × List PyData)) with | .inl e => _ | .inr (a, b) => _) = _
        rw [hi]; rfl
    | true =>
      have hi2 : inS d (N.es.map Edg.n) = true := by rw [inS_perm hnm]; exact hi
      refine one_of (ns := L.ns) (ms := N.ns) (es := cutE d L.es) (fs := cutE d N.es) ?_ ?_ (g.cut d) (gN.cut d) h.np ?_ (Nat.le_succ_of_le (List.length_filter_le _ _))
      · show (if inS d (N.es.map Edg.n) = true then _ else _) = _
        rw [hi2]; rfl
      · show (if inS d (L.es.map Edg.n) = true then _ else _) = _
        rw [hi]; rfl
      · exact filter_rel _ _ (fun e => rfl) (fun e => rfl) h.ep
  | len d l =>
    cases hi : inS d (L.es.map Edg.n) with
    | false =>
      have hi2 : inS d (N.es.map Edg.n) = false := by rw [inS_perm hnm]; exact hi
      refine .inl ⟨.noEdge d, ?_, ?_⟩
      · show (if inS d (N.es.map Edg.n) = true then _ else _) = _
        rw [hi2]; rfl
      · unfold oneL
        show (match (if inS d (L.es.map Edg.n) = true then _ else _ : Err ⊕ (List PyData × List PyData)) with | .inl e => _ | .inr (a, b) => _) = _
        rw [hi]; rfl
    | true =>
      have hi2 : inS d (N.es.map Edg.n) = true := by rw [inS_perm hnm]; exact hi
      cases hl : isLen l with
      | false =>
        refine .inl ⟨.length l, ?_, ?_⟩
        · show (if inS d (N.es.map Edg.n) = true then (if isLen l = true then _ else _) else _) = _
          rw [hi2, hl]; rfl
        · unfold oneL
          show (match (if inS d (L.es.map Edg.n) = true then (if isLen l = true then _ else _) else _ : Err ⊕ (List PyData × List PyData)) with | .inl e => _ | .inr (a, b) => _) = _
          rw [hi, hl]; rfl
      | true =>
        obtain ⟨i, rfl⟩ := isLen_int hl
        refine one_of (ns := L.ns) (ms := N.ns) (es := L.es.map (Edg.len (strOf d) i)) (fs := N.es.map (Edg.len (strOf d) i)) ?_ ?_ (g.len hl) (gN.len hl) h.np ?_ (by rw [List.length_map]; exact Nat.le_succ _)
        · show (if inS d (N.es.map Edg.n) = true then (if isLen (.int i) = true then _ else _) else _) = _
          rw [hi2, hl]; rfl
        · show (if inS d (L.es.map Edg.n) = true then (if isLen (.int i) = true then _ else _) else _) = _
          rw [hi, hl]; rfl
        · have q : ∀ xs : List Edg, (xs.map (Edg.len (strOf d) i)).map Edg.norm = (xs.map Edg.norm).map (Edg.len (strOf d) i) := fun xs => by
            rw [List.map_map, List.map_map]
            exact List.map_congr_left fun e _ => len_norm _ _ e
          rw [q, q]
          exact (norms_perm h.ep).map _
end Ld
/-! Nya: the error classes: which stands under which; raise X(). -/
namespace Ld
open PySem L2 PyProof.Rows
def kn (i : Nat) : Str := kinds.getD i ""
structure KindC (K : PySem.W.Frag) (i : Nat) (C : Addr) : Prop where
  cd : ∃ cd, PySem.W.clsIn K C = some cd ∧ cd.hasDict = true ∧ cd.mro = .ref C :: bmOf i
  ga : PySem.W.findIn K (.ref C) "__getattribute__" = some (some (.builtin "BaseException.__getattribute__"))
  gt : PySem.W.findIn K (.ref C) "__getattr__" = some none
  ca : PySem.W.findIn K (.ref C) "__class__" = some (some (.builtin "object.__class__"))
  ty : PySem.W.typeIn K (.ref C) = some (.type "type")
  kp : PySem.W.keepIn K (.ref C) = true
section
variable {w : World} {K : PySem.W.Frag} {mg : Str → Option Value}
theorem kindC_of {D : Addr} {i : Nat} (q : clsEB K D (bmOf i) = true) : KindC K i D := by
  unfold clsEB at q
  obtain ⟨q1, q⟩ := He.ba q
  obtain ⟨q2, q⟩ := He.ba q
  obtain ⟨q3, q⟩ := He.ba q
  obtain ⟨q4, q⟩ := He.ba q
  obtain ⟨q5, q6⟩ := He.ba q
  refine ⟨?_, He.eqO_ok q2, He.eqO_ok q3, He.eqO_ok q4, of_decide_eq_true q5, q6⟩
  cases e : PySem.W.clsIn K D with
  | none => rw [e] at q1; cases q1
  | some cd =>
    rw [e] at q1
    obtain ⟨a, b⟩ := He.ba q1
    exact ⟨cd, rfl, a, of_decide_eq_true b⟩
theorem kindAds_at (i : Nat) (hi : i < 11) : (kindAds K).getD i 0 = He.ga K (kn i) := by
  unfold kindAds kn
  match i, hi with
  | 0, _ => rfl
  | 1, _ => rfl
  | 2, _ => rfl
  | 3, _ => rfl
  | 4, _ => rfl
  | 5, _ => rfl
  | 6, _ => rfl
  | 7, _ => rfl
  | 8, _ => rfl
  | 9, _ => rfl
  | 10, _ => rfl
theorem Tz.kd (T : Tz w K mg) (i : Nat) (hi : i < 11 := by decide) : KindC K i (He.ga K (kn i)) := by
  rw [← kindAds_at i hi]
  exact kindC_of (List.all_eq_true.mp (He.ba (He.ba (He.ba (He.ba T.ex2).2).2).2).1 i (List.mem_range.mpr hi))
theorem Tz.nodup (T : Tz w K mg) : (kindAds K).Nodup := of_decide_eq_true (He.ba (He.ba (He.ba T.ex2).2).2).1
theorem Tz.neK (T : Tz w K mg) {i j : Nat} (hi : i < 11) (hj : j < 11) (h : i ≠ j) : He.ga K (kn i) ≠ He.ga K (kn j) := by
  intro e
  rw [← kindAds_at i hi, ← kindAds_at j hj] at e
  have l : (kindAds K).length = 11 := rfl
  have nd := T.nodup
  rw [List.getD_eq_getElem?_getD, List.getD_eq_getElem?_getD, List.getElem?_eq_getElem (by omega), List.getElem?_eq_getElem (by omega)] at e
  exact h ((List.getElem_inj nd).mp e)
theorem Tz.exB (T : Tz w K mg) (i : Nat) {c : String} (h : (["NothingToUndo", "NothingToRedo"] : List String)[i]? = some c := by rfl) : PySem.W.excIn K (He.ga K c) bmRE "RuntimeError.__new__" = true :=
  List.all_eq_true.mp (He.ba (He.ba (He.ba (He.ba (He.ba T.ex2).2).2).2).2).1 c (List.mem_of_getElem? h)
theorem Tz.sys (T : Tz w K mg) : ∃ o, K.lookup sysModules = some o := Option.isSome_iff_exists.mp (He.ba (He.ba (He.ba (He.ba (He.ba T.ex2).2).2).2).2).2
/-- what stands under what -/
theorem KindC.sub {i : Nat} {C : Addr} (k : KindC K i C) (base : Value) : PySem.W.subIn K (.ref C) base = some ((Value.ref C :: bmOf i).contains base) := by
  obtain ⟨cd, h1, h2, h3⟩ := k.cd
  show PySem.W.mroIn K C base = _
  unfold PySem.W.mroIn
  rw [h1, Option.bind_some, h3]
  rfl
theorem KindC.hd {i : Nat} {C : Addr} (k : KindC K i C) : PySem.W.hasDictIn K C = true := by
  obtain ⟨cd, h1, h2, h3⟩ := k.cd
  unfold PySem.W.hasDictIn
  rw [h1]
  exact h2
theorem bm_refs (i : Nat) (D : Addr) : (bmOf i).contains (.ref D) = false := by
  unfold bmOf
  split <;> rfl
theorem bm_base (i : Nat) : (bmOf i).contains (.type "BaseException") = true := by
  unfold bmOf
  split <;> decide +kernel
theorem KindC.subR {i : Nat} {C : Addr} (k : KindC K i C) (D : Addr) : PySem.W.subIn K (.ref C) (.ref D) = some (decide (D = C)) := by
  rw [k.sub, List.contains_cons, bm_refs, Bool.or_false]
  congr 1
  by_cases h : D = C
  · rw [h, decide_eq_true rfl]; exact beq_self_eq_true _
  · rw [decide_eq_false h]
    exact beq_eq_false_iff_ne.mpr fun e => h (Value.ref.inj e)
theorem KindC.subT {i : Nat} {C : Addr} (k : KindC K i C) (t : String) : PySem.W.subIn K (.ref C) (.type t) = some ((bmOf i).contains (.type t)) := by
  rw [k.sub, List.contains_cons]
  have : (Value.type t == Value.ref C) = false := by first | rfl | (exact beq_eq_false_iff_ne.mpr nofun)
  rw [this, Bool.false_or]
theorem KindC.subB {i : Nat} {C : Addr} (k : KindC K i C) : PySem.W.subIn K (.ref C) (.type "BaseException") = some true := by
  rw [k.subT, bm_base]
end
section
variable {X : Cx} {C : Addr} {bmB : List Value} {B newId initId : String}
/-- X() -/
theorem pmk_own0 {x : Str} {p pos : Pos} (F : ExcBaseFacts B newId initId bmB) (q : PySem.W.excIn X.K C bmB newId = true) (gC : X.mg x = some (.ref C)) (kC : PySem.W.keepIn X.K (.ref C) = true) (r : Raises X (.ref C)) (hg : Gl X x)
    (hdb : (x == ("__debug__" : Str)) = false := by decide) : L2N.PMk X (.Call (.Name x p) [] [] pos) (fun _ H Q => Q (.ref C) none H) := by
  intro pins s σ H Q I h
  refine wpAny_Call_Name_kw (ld_glob I hg gC ?_ hdb)
  refine PySem.W.callWith_K0 I.kIn kC ?_
  obtain ⟨bm, N, nm, qn, bs, hdct, sn, sub, ab, col, dd, k0, k1, k2, k3, k5, mN, hC, hN, hni, T⟩ := exc_obj I.kIn q
  obtain ⟨hp, g, d, tk, os⟩ := s
  refine wpAny_call_exc_subT F T hC hN hni (fun h' e hm => ?_) (Nat.zero_le _)
  exact L2N.mk_of I hm r h (I.hok.gone hm.new)
theorem pmk_NothingToUndo (Z : Tz X.w X.K X.mg) {p pos : Pos} (hg : Gl X "NothingToUndo" := by rfl) : L2N.PMk X (.Call (.Name "NothingToUndo" p) [] [] pos) (fun _ H Q => Q (.ref (He.ga X.K "NothingToUndo")) none H) :=
  pmk_own0 PySem.F.excBase_RuntimeError (Z.exB 0) Z.t.g_NothingToUndo (Z.kd 8).kp (raises_own (Z.kd 8).subB (Z.kd 8).ty) hg
theorem pmk_NothingToRedo (Z : Tz X.w X.K X.mg) {p pos : Pos} (hg : Gl X "NothingToRedo" := by rfl) : L2N.PMk X (.Call (.Name "NothingToRedo" p) [] [] pos) (fun _ H Q => Q (.ref (He.ga X.K "NothingToRedo")) none H) :=
  pmk_own0 PySem.F.excBase_RuntimeError (Z.exB 1) Z.t.g_NothingToRedo (Z.kd 9).kp (raises_own (Z.kd 9).subB (Z.kd 9).ty) hg
end
end Ld
/-! Np: Book.accept, change, need_count, undo, redo. -/
namespace Ld
open PySem L2 PyProof.Rows
/-- a statement that is never reached -/
theorem ps_never {X : Cx} {st : Stmt} : PS X st (fun _ _ _ => False) := ⟨fun _ _ _ _ _ _ h => h.elim⟩
/-- the object at v is the program's form of the plain network L -/
def NetRel (K : PySem.W.Frag) (R : Hp) (v : V) (L : Net) : Prop := ∃ N, NetAt K R v N ∧ NormOf N L.ns L.es
theorem NetRel.up {K : PySem.W.Frag} {R R' : Hp} {v : V} {L : Net} (h : NetRel K R v L) (k : Same R R') : NetRel K R' v L := by
  obtain ⟨N, a, b⟩ := h
  exact ⟨N, a.up k, b⟩
/-- a plain network that stands, of at most m edges -/
structure GL (L : Net) (m : Nat) : Prop where
  f : Fine L.ns L.es
  ne : L.ns ≠ []
  ft : fits L.es = true
  el : L.es.length ≤ m
def foldL : Net → List Chg → Err ⊕ Net
  | L, [] => .inr L
  | L, c :: r => match oneL L c with
    | .inl e => .inl e
    | .inr L' => foldL L' r
theorem NetLe.of {K : PySem.W.Frag} {N L : Net} {m : Nat} (g : GL L m) (h : NormOf N L.ns L.es) : NetLe N m := by
  have f := g.f.perm h.np h.ep
  refine ⟨f.nl, ?_, f.nm, f.ed⟩
  rw [h.ep.length_eq, List.length_map]
  exact g.el
theorem BookAt.up {K : PySem.W.Frag} {R H R' H' : Hp} {b l : Addr} {S : Stt} {m : Nat} {M : List Addr} (h : BookAt K R H b l S m) (f : Fx M R H R' H') (n : l ∉ M) : BookAt K R' H' b l S m := by
  obtain ⟨dx, v, xs, ds, h1, h2, h3, h4, h5⟩ := h.ob
  have up : ∀ {vs : List V} {ds : List Deed}, DeedsAt R vs ds → DeedsAt R' vs ds := by
    intro vs ds h
    induction h with
    | nil => exact .nil
    | cons x _ ih =>
      refine .cons ?_ ih
      rename_i d _ _ 
      cases d with
      | chg n => obtain ⟨t, c, r, e, a, b⟩ := x; exact ⟨t, c, r, e, f.rr _ _ a, f.rr _ _ b⟩
      | undo k => obtain ⟨t, e, a, b⟩ := x; exact ⟨t, e, f.rr _ _ a, b⟩
      | redo k => obtain ⟨t, e, a, b⟩ := x; exact ⟨t, e, f.rr _ _ a, b⟩
  exact ⟨f.nr h.rl h2, dx, v, xs, ds, f.rr _ _ h1, f.kp _ _ h2 n, up h3, h4, h5⟩
theorem runD_snoc : ∀ (ds : List Deed) (S : Stt) (d : Deed), runD S (ds ++ [d]) = (runD S ds).bind fun T => T.step d
  | [], S, d => by
    show (S.step d).bind (fun S' => some S') = S.step d
    cases S.step d <;> rfl
  | x :: r, S, d => by
    show (S.step x).bind (fun S' => runD S' (r ++ [d])) = ((S.step x).bind fun S' => runD S' r).bind _
    cases h : S.step x with
    | none => rfl
    | some T => exact runD_snoc r T d
theorem runD_len : ∀ (ds : List Deed) (S T : Stt), runD S ds = some T → T.p.length + T.f.length ≤ S.p.length + S.f.length + ds.length
  | [], S, T, h => by cases h; simp
  | x :: r, S, T, h => by
    have h : (S.step x).bind (fun S' => runD S' r) = some T := h
    cases h2 : S.step x with
    | none => rw [h2] at h; cases h
    | some U =>
      rw [h2] at h
      have h3 := runD_len r U T h
      have h4 := step_len h2
      simp only [List.length_cons]
      omega
theorem BookAt.len {K : PySem.W.Frag} {R H : Hp} {b l : Addr} {S : Stt} {m : Nat} (h : BookAt K R H b l S m) : S.p.length + S.f.length ≤ m := by
  obtain ⟨dx, v, xs, ds, h1, h2, h3, h4, h5⟩ := h.ob
  have := runD_len ds _ _ h5
  simp only [List.length_nil, Nat.zero_add] at this
  omega
theorem DeedsAt.snoc {R : Hp} {v : V} {d : Deed} (x : DeedAt R v d) : ∀ {vs : List V} {ds : List Deed}, DeedsAt R vs ds → DeedsAt R (vs ++ [v]) (ds ++ [d])
  | [], [], _ => .cons x .nil
  | _ :: _, _ :: _, h => by
    cases h with
    | cons a b => exact .cons a (DeedsAt.snoc x b)
/-- one deed more -/
theorem BookAt.put {K : PySem.W.Frag} {R H : Hp} {b l : Addr} {S S' : Stt} {m : Nat} {d : Deed} {v : V} {xs : List V} (h : BookAt K R H b l S m) (hl : H l = some (.lst xs)) (hd : DeedAt R v d) (hs : S.step d = some S') : BookAt K R (upd H l (.lst (xs ++ [v]))) b l S' (m + 1) := by
  obtain ⟨dx, n, ys, ds, h1, h2, h3, h4, h5⟩ := h.ob
  rw [hl] at h2
  cases h2
  refine ⟨h.rl, dx, n, xs ++ [v], ds ++ [d], h1, upd_same, h3.snoc hd, by rw [List.length_append]; exact Nat.succ_le_succ h4, ?_⟩
  rw [runD_snoc, h5]
  exact hs
def spAcc : Sp := fun vs H Q _ => ∃ (a b : V), vs = [a, b] ∧ Q .non H
def spBC (K : PySem.W.Frag) : Sp := fun vs H Q E => ∃ (R : Hp) (b l p : Addr) (S : Stt) (m : Nat) (cvs : List V) (cs : List Chg) (L : Net) (e0 : Nat), vs = [.ref b, .ref p] ∧ Same R H ∧ BookAt K R H b l S m ∧ m < 1000 ∧ R p = some (.tup cvs) ∧ AtL R cvs (cs.map Chg.d) ∧ (∀ c ∈ cs, okSs c.ps = true) ∧ cs.length ≤ 3 ∧ NetRel K R S.h L ∧ GL L e0 ∧ e0 + cs.length ≤ 59 ∧
  (∀ e, foldL L cs = .inl e → ER K [] R H E e) ∧ (∀ L', foldL L cs = .inr L' → ∀ (R' H' : Hp) (n : V), Fx [l] R H R' H' → NetRel K R' n L' → BookAt K R' H' b l ⟨n, S.p ++ [S.h], []⟩ (m + 1) → Q .non H')
def badC (d : PyData) : Bool := match d with
  | .int i => decide (i < 1)
  | _ => true
def spNC (K : PySem.W.Frag) : Sp := fun vs H Q E => ∃ (R : Hp) (b l : Addr) (S : Stt) (v : V) (d : PyData), vs = [.ref b, v] ∧ Same R H ∧ BookAt K R H b l S 1000 ∧ At R v d ∧ okS d = true ∧ (badC d = true → ER K [] R H E (.range d)) ∧ (badC d = false → ∀ R' H', Fx [] R H R' H' → Q .non H')
def spU (K : PySem.W.Frag) (g : Stt → Option Stt) (len : Stt → Nat) (err : Err) : Sp := fun vs H Q E => ∃ (R : Hp) (b l : Addr) (S : Stt) (m : Nat) (v : V) (d : PyData), vs = [.ref b, v] ∧ Same R H ∧ BookAt K R H b l S m ∧ m < 1000 ∧ At R v d ∧ okS d = true ∧
  (badC d = true → ER K [] R H E (.range d)) ∧ (∀ k : Nat, d = .int k → 1 ≤ k → len S < k → ER K [] R H E err) ∧
  (∀ k : Nat, d = .int k → 1 ≤ k → k ≤ len S → ∀ S' R' H', times g k S = some S' → Fx [l] R H R' H' → BookAt K R' H' b l S' (m + 1) → Q .non H')
theorem times_un_some : ∀ (k : Nat) (S : Stt), k ≤ S.p.length → ∃ T, times Stt.un k S = some T ∧ T.p.length = S.p.length - k
  | 0, S, _ => ⟨S, rfl, rfl⟩
  | k + 1, S, h => by
    obtain ⟨T, h1, h2⟩ := times_un_some k S (by omega)
    have hne : T.p ≠ [] := fun z => by rw [z] at h2; simp at h2; omega
    refine ⟨⟨T.p.getLast hne, T.p.dropLast, T.f ++ [T.h]⟩, ?_, ?_⟩
    · show (times Stt.un k S).bind Stt.un = _
      rw [h1]
      show Stt.un T = _
      unfold Stt.un
      first | rw [List.getLast?_eq_some_getLast hne] | rw [List.getLast?_eq_getLast _ hne]
    · simp only [List.length_dropLast]
      omega
theorem times_re_some : ∀ (k : Nat) (S : Stt), k ≤ S.f.length → ∃ T, times Stt.re k S = some T ∧ T.f.length = S.f.length - k
  | 0, S, _ => ⟨S, rfl, rfl⟩
  | k + 1, S, h => by
    obtain ⟨T, h1, h2⟩ := times_re_some k S (by omega)
    have hne : T.f ≠ [] := fun z => by rw [z] at h2; simp at h2; omega
    refine ⟨⟨T.f.getLast hne, T.p ++ [T.h], T.f.dropLast⟩, ?_, ?_⟩
    · show (times Stt.re k S).bind Stt.re = _
      rw [h1]
      show Stt.re T = _
      unfold Stt.re
      first | rw [List.getLast?_eq_some_getLast hne] | rw [List.getLast?_eq_getLast _ hne]
    · simp only [List.length_dropLast]
      omega
theorem ER.mk0 {K : PySem.W.Frag} {R H R1 H1 : Hp} {E : XK} {e : Err} (h : ER K [] R H E e) (he : e.fd = none) (g : Fx [] R H R1 H1) : E (.ref (He.ga K e.c)) none H1 := by
  unfold ER at h
  rw [he] at h
  exact h R1 H1 g
section
variable {P : Program} {w : World} {K : PySem.W.Frag} {mg : Str → Option Value} {base : Heap}
theorem ok_B_accept (T : Tx w K mg) : FnOk P w K mg base CX0 1 (a_B_accept K) (f_B_accept K) P_B_accept spAcc := by
  refine T.d_B_accept.ok sc_B_accept (fun vs H Q E h => by obtain ⟨_, _, rfl, _⟩ := h; rfl) (fun cdv A outer s H vs Q E hr h => ?_)
  have hu := hu_of hr
  have nd := sc_B_accept.nd
  refine ⟨_, PSs.nox (pss_one ps_pass), ?_⟩
  obtain ⟨a, b, rfl, q⟩ := h
  exact q
theorem ok_B_need_count (PF : PP P) (Z : Tz w K mg) : FnOk P w K mg base (L2N.CX P w) 5 (a_B_need_count K) (f_B_need_count K) P_B_need_count (spNC K) := by
  have T := Z.t
  refine T.d_B_need_count.ok sc_B_need_count (fun vs H Q E h => by obtain ⟨_, _, _, _, _, _, rfl, _⟩ := h; rfl) (fun cdv A outer s H vs Q E hr h => ?_)
  have hu := hu_of hr
  have nd := sc_B_need_count.nd
  refine ⟨_, (pss_cons (ps_if (pt_cmpR op_gt (pe_prop (pv 0) T.clB T.p_B_depth (ok_B_depth T) (hr.mono (by decide)) T.b_B_depth .nil pass0 rfl) pe_int (nomark _))
      (pss_one ps_never)
      pss_nil)
    (pss_one (ps_if (PW.pt (pw_or (pt_not (pt_val (pe_call (ok_is_integer T) (hr.mono (by decide)) (by rfl) T.g_is_integer T.k_is_integer T.b_is_integer .nil pass0 (pa_cons (pv 1) pa_nil)))) (pw_or1 (pt_cmpR op_lt (pv 1) pe_int (nomark _)))))
      (pss_one (ps_raiseX rfl PF.toPFacts (Z.x_OutOfRange PF) T.g_OutOfRange T.f_super hr (L2N.takes_of rfl rfl rfl rfl) (pa_cons (pv 1) pa_nil)))
      pss_nil))), ?_⟩
  obtain ⟨R, b, l, S, v, d, rfl, k, hb, hd, od, qe, q⟩ := h
  obtain ⟨dx, n, xs, ds, h1, h2, h3, h4, h5⟩ := hb.ob
  refine ⟨_, rfl, b, dx, _, rfl, k _ _ h1, R, b, l, S, rfl, k, hb, fun R1 H1 f1 => ?_⟩
  refine ⟨_, _, rfl, rfl, _, rfl, ?_⟩
  refine iteB (fun _ => ?_) (fun h => absurd h (by decide))
  refine ⟨v, rfl, R1, v, d, rfl, f1.rh, hd.up f1.rr, od, fun R2 H2 f2 => ?_⟩
  have f12 := f1.trans f2
  refine ⟨_, rfl, ?_⟩
  have bad : badC d = true → tRaiseX (He.ga K "OutOfRange") "value" (fun cls d x H => E cls d H) (tCons (tVar 1) tNil) { nx := fun x H' => Q V.non H', rt := Q } (start N_B_need_count [.ref b, v]) H2 := fun hb => ⟨v, rfl, v, rfl, fun dd hdd => ER.mk (qe hb) rfl f12 (hd.up f12.rr) hdd⟩
  refine iteB (fun hi => ?_) (fun hi => ?_)
  · cases d with
    | int i =>
      cases hd
      refine ⟨_, rfl, _, _, rfl, rfl, _, rfl, ?_⟩
      refine iteB (fun h => ?_) (fun h => ?_)
      · exact q (by unfold badC; exact h) R2 H2 f12
      · exact bad (by unfold badC; exact h)
    | _ => cases hi
  · exact bad (by cases d <;> first | rfl | cases hi)
theorem ok_B_undo (PF : PP P) (Z : Tz w K mg) : FnOk P w K mg base (L2N.CX P w) 6 (a_B_undo K) (f_B_undo K) P_B_undo (spU K Stt.un (fun S => S.p.length) .noUndo) := by
  have T := Z.t
  refine T.d_B_undo.ok sc_B_undo (fun vs H Q E h => by obtain ⟨_, _, _, _, _, _, _, rfl, _⟩ := h; rfl) (fun cdv A outer s H vs Q E hr h => ?_)
  have hu := hu_of hr
  have nd := sc_B_undo.nd
  refine ⟨_, (pss_cons (ps_expr (pe_meth (pv 0) T.clB T.m_B_need_count (ok_B_need_count PF Z) (hr.mono (by decide)) T.b_B_need_count .nil (L2N.passes_call (W := fun cls d _ H => E cls d H) (L2N.takes_of rfl rfl rfl rfl) (fun _ _ _ _ h => h)) (pa_cons (pv 1) pa_nil)))
    (pss_cons (ps_if (pt_cmpR op_gt (pv 1) (pe_prop (pv 0) T.clB T.p_B_undoable (ok_B_undoable T) (hr.mono (by decide)) T.b_B_undoable .nil pass0 rfl) (nomark _))
      (pss_one (L2N.ps_raise rfl (L2N.takes_of rfl rfl rfl rfl) (pmk_NothingToUndo Z)))
      pss_nil)
    (pss_one (ps_expr (pe_bm PySem.F.plainAttrs_list PySem.F.slot_list_append PySem.F.type_list_append mt_append (pe_fld (pv 0) rfl) (pa_cons (pe_tup (pa_cons pe_str (pa_cons (pv 1) pa_nil))) pa_nil)))))), ?_⟩
  obtain ⟨R, b, l, S, m, v, d, rfl, k, hb, hm, hd, od, qe, qn, q⟩ := h
  have hb1000 : BookAt K R H b l S 1000 := by
    obtain ⟨dx, n, xs, ds, h1, h2, h3, h4, h5⟩ := hb.ob
    exact ⟨hb.rl, dx, n, xs, ds, h1, h2, h3, by omega, h5⟩
  obtain ⟨dx, n, xs, ds, h1, h2, h3, h4, h5⟩ := hb.ob
  refine ⟨_, rfl, b, dx, _, rfl, k _ _ h1, rfl, v, rfl, R, b, l, S, v, d, rfl, k, hb1000, hd, od, qe, fun hgood R1 H1 f1 => ?_⟩
  cases d with
  | int i =>
    cases hd
    have hi : ¬ i < 1 := of_decide_eq_false hgood
    obtain ⟨j, rfl⟩ := Int.eq_ofNat_of_zero_le (show 0 ≤ i by omega)
    have hj : 1 ≤ j := by omega
    refine ⟨_, rfl, _, rfl, b, dx, _, rfl, f1.rh _ _ (f1.rr _ _ h1), R1, b, l, S, rfl, f1.rh, hb1000.up f1 (by simp), fun R2 H2 f2 => ?_⟩
    have f12 := f1.trans f2
    have hb2 := hb.up f12 (by simp)
    refine ⟨_, _, rfl, rfl, _, rfl, ?_⟩
    refine iteB (fun h => ?_) (fun h => ?_)
    · have h : ¬ ((S.p.length : Nat) : Int) < (j : Int) := of_decide_eq_false h
      have hle : j ≤ S.p.length := by omega
      have hlen := hb.len
      obtain ⟨S', hs, _⟩ := times_un_some j S hle
      have hl2 := f12.kp _ _ h2 (by simp)
      refine ⟨_, rfl, b, CB K, dx, _, .ref l, rfl, f12.rh _ _ (f12.rr _ _ h1), T.clB, T.n_deeds, rfl, .inl ⟨rfl, _, SqL.of hl2⟩, _, rfl, by show 2 ≤ sizeLine; decide, fun t ht => ?_⟩
      obtain ⟨R3, f3, e3, m3⟩ := Fx.at1 (o := .tup [.str "undo", .int (j : Nat)]) f12.rh ht
      have f13 := f12.trans f3
      have hb3 := hb.up f13 (by simp)
      have hl3 := f13.kp _ _ h2 (by simp)
      refine ⟨l, _, _, rfl, rfl, hl3, by have := h3.length; rw [sizeLine_eq]; omega, ?_⟩
      refine q j rfl hj hle S' R3 _ hs (f13.s0.put hb3.rl (.inl (by simp))) (hb3.put hl3 (d := .undo j) ⟨t, rfl, e3, by omega⟩ hs)
    · have h : ((S.p.length : Nat) : Int) < (j : Int) := of_decide_eq_true h
      exact ER.mk0 (qn j rfl hj (by show S.p.length < j; omega)) rfl f12
  | _ => cases hgood
theorem ok_B_redo (PF : PP P) (Z : Tz w K mg) : FnOk P w K mg base (L2N.CX P w) 6 (a_B_redo K) (f_B_redo K) P_B_redo (spU K Stt.re (fun S => S.f.length) .noRedo) := by
  have T := Z.t
  refine T.d_B_redo.ok sc_B_redo (fun vs H Q E h => by obtain ⟨_, _, _, _, _, _, _, rfl, _⟩ := h; rfl) (fun cdv A outer s H vs Q E hr h => ?_)
  have hu := hu_of hr
  have nd := sc_B_redo.nd
  refine ⟨_, (pss_cons (ps_expr (pe_meth (pv 0) T.clB T.m_B_need_count (ok_B_need_count PF Z) (hr.mono (by decide)) T.b_B_need_count .nil (L2N.passes_call (W := fun cls d _ H => E cls d H) (L2N.takes_of rfl rfl rfl rfl) (fun _ _ _ _ h => h)) (pa_cons (pv 1) pa_nil)))
    (pss_cons (ps_if (pt_cmpR op_gt (pv 1) (pe_prop (pv 0) T.clB T.p_B_redoable (ok_B_redoable T) (hr.mono (by decide)) T.b_B_redoable .nil pass0 rfl) (nomark _))
      (pss_one (L2N.ps_raise rfl (L2N.takes_of rfl rfl rfl rfl) (pmk_NothingToRedo Z)))
      pss_nil)
    (pss_one (ps_expr (pe_bm PySem.F.plainAttrs_list PySem.F.slot_list_append PySem.F.type_list_append mt_append (pe_fld (pv 0) rfl) (pa_cons (pe_tup (pa_cons pe_str (pa_cons (pv 1) pa_nil))) pa_nil)))))), ?_⟩
  obtain ⟨R, b, l, S, m, v, d, rfl, k, hb, hm, hd, od, qe, qn, q⟩ := h
  have hb1000 : BookAt K R H b l S 1000 := by
    obtain ⟨dx, n, xs, ds, h1, h2, h3, h4, h5⟩ := hb.ob
    exact ⟨hb.rl, dx, n, xs, ds, h1, h2, h3, by omega, h5⟩
  obtain ⟨dx, n, xs, ds, h1, h2, h3, h4, h5⟩ := hb.ob
  refine ⟨_, rfl, b, dx, _, rfl, k _ _ h1, rfl, v, rfl, R, b, l, S, v, d, rfl, k, hb1000, hd, od, qe, fun hgood R1 H1 f1 => ?_⟩
  cases d with
  | int i =>
    cases hd
    have hi : ¬ i < 1 := of_decide_eq_false hgood
    obtain ⟨j, rfl⟩ := Int.eq_ofNat_of_zero_le (show 0 ≤ i by omega)
    have hj : 1 ≤ j := by omega
    refine ⟨_, rfl, _, rfl, b, dx, _, rfl, f1.rh _ _ (f1.rr _ _ h1), R1, b, l, S, rfl, f1.rh, hb1000.up f1 (by simp), fun R2 H2 f2 => ?_⟩
    have f12 := f1.trans f2
    have hb2 := hb.up f12 (by simp)
    refine ⟨_, _, rfl, rfl, _, rfl, ?_⟩
    refine iteB (fun h => ?_) (fun h => ?_)
    · have h : ¬ ((S.f.length : Nat) : Int) < (j : Int) := of_decide_eq_false h
      have hle : j ≤ S.f.length := by omega
      have hlen := hb.len
      obtain ⟨S', hs, _⟩ := times_re_some j S hle
      have hl2 := f12.kp _ _ h2 (by simp)
      refine ⟨_, rfl, b, CB K, dx, _, .ref l, rfl, f12.rh _ _ (f12.rr _ _ h1), T.clB, T.n_deeds, rfl, .inl ⟨rfl, _, SqL.of hl2⟩, _, rfl, by show 2 ≤ sizeLine; decide, fun t ht => ?_⟩
      obtain ⟨R3, f3, e3, m3⟩ := Fx.at1 (o := .tup [.str "redo", .int (j : Nat)]) f12.rh ht
      have f13 := f12.trans f3
      have hb3 := hb.up f13 (by simp)
      have hl3 := f13.kp _ _ h2 (by simp)
      refine ⟨l, _, _, rfl, rfl, hl3, by have := h3.length; rw [sizeLine_eq]; omega, ?_⟩
      refine q j rfl hj hle S' R3 _ hs (f13.s0.put hb3.rl (.inl (by simp))) (hb3.put hl3 (d := .redo j) ⟨t, rfl, e3, by omega⟩ hs)
    · have h : ((S.f.length : Nat) : Int) < (j : Int) := of_decide_eq_true h
      exact ER.mk0 (qn j rfl hj (by show S.f.length < j; omega)) rfl f12
  | _ => cases hgood
end
end Ld
/-! Nq: Book.change. -/
namespace Ld
open PySem L2 PyProof.Rows
theorem oneL_gl {N L : Net} {m : Nat} {c : Chg} {L' : Net} (g : GL L m) (h : NormOf N L.ns L.es) (e : oneL L c = .inr L') : GL L' (m + 1) := by
  rcases one_rel g.f g.ne h c with ⟨e1, _, h2⟩ | ⟨a, b, _, ⟨e1, _, h2⟩ | ⟨_, L2, h2, a1, a2, a3, a4, _⟩⟩
  · rw [e] at h2; cases h2
  · rw [e] at h2; cases h2
  · rw [e] at h2
    cases h2
    exact ⟨a2, a1, a3, by have := g.el; omega⟩
theorem take_drop1 {α : Type} {xs : List α} {i : Nat} {x : α} (h : xs[i]? = some x) : xs.drop i = x :: xs.drop (i + 1) := by
  obtain ⟨hi, e⟩ := List.getElem?_eq_some_iff.mp h
  rw [List.drop_eq_getElem_cons hi, e]
section
variable {P : Program} {w : World} {K : PySem.W.Frag} {mg : Str → Option Value} {base : Heap}
theorem ok_B_change (PF : PP P) (Z : Tz w K mg) : FnR P w K mg base (L2N.CX P w) 12 (a_B_change K) (fun vs H Q E => ∃ ws rest, vs = ws ++ rest ∧ ws.length = [("self" : Str)].length ∧ rest.length ≤ sizeLine ∧ ∀ p, H p = Option.none → spBC K (ws ++ [V.ref p]) (upd H p (.tup rest)) Q E) := by
  have T := Z.t
  refine defS T.d_B_change sc_B_change cxUpN (fun kV doc pm an cdv ct => StX.bind_star1 (B := fun us => bindArgs (PySem.W.fnOf "change" "Book.change" (defArgs st_B_change) (defBody st_B_change) (defScope st_B_change) .none kV doc pm an cdv ct) ⟨us, []⟩) (fun a => rfl) (fun a r rs => rfl)) (fun cdv A outer s H vs Q E hr h => ?_)
  have hu := hu_of hr
  have nd := sc_B_change.nd
  refine ⟨_, (pss_cons (ps_for (passes_of rfl) rfl (pi_enumT (by rfl) T.f_enumerate (pa_cons (pv 1) pa_nil)) (pg_tup rfl (pgs_cons (pg_name (i := 2) nd rfl (Or.inl rfl)) (pgs_cons (pg_name (i := 3) nd rfl (Or.inl rfl)) pgs_nil)))
      (pss_one (ps_if (pt_not (pt_val (pe_call (ok_is_change T) (hr.mono (by decide)) (by rfl) T.g_is_change T.k_is_change T.b_is_change .nil pass0 (pa_cons (pv 3) pa_nil))))
        (pss_one ps_never)
        pss_nil)))
    (pss_cons (ps_set (i := 4) nd rfl (Or.inl rfl) (pe_prop (pv 0) T.clB T.p_B_network (ok_B_network T) (hr.mono (by decide)) T.b_B_network .nil pass0 rfl))
    (pss_cons (ps_for (passes_of rfl) rfl (pi_tup (pv 1)) (pg_name (i := 3) nd rfl (Or.inl rfl))
      (pss_one (ps_set (i := 4) nd rfl (Or.inl rfl) (pe_call (ok_network_after PF Z) (hr.mono (by decide)) (by rfl) T.g_network_after T.k_network_after T.b_network_after .nil (L2N.passes_call (W := fun cls d _ H => E cls d H) (L2N.takes_of rfl rfl rfl rfl) (fun _ _ _ _ h => h)) (pa_cons (pv 4) (pa_cons (pv 3) pa_nil))))))
    (pss_cons (ps_expr (pe_meth (pv 0) T.clB T.m_B_accept (ok_B_accept T) (hr.mono (by decide)) T.b_B_accept .nil pass0 (pa_cons (pv 4) pa_nil)))
    (pss_one (ps_expr (pe_bm PySem.F.plainAttrs_list PySem.F.slot_list_append PySem.F.type_list_append mt_append (pe_fld (pv 0) rfl) (pa_cons (pe_tup (pa_cons pe_str (pa_cons (pe_tup (pa_cons (pv 4) (pa_cons (pv 1) pa_nil))) pa_nil))) pa_nil)))))))), ?_⟩
  obtain ⟨R, b, l, p, S, m, cvs, cs, L, e0, rfl, k, hb, hm, hp, hc, oc, hcl, hN, gL, hel, qe, q⟩ := h
  have hsz := sizeLine_eq
  have hcv := hc.length
  rw [List.length_map] at hcv
  obtain ⟨dx, n, xs, ds, h1, h2, h3, h4, h5⟩ := hb.ob
  -- every value is a change
  refine ⟨_, rfl, p, cvs, rfl, SqT.of (k _ _ hp), for_it (walk_enumT (K := K) (a := p) (xs := cvs)) (fun i σ H' => ∃ (x2 x3 : Option V), σ = [some (.ref b), some (.ref p), x2, x3, none] ∧ Fx [] R H R H') ⟨none, none, rfl, Fx.refl k⟩ (fun i σ H' _ ⟨_, _, _, f⟩ => SqT.of (f.rh _ _ hp)) ?_ ?_⟩
  · rintro i x σ H' H'' hi ⟨x2, x3, rfl, f⟩ y
    obtain ⟨t, x0, x1, rfl, ht, rfl, e0', e1'⟩ := y
    cases e0'
    have f1 := f.newH (o := .tup [.int (i : Nat), x1]) ht
    obtain ⟨d, d1, d2⟩ := hc.get e1'
    rw [List.getElem?_map] at d1
    obtain ⟨c, hc1, rfl⟩ := Option.map_eq_some_iff.mp d1
    refine ⟨t, _, rfl, SqT.of upd_same, rfl, _, _, rfl, _, _, rfl, rfl, ?_⟩
    refine ⟨_, rfl, R, x1, c, rfl, f1.rh, d2, fun H2 f2 => ⟨_, rfl, ?_⟩⟩
    refine iteB (fun _ => ?_) (fun h => absurd h (by decide))
    exact ⟨_, _, rfl, f1.trans f2⟩
  · rintro σ H1 ⟨x2, x3, rfl, f1⟩
    have hb1000 : BookAt K R H b l S 1000 := ⟨hb.rl, dx, n, xs, ds, h1, h2, h3, by omega, h5⟩
    refine ⟨_, rfl, b, dx, _, rfl, f1.rh _ _ h1, R, b, l, S, rfl, f1.rh, hb1000.up f1 (by simp), fun R2 H2 f2 => ?_⟩
    have f12 := f1.trans f2
    refine ⟨_, rfl, p, rfl, ⟨_, SqT.of (f12.rh _ _ (f12.rr _ _ hp))⟩, for_tup (K := K) (a := p) (xs := cvs) (fun i σ H' => ∃ (R' : Hp) (x2 x3 : Option V) (v : V) (L' : Net), σ = [some (.ref b), some (.ref p), x2, x3, some v] ∧ Fx [] R H R' H' ∧ NetRel K R' v L' ∧ GL L' (e0 + i) ∧ foldL L cs = foldL L' (cs.drop i)) ⟨R2, _, _, S.h, L, rfl, f12, hN.up f12.rr, gL, rfl⟩ (fun i σ H' _ ⟨_, _, _, _, _, _, f, _⟩ => SqT.of (f.rh _ _ (f.rr _ _ hp))) ?_ ?_⟩
    · rintro i x σ H' hx ⟨R', x2, x3, v, L', rfl, f, hr', g', hf⟩
      obtain ⟨d, d1, d2⟩ := hc.get hx
      rw [List.getElem?_map] at d1
      obtain ⟨c, hc1, rfl⟩ := Option.map_eq_some_iff.mp d1
      have hi := (List.getElem?_eq_some_iff.mp hc1).1
      rw [take_drop1 hc1] at hf
      have hf : foldL L cs = match oneL L' c with
        | .inl e => .inl e
        | .inr L2 => foldL L2 (cs.drop (i + 1)) := hf
      obtain ⟨N, aN, nN⟩ := hr'
      have oneR := one_rel g'.f g'.ne nN c
      have gl2 := fun L2 (e : oneL L' c = .inr L2) => oneL_gl g' nN e
      have le := NetLe.of (K := K) g' nN
      refine ⟨_, rfl, _, rfl, R', v, x, c, N, rfl, f.rh, aN, d2.up f.rr, oc c (List.mem_of_getElem? hc1), ⟨le.nl, by have := le.el; omega, le.nm, le.ed⟩, ?_⟩
      rcases oneR with ⟨e, a1, a2⟩ | ⟨a, b', a1, ⟨e, a2, a3⟩ | ⟨a2, L2, a3, _, _, _, _, a4⟩⟩
      · rw [a1]
        rw [a2] at hf
        exact (qe e hf).then f (by simp)
      · rw [a1]
        rw [a3] at hf
        refine ⟨fun e' he' => ?_, fun N' R3 H3 v' hd => ?_⟩
        · rw [a2] at he'
          cases he'
          exact (qe e hf).then f (by simp)
        · rw [a2] at hd; cases hd
      · rw [a1]
        rw [a3] at hf
        refine ⟨fun e' he' => ?_, fun N' R3 H3 v' hd hn f3 aN' => ?_⟩
        · rw [a2] at he'; cases he'
        · exact ⟨R3, _, _, v', L2, rfl, f.trans f3, ⟨N', aN', a4 N' hn⟩, gl2 L2 a3, hf⟩
    · rintro σ H3 ⟨R3, x2, x3, v, L', rfl, f, hr', g', hf⟩
      rw [hcv, List.drop_of_length_le (Nat.le_refl _)] at hf
      have hf : foldL L cs = .inr L' := hf
      refine ⟨_, rfl, b, dx, _, rfl, f.rh _ _ (f.rr _ _ h1), rfl, _, rfl, _, _, rfl, ?_⟩
      have hl3 := f.kp _ _ h2 (by simp)
      refine ⟨_, rfl, b, CB K, dx, _, .ref l, rfl, f.rh _ _ (f.rr _ _ h1), T.clB, T.n_deeds, rfl, .inl ⟨rfl, _, SqL.of hl3⟩, _, rfl, _, rfl, by show 2 ≤ sizeLine; omega, fun t ht => ?_⟩
      obtain ⟨R4, f4, e4, m4⟩ := Fx.at1 (o := .tup [v, .ref p]) f.rh ht
      refine ⟨by show 2 ≤ sizeLine; omega, fun u hu' => ?_⟩
      obtain ⟨R5, f5, e5, m5⟩ := Fx.at1 (o := .tup [.str "change", .ref t]) f4.rh hu'
      have f6 := f.trans (f4.trans f5)
      have hb5 := hb.up f6 (by simp)
      have hl5 := f6.kp _ _ h2 (by simp)
      refine ⟨l, _, _, rfl, rfl, hl5, by have := h3.length; omega, ?_⟩
      exact q L' hf R5 _ v (f6.s0.put hb5.rl (.inl (by simp))) ((hr'.up m4).up m5) (hb5.put hl5 (d := .chg v) ⟨u, t, _, rfl, e5, m5 _ _ e4⟩ rfl)
end
end Ld
/-! Ga: defs that run where no guard stands (repr); repr of data. -/
namespace Ld
open PySem L2 PyProof.Rows
/-- a def's promise, where no guard stands -/
structure FnG (P : Program) (w : World) (K : PySem.W.Frag) (mg : Str → Option Value) (base : Heap) (CX : CXT) (k : Nat) (f : Addr) (fd : FuncData) (ps : List Str) (sp : Sp) : Prop where
  len : ∀ vs H Q E, sp vs H Q E → vs.length = ps.length
  run : ∀ (A : Around) (outer : List Env) (s : Shared) (H : Hp) (args : Args) (us : List Value) (vs : List V) (Q : VK) (E : XK), Room k A → A.guards = some [] → Env0 P w K mg base A outer s H → BindsTo s fd args (ps.zip us) → Vals vs us → sp vs H Q E →
    codeAny (model P w) A (.call (.ref f) args) (CR CX outer P w H s Q E) s
section
variable {P : Program} {w : World} {K : PySem.W.Frag} {mg : Str → Option Value} {base : Heap} {CX : CXT} {k : Nat} {f : Addr} {fd : FuncData} {ps : List Str} {sp : Sp}
theorem FnG.mono {j : Nat} (F : FnG P w K mg base CX j f fd ps sp) (h : j ≤ k) : FnG P w K mg base CX k f fd ps sp := ⟨F.len, fun A outer s H args us vs Q E hr => F.run A outer s H args us vs Q E (hr.mono h)⟩
theorem FunD.okG {N : List Str} {x qual : Str} {params : Arguments} {body : List Stmt} {scope : Scope} {dvs : List V} {kws : List (Str × V)} (F : FunD K x qual params body scope dvs kws f fd) (S : FnScope N ps scope) (len : ∀ vs H Q E, sp vs H Q E → vs.length = ps.length)
    (hbody : ∀ (cdv : Value) (A : Around) (outer : List Env) (s : Shared) (H : Hp) (vs : List V) (Q : VK) (E : XK), Room k (A.deeper (envOfC qual scope s.heap.objs.size f cdv)) → A.guards = some [] → sp vs H Q E →
      ∃ t, PSs (cxOf CX P w K mg base N qual scope f cdv A outer s H E) body t ∧ t { nx := fun _ H' => Q .non H', rt := Q } (start N vs) H) : FnG P w K mg base CX (k + 1) f fd ps sp := by
  obtain ⟨oc, od, dV, kV, doc, pm, an, cdv, ct, osl, rfl, lk, hcd, _, _⟩ := F.ex
  exact ⟨len, fun A outer s H args us vs Q E hr hg e0 hb r hsp => LamX.run_ofS lk hcd S hr e0 hb r (len _ _ _ _ hsp) fun hr' => hbody cdv A outer s H vs Q E hr' hg hsp⟩
end
section
variable {X : Cx} {CX : CXT} {k : Nat} {f : Addr} {fd : FuncData} {ps : List Str} {sp : Sp} {dvs : List V} {ds : List Value} {E : XK} {x : Str} {p pos : Pos} {e : Expr} {es : List Expr} {t : TA}
theorem run_fnG {pins : List (Addr × Obj)} {σ : St} {H : Hp} {s : Shared} {Q : VK} {us : List Value} {vs : List V} (hG : X.A.guards = some []) (F : FnG X.prog X.w X.K X.mg X.base CX k f fd ps sp) (hr : Room k X.A) (hb : Binds X.K fd ps ds) (hd : Vals dvs ds) (hx : Passes CX X E)
    (I : Inv X pins σ H s) (r : Vals vs us) (h : sp (vs ++ dvs) H Q E) : wpAny (model X.prog X.w) X.A (call (.ref f) us) (EP X pins σ Q) X.xe s := by
  have r2 : Vals (vs ++ dvs) (us ++ ds) := r.append hd
  have hl : (us ++ ds).length = ps.length := by rw [← r2.length]; exact F.len _ _ _ _ h
  refine wpAny_call (codeAny_mono (F.run X.A X.stack s H ⟨us, []⟩ (us ++ ds) (vs ++ dvs) Q E hr hG I.env0 (hb s us I.kIn hl) r2 h) fun r s' hq => ?_)
  cases r with
  | error e => exact hx pins σ H s e s' I hq
  | ok fl =>
    cases fl with
    | ret u => exact I.after hq
    | next => exact False.elim hq
    | brk => exact False.elim hq
    | cont => exact False.elim hq
theorem pe_callG (hG : X.A.guards = some []) (F : FnG X.prog X.w X.K X.mg X.base CX k f fd ps sp) (hr : Room k X.A) (hg : Gl X x) (hm : X.mg x = some (.ref f)) (hk : PySem.W.keepIn X.K (.ref f) = true) (hb : Binds X.K fd ps ds) (hd : Vals dvs ds) (hx : Passes CX X E)
    (ha : PA X (e :: es) t) (hdb : (x == ("__debug__" : Str)) = false := by decide) (he : starEach (e :: es) X.env = (false, eval e X.env) :: starEach es X.env := by rfl) (hpl : (backTo pos (starEach es X.env)).any (·.1) = false := by rfl) :
    PE X (.Call (.Name x p) (e :: es) [] pos) (tCall sp dvs E t) := by
  refine ⟨fun pins s σ H Q I h => ?_⟩
  refine wpAny_Call_Name_kw (ld_glob I hg hm ?_ hdb)
  refine PySem.W.callWith_K (h₀ := X.base) I.ok.mod.kin hk (thn (ha.run pos pins s σ H _ I h) fun us s1 ⟨vs, H1, I1, r, q⟩ => ⟨I1.kIn, ?_⟩) he hpl
  exact run_fnG hG F hr hb hd hx I1 r q
end
/-! ### repr -/
section
variable {P : Program} {w : World} {H R : Hp} {h : Heap}
theorem reads_keys : ∀ {es : List DictEntry} {vs : List (Key × Value)} {ks : List (Str × Int)}, KV (ks.map fun p => ((Sum.inr p.1 : Key), V.int p.2)) vs → Pairs (mixKind P w) es vs →
    ReadsAll h (es.map (·.key)) ((ks.map fun p => (PyData.str p.1, PyData.int p.2)).map (·.1)) [] ∧ ReadsAll h (es.map (·.val)) ((ks.map fun p => (PyData.str p.1, PyData.int p.2)).map (·.2)) []
  | [], [], [], _, _ => ⟨.nil, .nil⟩
  | e :: es, v :: vs, k :: ks, r, p => by
    cases r with
    | cons r1 r2 =>
      cases p with
      | cons p1 p2 p3 =>
        obtain ⟨h1, h2⟩ := reads_keys r2 p3
        obtain ⟨a1, a2⟩ := r1
        obtain ⟨t, e2⟩ := a2
        rw [← a1] at p1
        have p1 : keyIs (Sum.inr k.1 : Key) e.key = true := p1
        rcases keyIs_shape p1 with ⟨i, t', q1, q2⟩ | ⟨x, t', q1, q2⟩
        · cases q1
        · cases q1
          refine ⟨?_, ?_⟩
          · show ReadsAll h (e.key :: es.map (·.key)) (PyData.str k.1 :: _) []
            rw [q2]
            exact .cons (.str _ _) h1
          · show ReadsAll h (e.val :: es.map (·.val)) (PyData.int k.2 :: _) []
            rw [p2, e2]
            exact .cons (.int _ _) h2
mutual
theorem At.reads (ok : HOk P w H h) (k : Same R H) : ∀ (d : PyData) (v : V) (u : Value), At R v d → RelV v u → ∃ as, Reads h u d as ∧ ∀ b ∈ as, ∃ o, H b = some o
  | .none, _, _, a, r => by cases a; cases r; exact ⟨_, .none, by simp⟩
  | .bool b, _, _, a, r => by cases a; cases r; exact ⟨_, .bool b, by simp⟩
  | .int i, _, _, a, r => by cases a; obtain ⟨t, rfl⟩ := r; exact ⟨_, .int i t, by simp⟩
  | .str x, _, _, a, r => by cases a; obtain ⟨t, rfl⟩ := r; exact ⟨_, .str x t, by simp⟩
  | .list ds, _, _, a, r => by
    cases a with
    | lst e x =>
      cases r
      obtain ⟨_, its, n, rv, ho⟩ := ok _ _ (k _ _ e)
      obtain ⟨as, h1, h2⟩ := AtL.reads ok k ds _ its x rv
      refine ⟨_, .list ho rfl rfl (by simpa using h1), fun b hb => ?_⟩
      rcases List.mem_cons.mp hb with rfl | hb
      · exact ⟨_, k _ _ e⟩
      · exact h2 b hb
  | .tuple ds, _, _, a, r => by
    cases a with
    | tup e x =>
      cases r
      obtain ⟨_, its, rv, o, ho, hc, n, hd⟩ := ok _ _ (k _ _ e)
      obtain ⟨as, h1, h2⟩ := AtL.reads ok k ds _ its x rv
      exact ⟨_, .tuple ho hc hd (by simpa using h1), h2⟩
  | .dict ds, _, _, a, r => by
    cases a with
    | dic ks e =>
      cases r
      obtain ⟨_, _, vs, rv, o, es, ep, ho, hx, hd, _, pr, _⟩ := ok _ _ (k _ _ e)
      obtain ⟨h1, h2⟩ := reads_keys (h := h) rv pr
      refine ⟨_, .dict ho hx.1 hd h1 h2, fun b hb => ?_⟩
      simp at hb
      rw [hb]
      exact ⟨_, k _ _ e⟩
theorem AtL.reads (ok : HOk P w H h) (k : Same R H) : ∀ (ds : List PyData) (vs : List V) (us : List Value), AtL R vs ds → Vals vs us → ∃ as, ReadsAll h us ds as ∧ ∀ b ∈ as, ∃ o, H b = some o
  | [], _, _, a, r => by cases a; cases r; exact ⟨_, .nil, by simp⟩
  | d :: ds, _, _, a, r => by
    cases a with
    | cons x y =>
      cases r with
      | cons rx ry =>
        obtain ⟨as, h1, h2⟩ := At.reads ok k d _ _ x rx
        obtain ⟨bs, h3, h4⟩ := AtL.reads ok k ds _ _ y ry
        exact ⟨_, .cons h1 h3, fun b hb => (List.mem_append.mp hb).elim (h2 b) (h4 b)⟩
end
end
/-- data whose text can be made -/
structure OkR (d : PyData) : Prop where
  sh : d.showable = true
  dp : d.depth ≤ 60
  sz : d.shown.length ≤ sizeLine
def rRepr : List V → Hp → VK → Prop := fun xs H Q => ∃ (R : Hp) (v : V) (d : PyData), xs = [v] ∧ Same R H ∧ At R v d ∧ OkR d ∧ Q (.str d.shown) H
theorem call_reprD {X : Cx} {mg0 : Str → Option Value} (Z : Tz X.w X.K mg0) (hG : X.A.guards = some []) (hu : X.A.units + 65 < cLine) : CallR X (.builtin "repr") rRepr := by
  intro pins s σ H xs us Q I r h
  obtain ⟨R, v, d, rfl, k, hd, od, q⟩ := h
  obtain ⟨u, rfl, ru⟩ := vals1 r
  obtain ⟨as, hrd, hmem⟩ := At.reads I.hok k d v u hd ru
  have hsys : sysModules ∉ as := fun hm => by
    obtain ⟨o, e⟩ := hmem _ hm
    obtain ⟨ob, hob⟩ := Z.sys
    have := (I.bs _ _ (I.ok.mod.kin _ _ hob)).2
    rw [this] at e
    cases e
  cases hd with
  | non => cases ru; exact PySem.P.repr_of_none ⟨.str _, H, I.tok _, ⟨_, rfl⟩, q⟩
  | bl b => cases ru; exact PySem.P.repr_of_bool ⟨.str _, H, I.tok _, ⟨_, rfl⟩, q⟩
  | int i =>
    obtain ⟨t, rfl⟩ := ru
    exact PySem.P.repr_of_int (by have := od.sh; simpa [PyData.showable] using this) ⟨.str _, H, I.tok _, ⟨_, rfl⟩, q⟩
  | str x =>
    obtain ⟨t, rfl⟩ := ru
    exact PySem.P.repr_of_str ⟨.str _, H, I.tok _, ⟨_, rfl⟩, q⟩ (by have := od.sz; simpa [PyData.shown] using this)
  | lst e x =>
    cases ru
    exact repr_of_reads' hrd od.sh (fun _ => hsys) hG (by have := od.dp; omega) (fun _ _ e => e) (fun h' u tk hk => ⟨.str _, H, I.kept (t' := tk) hk, ⟨_, rfl⟩, q⟩) od.sz
  | tup e x =>
    cases ru
    exact repr_of_reads' hrd od.sh (fun _ => hsys) hG (by have := od.dp; omega) (fun _ _ e => e) (fun h' u tk hk => ⟨.str _, H, I.kept (t' := tk) hk, ⟨_, rfl⟩, q⟩) od.sz
  | dic ks e =>
    cases ru
    exact repr_of_reads' hrd od.sh (fun _ => hsys) hG (by have := od.dp; omega) (fun _ _ e => e) (fun h' u tk hk => ⟨.str _, H, I.kept (t' := tk) hk, ⟨_, rfl⟩, q⟩) od.sz
end Ld
/-! Gb: a comprehension over range where an exception is handled. -/
namespace Ld
open PySem L2 PyProof.Rows
theorem ok_pn {X : Cx} {l : List (Addr × Obj)} (k : X.Ok) : ({ X with pn := l } : Cx).Ok :=
  ⟨k.mod, k.kind, k.glob, k.blt, k.above, k.inj, k.has, k.cab, k.hd, k.frames, k.stk, k.exf, k.bs, k.bsz, k.noex, k.exfs, k.funs, k.frf⟩
/-- the exception is told besides -/
theorem inv_pn {X : Cx} {p : Addr × Obj} {σ : L2.St} {H : Hp} {s : Shared} (I : Inv X [] σ H s) (h : s.heap.get? p.1 = some p.2 ∧ H p.1 = none ∧ p.1 ≠ X.env.locals ∧ p.1 ∉ X.fs ∧ ∀ v, p.2.data ≠ .cell v) : Inv { X with pn := [p] } [] σ H s :=
  ⟨ok_pn I.ok, I.os, I.bare, I.base, I.loc, I.cell, I.free, I.freeC, fun q hq => by
    have e : q = p := by simpa using (show q ∈ [p] ++ ([] : List (Addr × Obj)) from hq)
    rw [e]
    exact h, I.hok, I.len⟩
theorem inv_unpn {X : Cx} {p : Addr × Obj} {s1 : Shared} {H1 : Hp} {scope : Scope} {ce : Env} {fp : List Addr} {σ : L2.St} {H : Hp} {s : Shared} (I : Inv { X.blk s1 H1 scope ce fp with pn := [p] } [] σ H s) : Inv (X.blk s1 H1 scope ce fp) [] σ H s :=
  ⟨ok_pn I.ok, I.os, I.bare, I.base, I.loc, I.cell, I.free, I.freeC, fun q hq => absurd (show q ∈ ([] : List (Addr × Obj)) ++ [] from hq) (by simp), I.hok, I.len⟩
theorem lc_coreH {X : Cx} {pins : List (Addr × Obj)} {s : Shared} {σ : L2.St} {H : Hp} {Q : VK} {elt tg iter : Expr} {ifs : List Expr} {scope : Scope} {own : List (Str × Nat)} {pos pos' : Pos} {wi : TI} {g : TG} {tt : TT} {te : TE} {use : Option (Value → Sem Unit)} {Qf : Value → Shared → Prop}
    (hc : L2H.HotC X) (hN : X.N.Nodup) (I : Inv X pins σ H s) (hi : L2H.PIH X tg iter wi) (ok : BlkOk X.N X.env.scope scope own)
    (hg : ∀ (s : Shared) (H : Hp) (C : Addr) (cl : List (Str × Addr)) (fp : List Addr), PG (X.blk s H scope (compEnvC scope cl C X.env) fp) tg g) (ht : ∀ (s : Shared) (H : Hp) (C : Addr) (cl : List (Str × Addr)) (fp : List Addr), PTs (X.blk s H scope (compEnvC scope cl C X.env) fp) ifs tt)
    (he : ∀ (s : Shared) (H : Hp) (C : Addr) (cl : List (Str × Addr)) (fp : List Addr), PE (X.blk s H scope (compEnvC scope cl C X.env) fp) elt te) (hs : ∀ x, foldedSetIterable iter X.env x = pure x)
    (h : tLc wi g tt te (own.map (·.2)) σ H Q)
    (hRR : ∀ D C s' m H', Inv X pins σ H' s' → Q (.ref D) H' → s'.heap.Ns C m → FpOk X pins H' C → compPost (model X.prog X.w) X.A X.xe use Qf (.ref D) C (.ok .next) s') :
    wpAny (model X.prog X.w) X.A (comprehension (.ListComp elt [⟨tg, iter, ifs, 0⟩] scope pos) scope X.env pos' (newList []) false (eval iter X.env) use) Qf X.xe s := by
  obtain ⟨p, hot, hpn⟩ := hc
  have hfree : ∀ y ∈ scope.names, y.2 = .free → ∃ c, X.env.cells.lookup y.1 = some c := fun y hy e => by
    rcases ok.free y hy e with k | k
    · exact I.ok.has _ (.inl k)
    · exact I.ok.has _ (.inr k)
  refine wpAny_comprehension_free (use := use) rfl hs (closure_ok hfree) ok.kind (fun y hy e => by rw [ok.uniq y hy, e])
    (thn (hi.run pins s σ H _ I h) fun xv s1 hx => thn hx fun itv s2 h2 => ?_)
  obtain ⟨it, fp, tn, J, H2, e, I2, T, st2, f2, q⟩ := h2
  subst e
  refine wpAny_newObj_type (newEnv_comp ?_) (by show 0 ≤ sizeLine; decide)
  generalize hD : s2.heap.objs.size = D
  have hDn : H2 D = none := I2.hok.fresh (Nat.le_of_eq hD)
  obtain ⟨W, ⟨m0, w0⟩, turn⟩ := q D hDn
  -- the new list
  generalize hs3 : ({ s2 with heap := s2.heap.push { cls := .type "list", data := .seq ([] : List Value).toArray } } : Shared) = s3
  have I3 : Inv X pins σ (upd H2 D (.lst [])) s3 := by
    rw [← hs3]
    refine I2.laid (t' := s2.toks) (fun b o e => Heap.get?_push_of_some _ e) (Nat.le_of_eq hD) ⟨Nat.zero_le _, [], 0, .nil, ?_⟩
    rw [← hD]
    exact Heap.get?_push_size _ rfl
  have h3 : s3.heap = s2.heap.push { cls := .type "list", data := .seq ([] : List Value).toArray } := by rw [← hs3]
  have sz : ∀ b ∈ fp, b < s2.heap.objs.size := fun b hb => by
    obtain ⟨o, e, _⟩ := T.obj _ _ st2 b hb
    exact Heap.lt_size e
  have f3 : ∀ b ∈ fp, FpOk X pins (upd H2 D (.lst [])) b ∧ b < s3.heap.objs.size := fun b hb => by
    have hlt := sz b hb
    refine ⟨⟨?_, (f2 b hb).2⟩, by rw [h3, Heap.size_push]; exact Nat.lt_succ_of_lt hlt⟩
    rw [upd_ne (by rw [← hD]; exact Nat.ne_of_lt hlt)]
    exact (f2 b hb).1
  have st3 : tn 0 s3.heap := T.keep _ _ _ st2 fun b _ o e => by rw [h3]; exact Heap.get?_push_of_some _ e
  have I4 := block_start I3 ok hN f3
  have pg := hg s3 (upd H2 D (.lst [])) s3.heap.objs.size (cellsFrom (s3.heap.objs.size + 1) scope.names (cloFrom X.env.cells scope.names [])) fp
  have pt := ht s3 (upd H2 D (.lst [])) s3.heap.objs.size (cellsFrom (s3.heap.objs.size + 1) scope.names (cloFrom X.env.cells scope.names [])) fp
  have pe := he s3 (upd H2 D (.lst [])) s3.heap.objs.size (cellsFrom (s3.heap.objs.size + 1) scope.names (cloFrom X.env.cells scope.names [])) fp
  show codeAny _ _ (.compStart (.ListComp elt [⟨tg, iter, ifs, 0⟩] scope pos) 0 (.ref it) (.ref D) (compEnvC scope (cellsFrom (s3.heap.objs.size + 1) scope.names (cloFrom X.env.cells scope.names [])) s3.heap.objs.size X.env)) (compPost (model X.prog X.w) X.A X.xe use Qf (.ref D) s3.heap.objs.size) { s3 with heap := pushCells (s3.heap.push { cls := .type "dict", data := .dict #[] }) scope.names }
  have nfp : ∀ b ∈ fp, (upd H2 D (.lst [])) b = none := fun b hb => (f3 b hb).1.1
  generalize hce : compEnvC scope (cellsFrom (s3.heap.objs.size + 1) scope.names (cloFrom X.env.cells scope.names [])) s3.heap.objs.size X.env = ce at I4 pg pt pe ⊢
  have cL : ce.locals = s3.heap.objs.size := by subst hce; rfl
  generalize hH3 : upd H2 D (.lst []) = H3 at I3 I4 pg pt pe w0 nfp f3
  generalize hs4 : ({ s3 with heap := pushCells (s3.heap.push { cls := .type "dict", data := .dict #[] }) scope.names } : Shared) = s4 at I4 ⊢
  have st4 : tn 0 s4.heap := T.keep _ _ _ st3 fun b _ o e => by rw [← hs4]; exact pushCells_keeps _ _ _ _ (Heap.get?_push_of_some _ e)
  have stat : ∀ {σ' : St} {H' : Hp} {s' : Shared}, Inv (X.blk s3 H3 scope ce fp) [] σ' H' s' → (∀ b ∈ fp, H' b = none) → ∀ b ∈ fp, FpOk (X.blk s3 H3 scope ce fp) [] H' b := fun {σ' H' s'} I' hn b hb =>
    ⟨hn b hb, (I'.ok.exf b hb).1, I'.ok.exfs b hb, .inl hb, fun x c e => (I'.ok.exf b hb).2 x c e, fun p hp => absurd (show p ∈ ([] : List (Addr × Obj)) ++ [] from hp) (by simp)⟩
  -- the exception that is handled stands still in the block
  have hpin := I3.pin p (List.mem_append_left _ hpn)
  have hpf : ∀ b ∈ fp, p.1 ≠ b := fun b hb => (f2 b hb).2.2.2.2.2 p (List.mem_append_left _ hpn)
  have hps : p.1 ∉ frs X.stack := fun hm => (List.mem_cons.mp (I3.stkSub p.1 hm)).elim hpin.2.2.1 hpin.2.2.2.1
  have hpx : p.1 ∉ fp := fun hm => hpf _ hm rfl
  have pinB : ∀ {σ' : L2.St} {H' : Hp} {s' : Shared}, Inv (X.blk s3 H3 scope ce fp) [] σ' H' s' → s'.heap.get? p.1 = some p.2 ∧ H' p.1 = none ∧ p.1 ≠ (X.blk s3 H3 scope ce fp).env.locals ∧ p.1 ∉ (X.blk s3 H3 scope ce fp).fs ∧ ∀ v, p.2.data ≠ .cell v := fun {σ' H' s'} I' =>
    ⟨I'.base.keep p.1 p.2 hpin.1 hpin.2.1 hps hpx, I'.base.free p.1 p.2 hpin.1 hpin.2.1 hpx, fun z => by
      have z' : p.1 = ce.locals := z
      rw [cL] at z'
      exact Nat.ne_of_lt (Heap.lt_size hpin.1) z', hps, hpin.2.2.2.2⟩
  have hotB : L2H.HotC { X.blk s3 H3 scope ce fp with pn := [p] } := ⟨p, hot, List.mem_singleton.mpr rfl⟩
  have statB : ∀ {H' : Hp} {b : Addr}, b ∈ fp → FpOk (X.blk s3 H3 scope ce fp) [] H' b → FpOk { X.blk s3 H3 scope ce fp with pn := [p] } [] H' b := fun {H' b} hb f => ⟨f.1, f.2.1, f.2.2.1, f.2.2.2.1, f.2.2.2.2.1, fun q hq => by
    have e : q = p := by simpa using (show q ∈ [p] ++ ([] : List (Addr × Obj)) from hq)
    rw [e]
    exact hpf b hb⟩
  have loop : codeAny (model X.prog X.w) X.A (.compLoop (.ListComp elt [⟨tg, iter, ifs, 0⟩] scope pos) 0 (.ref it) (.ref D) ce) (compPost (model X.prog X.w) X.A X.xe use Qf (.ref D) s3.heap.objs.size) s4 := by
    refine compLoop_any (fun n s' => ∃ i H', Inv (X.blk s3 H3 scope ce fp) [] (wipe σ (own.map (·.2))) H' s' ∧ tn i s'.heap ∧ (∀ b ∈ fp, H' b = none) ∧ W i n H') ?_ m0 ⟨0, H3, I4, st4, nfp, w0⟩
    rintro n s5 ⟨i, H5, I5, st5, n5, w5⟩
    rcases turn i n H5 w5 with ⟨stop, qq⟩ | ⟨go, Nx, hNx, step⟩
    · have td := T.done { X.blk s3 H3 scope ce fp with pn := [p] } rfl rfl rfl hotB i [] s5 _ H5 (fun _ _ => False) (inv_pn I5 (pinB I5)) (fun b hb => statB hb (stat I5 n5 b hb)) st5 stop
      refine thnF td fun r s6 ⟨hr, I6⟩ => ?_
      subst hr
      replace I6 : Inv (X.blk s3 H3 scope ce fp) [] _ H5 s6 := inv_unpn I6
      -- back in the def's context
      have I7 : Inv X pins σ H5 s6 := I3.call' (ch := fp) I6.os I6.base I6.hok I6.bare fun b hb => ⟨(f3 b hb).1.2.2.2.1, (f3 b hb).1.2.1, (f3 b hb).1.2.2.2.2.1, (f3 b hb).1.2.2.2.2.2⟩
      have nC : H5 s3.heap.objs.size = none := by
        have z : H5 ce.locals = none := I6.free
        rw [cL] at z
        exact z
      obtain ⟨m, hn, _⟩ := I6.loc
      have hn : s6.heap.Ns ce.locals m := hn
      rw [cL] at hn
      exact hRR D s3.heap.objs.size s6 m H5 I7 qq hn (I3.fpOk (Nat.le_refl _) nC)
    · have ti := T.item { X.blk s3 H3 scope ce fp with pn := [p] } rfl rfl rfl hotB i [] s5 _ H5 (fun _ _ => False) (inv_pn I5 (pinB I5)) (fun b hb => statB hb (stat I5 n5 b hb)) st5 go
      refine thnF ti fun r s6 ⟨u, hr, h6⟩ => ?_
      subst hr
      refine thnF h6 fun _ s7 ⟨x, H7, I7, r7, y7, st7, n7⟩ => ?_
      replace I7 : Inv (X.blk s3 H3 scope ce fp) [] _ H7 s7 := inv_unpn I7
      have I7' := I7.pinned (stat I7 n7) (T.obj _ _ st7)
      refine thnF (pg.run _ s7 _ H7 x u _ I7' r7 (step x H7 y7)) fun _ s8 ⟨σ8, H8, I8, hw8, q8⟩ => ?_
      refine thnF (pt.run _ s8 σ8 H8 _ I8 q8) fun b s9 ⟨H9, I9, q9⟩ => ?_
      -- the turn's end
      have fin : ∀ {s' : Shared} {H' : Hp}, Inv (X.blk s3 H3 scope ce fp) ([] ++ pinsAt fp s7.heap) σ8 H' s' → Nx H' → ∃ m, m < n ∧ ∃ i H', Inv (X.blk s3 H3 scope ce fp) [] (wipe σ (own.map (·.2))) H' s' ∧ tn i s'.heap ∧ (∀ b ∈ fp, H' b = none) ∧ W i m H' := fun {s' H'} I' nx => by
        obtain ⟨m', hm, w'⟩ := hNx H' nx
        have pin' : ∀ b ∈ fp, ∀ o, s7.heap.get? b = some o → s'.heap.get? b = some o ∧ H' b = none := fun b hb o e =>
          let z := I'.pin (b, o) (List.mem_append_right _ (List.mem_append_right _ (mem_pinsAt hb e)))
          ⟨z.1, z.2.1⟩
        have hl : (wipe σ (own.map (·.2))).length = σ8.length := by rw [← hw8, wipe_length]
        refine ⟨m', hm, i + 1, H', (I'.unpinned (pins := [])).weak hl (fun j v e => ?_), T.keep _ _ _ st7 fun b hb o e => (pin' b hb o e).1, fun b hb => ?_, w'⟩
        · rw [← hw8] at e
          exact (wipe_some e).1
        · obtain ⟨o, e, _⟩ := T.obj _ _ st7 b hb
          exact (pin' b hb o e).2
      cases b with
      | false =>
        simp only [Bool.false_eq_true, if_false] at q9 ⊢
        exact fin I9 q9
      | true =>
        simp only [if_true] at q9 ⊢
        refine thnF (pe.run _ s9 σ8 H9 _ I9 q9) fun z s10 ⟨yv, H10, I10, r10, acc, hD10, hz10, nx⟩ => ?_
        exact app_ok (X := X.blk s3 H3 scope ce fp) I10 hD10 hz10 r10 fun s11 I11 => fin I11 nx
  exact codeAny_compStart_list loop (T.self X.A 0 _ _ _ st4 loop)

/-- .. as a value -/
theorem pe_lcH {X : Cx} {elt tg iter : Expr} {ifs : List Expr} {scope : Scope} {own : List (Str × Nat)} {pos : Pos} {wi : TI} {g : TG} {tt : TT} {te : TE} (hc : L2H.HotC X) (hN : X.N.Nodup) (hi : L2H.PIH X tg iter wi) (ok : BlkOk X.N X.env.scope scope own)
    (hg : ∀ (s : Shared) (H : Hp) (C : Addr) (cl : List (Str × Addr)) (fp : List Addr), PG (X.blk s H scope (compEnvC scope cl C X.env) fp) tg g) (ht : ∀ (s : Shared) (H : Hp) (C : Addr) (cl : List (Str × Addr)) (fp : List Addr), PTs (X.blk s H scope (compEnvC scope cl C X.env) fp) ifs tt)
    (he : ∀ (s : Shared) (H : Hp) (C : Addr) (cl : List (Str × Addr)) (fp : List Addr), PE (X.blk s H scope (compEnvC scope cl C X.env) fp) elt te) (hs : ∀ x, foldedSetIterable iter X.env x = pure x := by intro _; rfl) :
    PE X (.ListComp elt [⟨tg, iter, ifs, 0⟩] scope pos) (tLc wi g tt te (own.map (·.2))) := by
  refine ⟨fun pins s σ H Q I h => ?_⟩
  rw [eval_ListComp]
  refine lc_coreH hc hN I hi ok hg ht he hs h fun D C s' m H' I' q hn f => ⟨m, hn, fun h'' sb => ?_⟩
  obtain ⟨f0, f1, f2, f3, f4, f5⟩ := f
  exact ⟨.ref D, H', I'.turned (t' := s'.toks) (fun b o hb e => (sb.2 b hb).trans e) f0 f1 f3 f4 f5, rfl, q⟩
end Ld
/-! Gc: within a def that is called while an exception is handled: isinstance of it, its fields; the def's own rule. -/
namespace PySem.W
open PySem PySem.Spec PySem.Calls PyProof.Rows
section
variable {prog : Program} {w : World} {A : Around} {E : Value → Shared → Prop} {s : Shared} {K : Frag} {x D : Addr} {ox : Obj}
theorem findObj_dataM {od : Option Obj} {C : Addr} {name : Str} {a g : Value} (hc : (clsIn K C).isSome = true) (ha : findIn K (.ref C) name = some (some a)) (hg : specialIn K a "__get__" = some (some g)) (ht : takesIn K a = some true) : findObj K C od name = some (.bind g a) := by
  obtain ⟨cd, hc⟩ := Option.isSome_iff_exists.mp hc
  unfold findObj
  rw [hc, Option.bind_some, ha, Option.bind_some]
  simp [hg, ht]
theorem kin_classF {od : Option Obj} {Q : Option Value → Shared → Prop} (hga : findIn K (.ref D) "__getattribute__" = some (some (.builtin "BaseException.__getattribute__"))) (hgt : findIn K (.ref D) "__getattr__" = some none) (hsub : subIn K (.ref D) (.type "BaseException") = some true)
    (hdct : hasDictIn K D = true) (ha : findIn K (.ref D) "__class__" = some (some (.builtin "object.__class__")))
    (hn : specialIn K (.builtin "object.__class__") "__get__" = some (some (.builtin "getset_descriptor.__get__"))) (htk : takesIn K (.builtin "object.__class__") = some true) (hm : mroIn K D (.type "object") = some true)
    (X : K.In s.heap) (I : InstAt s.heap x ox D od) (h : Q (some (.ref D)) { s with toks := s.toks + 1 }) : wpAny (model prog w) A (getAttr? (.ref x) "__class__") Q E s := by
  have hf : findObj K D od "__class__" = some (.bind (.builtin "getset_descriptor.__get__") (.builtin "object.__class__")) := findObj_dataM (by obtain ⟨cd, hc, _⟩ := any_some hdct; rw [hc]; rfl) ha hn htk
  obtain ⟨hp, g, d, t, os⟩ := s
  have L0 := I.type (M := model prog w)
  have L1 := looks_findIn (M := model prog w) X hga
  have L2 := looks_findIn (M := model prog w) X hgt
  have L3 := looks_find (M := model prog w) X I hf
  have sub : Looks (model prog w) hp (isInstance (.ref x) (.type "BaseException")) true := L0.andThen (looks_subIn X hsub)
  have hx0 : (false && onTheHeap (Value.builtin "BaseException.__getattribute__")) = false := rfl
  have hx2 : (Value.builtin "BaseException.__getattribute__" == Value.builtin "object.__getattribute__") = false := by decide +kernel
  have hx1 : (onTheHeap (Value.ref D) && Value.builtin "BaseException.__getattribute__" == Value.builtin "object.__getattribute__") = false := by rw [hx2]; rfl
  unfold getAttr? getAttrBy? getAttrBy
  refine wpAny_bind (wpAny_mkText (wpAny_bind (wpAny_attempt (wpAny_holding (wpAny_bind (L0.at (wpAny_bind (L1.at ?_))))))))
  show wpAny _ _ (if (onTheHeap (Value.ref D) && Value.builtin "BaseException.__getattribute__" == Value.builtin "object.__getattribute__") = true then _ else _) _ _ _
  rw [hx1, if_neg Bool.false_ne_true]
  unfold getAttrByItsOwn hookBefore
  refine wpAny_bind ?_
  rw [if_pos (show onTheHeap (Value.ref D) = true from rfl)]
  refine L2.at ?_
  refine wpAny_bind (wpAny_attempt (wpAny_holding ?_))
  unfold callGetattribute
  rw [hx0, if_neg Bool.false_ne_true]
  unfold boundAndCalled
  rw [PySem.F.excAttr_ValueError.ga.bind (.ref x)]
  refine wpAny_bind (wpAny_pure ?_)
  show wpAny _ _ (call (.builtin "BaseException.__getattribute__") [.ref x, .str "__class__" t]) _ _ _
  refine wpAny_call (codeAny_call_builtin PySem.F.excAttr_ValueError.ga.plain PySem.F.entry_bexc_ga ?_)
  refine @check_slot (model prog w) _ _ ⟨hp, g, d, t + 1, os⟩ "BaseException.__getattribute__" "BaseException" "__getattribute__" (.ref x) [.str "__class__" t] [] _ (by decide +kernel) (by decide +kernel) sub (PySem.F.args_bexc_ga (.ref x) (.str "__class__" t)) ?_
  unfold Builtin.«object.__getattribute__»
  refine wpAny_bind (wpAny_of_eq (a := ((Value.ref x : Value), [Value.str "__class__" t])) (by first | rfl | (simp only [slotArgs]; rfl)) ?_)
  refine wpAny_bind (wpAny_pure (wpAny_bind (L0.at (wpAny_bind (L3.at ?_)))))
  show wpAny _ _ (holding [Value.builtin "object.__class__"] (call (.builtin "getset_descriptor.__get__") [.builtin "object.__class__", .ref x, .ref D]) >>= ret) _ _ _
  refine wpAny_bind (wpAny_holding (wpAny_call (class_get (s := ⟨hp, g, d, t + 1, os⟩) (ox := ox) (od := od) X I hm ?_)))
  refine wpAny_pure ?_
  show wpAny _ _ (handedOut (.ref D)) _ _ _
  rw [handedOut_of (v := .ref D) rfl]
  first
    | exact wpAny_pure (wpAny_pure h)
    | exact wpAny_pure h
    | exact wpAny_pure (wpAny_bind (wpAny_pure (wpAny_pure h)))
theorem kitx_excF {od : Option Obj} (hga : findIn K (.ref D) "__getattribute__" = some (some (.builtin "BaseException.__getattribute__"))) (hgt : findIn K (.ref D) "__getattr__" = some none) (hsub : subIn K (.ref D) (.type "BaseException") = some true) (hdct : hasDictIn K D = true) (ha : findIn K (.ref D) "__class__" = some (some (.builtin "object.__class__")))
    (hn : specialIn K (.builtin "object.__class__") "__get__" = some (some (.builtin "getset_descriptor.__get__"))) (htk : takesIn K (.builtin "object.__class__") = some true) (hm : mroIn K D (.type "object") = some true) :
    KitX K (.ref x) (.ref D) (fun h => InstAt h x ox D od) where
  ty := fun _ _ _ I => I.type
  it := fun _ _ X _ => by
    obtain ⟨cdD, hcD, _⟩ := any_some hdct
    unfold clsIn at hcD
    split at hcD
    · rename_i c' d' cd' sl' ho
      intro A' Q' E' s' k q
      unfold isType loadHead
      exact wpAny_bind (wpAny_loadPart (k _ _ (X _ _ ho)) (wpAny_pure q))
    · cases hcD
  ne := fun h tp dd its n sl X htp => by
    obtain ⟨cdD, hcD, _⟩ := any_some hdct
    refine Bool.eq_false_iff.mpr fun q => ?_
    have e : D = tp := Value.ref.inj (beq_iff_eq.mp q)
    subst e
    unfold clsIn at hcD
    split at hcD
    · rename_i c' d' cd' sl' ho
      have z := (X _ _ ho).symm.trans htp
      cases z
    · cases hcD
  ca := fun X I k => kin_classF hga hgt hsub hdct ha hn htk hm X I k
end
end PySem.W
namespace Ld
open PySem L2 PyProof.Rows
theorem cls_get (K : PySem.W.Frag) : PySem.W.specialIn K (.builtin "object.__class__") "__get__" = some (some (.builtin "getset_descriptor.__get__")) := by kernel_rfl
theorem cls_takes (K : PySem.W.Frag) : PySem.W.takesIn K (.builtin "object.__class__") = some true := by kernel_rfl
theorem kd_kitx {K : PySem.W.Frag} {i : Nat} {D x : Addr} {ox : Obj} {od : Option Obj} (k : KindC K i D) : PySem.W.KitX K (.ref x) (.ref D) (fun h => PySem.W.InstAt h x ox D od) := by
  refine PySem.W.kitx_excF k.ga k.gt k.subB k.hd k.ca (cls_get K) (cls_takes K) ?_
  have h := k.subT "object"
  have e : (bmOf i).contains (.type "object") = true := by unfold bmOf; split <;> decide +kernel
  rw [e] at h
  exact h
theorem kd_kit {K : PySem.W.Frag} {i j : Nat} {C D : Addr} (k : KindC K i C) (kD : KindC K j D) : PySem.W.kitOne K (.ref C) (.ref D) = some (decide (D = C)) := by
  unfold PySem.W.kitOne
  by_cases h : C = D
  · rw [if_pos (by rw [h]; exact beq_self_eq_true _), decide_eq_true h.symm]
  · rw [if_neg (fun z => h (Value.ref.inj (eq_of_beq z)))]
    show (if ((PySem.W.clsIn K D).isSome && PySem.W.typeIn K (.ref D) == some (.type "type")) = true then _ else _) = _
    obtain ⟨cd, hc, _⟩ := kD.cd
    rw [hc, kD.ty]
    rw [if_pos (by rfl)]
    exact k.subR D
theorem kd_kitT {K : PySem.W.Frag} {i : Nat} {C : Addr} (k : KindC K i C) {t : String} (ht : PySem.W.kitMeta t = true) : PySem.W.kitOne K (.ref C) (.type t) = some ((bmOf i).contains (.type t)) := by
  unfold PySem.W.kitOne
  have : (Value.ref C == Value.type t) = false := by first | rfl | (exact beq_eq_false_iff_ne.mpr nofun)
  rw [this, if_neg Bool.false_ne_true]
  show (if PySem.W.kitMeta t = true then _ else _) = _
  rw [if_pos ht]
  exact k.subT t
/-- the exception's own dict is told -/
def XdAt (H : Hp) (d : Option Addr) : Prop := d = none ∨ ∃ dd fs, d = some dd ∧ H dd = some (.xd fs)
theorem inst_of {P : Program} {w : World} {H : Hp} {h : Heap} {p : Addr × Obj} {D : Addr} {d : Option Addr} (ok : HOk P w H h) (hg : h.get? p.1 = some p.2) (hz : L2N.Zn (.ref D) d p.2) (hf : ∃ vs, p.2.data = .fields vs) (hx : XdAt H d) : ∃ od, PySem.W.InstAt h p.1 p.2 D od := by
  obtain ⟨vs, hv⟩ := hf
  obtain ⟨a, oc, odd, oda, osl⟩ := p
  obtain ⟨h1, h2, h3⟩ := hz
  dsimp only at h1 h2 hv hg
  subst h1 h2 hv
  rcases hx with rfl | ⟨dd, fs, rfl, e⟩
  · exact ⟨none, hg, rfl, rfl, trivial⟩
  · obtain ⟨mA, hns, _⟩ := ok _ _ e
    obtain ⟨od, ho, _⟩ := lookIn_ns hns
    exact ⟨some od, hg, rfl, rfl, ho⟩
/-- isinstance(e, c), e the exception that is handled -/
def rIsH (K : PySem.W.Frag) (D a : Addr) (d : Option Addr) : List V → Hp → VK → Prop := fun xs H Q => ∃ (c : V) (cv : Value) (b : Bool), xs = [.ref a, c] ∧ XdAt H d ∧ (∀ u, RelV c u → u = cv) ∧ PySem.W.kitOne K (.ref D) cv = some b ∧ Q (.bl b) H
theorem call_isH {X : Cx} {i : Nat} {D : Addr} {p : Addr × Obj} {d : Option Addr} (hp : p ∈ X.pn) (k : KindC X.K i D) (hz : L2N.Zn (.ref D) d p.2) (hf : ∃ vs, p.2.data = .fields vs) : CallR X (.builtin "isinstance") (rIsH X.K D p.1 d) := by
  intro pins s σ H xs us Q I r h
  obtain ⟨c, cv, b, rfl, hx, hcv, e, q⟩ := h
  cases r with
  | cons rx rr =>
    cases rr with
    | cons rt rr =>
      cases rr
      cases rx
      have ec := hcv _ rt
      subst ec
      obtain ⟨hget, _⟩ := I.pin p (List.mem_append_left _ hp)
      obtain ⟨od, J⟩ := inst_of I.hok hget hz hf hx
      exact PySem.W.kia_one (kd_kitx k) I.kIn J e (fun z => nomatch z) fun tk => ⟨.bl b, H, I.kept (t' := tk) fun _ _ z => z, rfl, q⟩
/-- e.f -/
def tXh (K : PySem.W.Frag) (D a : Addr) (d : Option Addr) (f : Str) (te : TE) : TE := fun σ H Q => te σ H fun x H1 => x = .ref a ∧ PySem.W.findIn K (.ref D) f = some none ∧ ∃ (dd : Addr) (fs : List (Str × V)) (v : V), d = some dd ∧ H1 dd = some (.xd fs) ∧ fs.lookup f = some v ∧ Q v H1
theorem pe_xh {X : Cx} {i : Nat} {D : Addr} {p : Addr × Obj} {d : Option Addr} {e : Expr} {te : TE} {pos : Pos} {n : Str} (hp : p ∈ X.pn) (k : KindC X.K i D) (hz : L2N.Zn (.ref D) d p.2) (hf : ∃ vs, p.2.data = .fields vs) (he : PE X e te)
    (hb : attributeBase e n X.env (eval e X.env) = eval e X.env := by rfl) : PE X (.Attribute e n pos) (tXh X.K D p.1 d n te) := by
  refine ⟨fun pins s σ H Q I h => ?_⟩
  refine attr_of hb (thn (he.run pins s σ H _ I h) fun u s1 ⟨x, H1, I1, rx, ex, hno, dd, fs, v, ed, ea, l, q⟩ => ?_)
  subst ex
  obtain rfl : u = Value.ref p.1 := rx
  subst ed
  obtain ⟨ha, _⟩ := I1.pin p (List.mem_append_left _ hp)
  obtain ⟨vs, hd⟩ := hf
  have hx : ObjOk X.prog X.w H1 s1.heap dd (.xd fs) := I1.hok dd _ ea
  obtain ⟨mA, hns, hr⟩ := hx
  obtain ⟨od, ho, hl⟩ := lookIn_ns hns
  obtain ⟨u, hu, ru⟩ := RelO.some_of (v := v) (o := mA n) (by rw [← l]; exact hr n)
  have J : PySem.W.InstAt s1.heap p.1 p.2 D (some od) := ⟨ha, hz.1, by unfold PySem.W.notCls; rw [hd] <;> rfl, by rw [hz.2.1]; exact ho⟩
  exact PySem.HandSPX.exc_get I1.kIn J k.ga k.gt k.subB (PySem.W.findObj_own k.hd hno rfl (by rw [hl, hu])) (handed_of ru) ⟨v, H1, I1.tok _, ru, q⟩
/-! ### a def that is called there -/
structure FnF (P : Program) (w : World) (K : PySem.W.Frag) (mg : Str → Option Value) (base : Heap) (CX : CXT) (k : Nat) (f : Addr) (fd : FuncData) (ps : List Str) (sp : Addr × Obj → Sp) : Prop where
  len : ∀ p vs H Q E, sp p vs H Q E → vs.length = ps.length
  run : ∀ (A : Around) (outer : List Env) (s : Shared) (H : Hp) (args : Args) (us : List Value) (vs : List V) (Q : VK) (E : XK) (p : Addr × Obj), L2H.RoomH k A → A.guards = some [] → L2H.Hot1 A p → L2H.PinOk outer H s p → Env0 P w K mg base A outer s H → BindsTo s fd args (ps.zip us) → Vals vs us → sp p vs H Q E →
    codeAny (model P w) A (.call (.ref f) args) (CR CX outer P w H s Q E) s
theorem fn_ofF {CX : CXT} {P : Program} {w : World} {K : PySem.W.Frag} {mg : Str → Option Value} {base : Heap} {k : Nat} {f : Addr} {fd : FuncData} {x qual : Str} {params : Arguments} {body : List Stmt} {scope : Scope} {dvs : List V} {kws : List (Str × V)} {N ps : List Str} {sp : Addr × Obj → Sp}
    (F : FunD K x qual params body scope dvs kws f fd) (S : FnScope N ps scope) (len : ∀ p vs H Q E, sp p vs H Q E → vs.length = ps.length)
    (hbody : ∀ (cdv : Value) (A : Around) (outer : List Env) (s : Shared) (H : Hp) (vs : List V) (Q : VK) (E : XK) (p : Addr × Obj), L2H.Hot1 A p → A.guards = some [] → L2H.RoomH k (A.deeper (envOfC qual scope s.heap.objs.size f cdv)) → sp p vs H Q E →
      ∃ t, PSs (L2H.cxH CX P w K mg base N qual scope f cdv A outer s H E p) body t ∧ t { nx := fun _ H' => Q .non H', rt := Q } (L2.start N vs) H) :
    FnF P w K mg base CX (k + 1) f fd ps sp := by
  obtain ⟨oc, od, dV, kV, doc, pm, an, cdv, ct, osl, rfl, lk, hcd, _, _⟩ := F.ex
  refine ⟨len, fun A outer s H args us vs Q E p hr hg hot hpin e0 hb r hsp => ?_⟩
  have hl := len _ _ _ _ _ hsp
  have KX : K.In s.heap := e0.mod.kin.keeps fun b o e => (e0.bs b o e).1
  have lim : s.heap.NoLimit := e0.mod.nolimit.keeps fun b o e => (e0.bs b o e).1
  have hkind : ∀ y ∈ ps.zip us, scope.names.lookup y.1 = some .local ∨ (scope.names.lookup y.1 = some .cell ∧ ((cellsFrom (s.heap.objs.size + 1) scope.names []).lookup y.1).isSome = true) := fun ⟨n, v⟩ hy =>
    (S.par n (List.of_mem_zip hy).1).elim .inl fun q => .inr ⟨q, PySem.W.cellsFrom_some _ _ _ (.inl q)⟩
  refine codeAny_call_function hr.depth (KX _ _ lk) rfl S.co S.gen rfl (PySem.W.codeRec_of KX hcd) (hb _ _ _ _ ?_)
  refine wpAny_newFunctionEnv_cells S.kind hkind fun env he s1 z => ?_
  subst he
  refine ⟨lim.keeps z.toInCall.keep, codeAny_func ?_⟩
  obtain ⟨t, ht, hq⟩ := hbody cdv A outer s H vs Q E p hot hg (hr.deeper _) hsp
  have I : Inv (L2H.cxH CX P w K mg base N qual scope f cdv A outer s H E p) [] (L2.start N vs) H s1 := L2H.inv_startH S hpin e0 hl r z
  refine wpAny_mono (ht.run [] s1 (L2.start N vs) H _ I hq) (fun fl s' hs => ?_) fun e s' hs => hs
  cases fl with
  | ret u =>
    obtain ⟨v, σ', H', J, rv, q⟩ := hs
    exact ⟨v, H', J.os, J.bare, J.base, J.hok, rv, q⟩
  | next =>
    obtain ⟨σ', H', J, q⟩ := hs
    exact ⟨.non, H', J.os, J.bare, J.base, J.hok, rfl, q⟩
  | brk => exact hs.elim fun _ h => h.elim fun _ h => h.2.elim
  | cont => exact hs.elim fun _ h => h.elim fun _ h => h.2.elim
theorem run_fnF {X : Cx} {CX : CXT} {k : Nat} {f : Addr} {fd : FuncData} {ps : List Str} {sp : Addr × Obj → Sp} {E : XK} {pins : List (Addr × Obj)} {σ : St} {H : Hp} {s : Shared} {Q : VK} {us : List Value} {vs : List V} {p : Addr × Obj} (hG : X.A.guards = some []) (F : FnF X.prog X.w X.K X.mg X.base CX k f fd ps sp) (hr : L2H.RoomH k X.A) (hot : L2H.Hot1 X.A p) (hp : p ∈ X.pn) (hb : Binds X.K fd ps []) (hx : Passes CX X E)
    (I : Inv X pins σ H s) (r : Vals vs us) (h : sp p vs H Q E) : wpAny (model X.prog X.w) X.A (call (.ref f) us) (EP X pins σ Q) X.xe s := by
  have hl : us.length = ps.length := by rw [← r.length]; exact F.len _ _ _ _ _ h
  have b := hb s us I.kIn (by rw [List.append_nil]; exact hl)
  rw [List.append_nil] at b
  have P1 := I.pin p (List.mem_append_left _ hp)
  have hpin : L2H.PinOk X.stack H s p := ⟨P1.1, P1.2.1, fun hm => (List.mem_cons.mp (I.stkSub p.1 hm)).elim P1.2.2.1 P1.2.2.2.1, P1.2.2.2.2⟩
  refine wpAny_call (codeAny_mono (F.run X.A X.stack s H ⟨us, []⟩ us vs Q E p hr hG hot hpin I.env0 b r h) fun r s' hq => ?_)
  cases r with
  | error e => exact hx pins σ H s e s' I hq
  | ok fl =>
    cases fl with
    | ret u => exact I.after hq
    | next => exact False.elim hq
    | brk => exact False.elim hq
    | cont => exact False.elim hq
theorem pe_callF {X : Cx} {CX : CXT} {k : Nat} {f : Addr} {fd : FuncData} {ps : List Str} {sp : Addr × Obj → Sp} {E : XK} {x : Str} {q pos : Pos} {e : Expr} {es : List Expr} {t : TA} {p : Addr × Obj} (hG : X.A.guards = some []) (F : FnF X.prog X.w X.K X.mg X.base CX k f fd ps sp) (hr : L2H.RoomH k X.A) (hot : L2H.Hot1 X.A p) (hp : p ∈ X.pn) (hg : Gl X x) (hm : X.mg x = some (.ref f)) (hk : PySem.W.keepIn X.K (.ref f) = true) (hb : Binds X.K fd ps []) (hx : Passes CX X E)
    (ha : PA X (e :: es) t) (hdb : (x == ("__debug__" : Str)) = false := by decide) (he : starEach (e :: es) X.env = (false, eval e X.env) :: starEach es X.env := by rfl) (hpl : (backTo pos (starEach es X.env)).any (·.1) = false := by rfl) :
    PE X (.Call (.Name x q) (e :: es) [] pos) (fun σ H Q => t σ H fun vs H1 => sp p vs H1 Q E) := by
  refine ⟨fun pins s σ H Q I h => ?_⟩
  refine wpAny_Call_Name_kw (ld_glob I hg hm ?_ hdb)
  refine PySem.W.callWith_K (h₀ := X.base) I.ok.mod.kin hk (thn (ha.run pos pins s σ H _ I h) fun us s1 ⟨vs, H1, I1, r, q⟩ => ⟨I1.kIn, ?_⟩) he hpl
  exact run_fnF hG F hr hot hp hb hx I1 r q
end Ld
/-! Gd: fault. -/
namespace Ld
open PySem L2 PyProof.Rows
theorem bx_ValueError : bootBuiltins "ValueError" = some (.type "ValueError") := by decide +kernel
theorem bx_OverflowError : bootBuiltins "OverflowError" = some (.type "OverflowError") := by decide +kernel
theorem bx_KeyError : bootBuiltins "KeyError" = some (.type "KeyError") := by decide +kernel
theorem bx_IndexError : bootBuiltins "IndexError" = some (.type "IndexError") := by decide +kernel
theorem bx_RuntimeError : bootBuiltins "RuntimeError" = some (.type "RuntimeError") := by decide +kernel
/-- the place of an error's class -/
def Err.ki : Err → Nat
  | .node _ => 0
  | .edge _ => 1
  | .length _ => 2
  | .many _ => 4
  | .noNode _ => 5
  | .noEdge _ => 6
  | .range _ => 7
  | .noUndo => 8
  | .noRedo => 9
theorem Err.ki_c (e : Err) : e.c = kn e.ki := by cases e <;> rfl
theorem Err.ki_lt (e : Err) : e.ki < 11 := by cases e <;> (simp only [Err.ki]; omega)
def faultW : Err → Str
  | .node _ => "node"
  | .edge _ => "edge"
  | .length _ => "length"
  | .many _ => "many"
  | .noNode _ => "no node"
  | .noEdge _ => "no edge"
  | .range _ => "range"
  | .noUndo => "no undo"
  | .noRedo => "no redo"
def faultT (e : Err) : Str := match e.fd with
  | some (_, d) => d.shown
  | none => ""
def faultD (e : Err) : PyData := .tuple [.str (faultW e), .str (faultT e)]
/-- the field that the exception e bears -/
def FieldAt (R H : Hp) (e : Err) (d : Option Addr) : Prop := match e.fd with
  | some (f, dt) => ∃ dd v, d = some dd ∧ H dd = some (.xd [(f, v)]) ∧ At R v dt ∧ OkR dt
  | none => d = none
theorem FieldAt.xd {R H : Hp} {e : Err} {d : Option Addr} (h : FieldAt R H e d) : XdAt H d := by
  unfold FieldAt at h
  split at h
  · obtain ⟨dd, v, h1, h2, _⟩ := h
    exact .inr ⟨dd, _, h1, h2⟩
  · exact .inl h
theorem FieldAt.up {R H R' H' : Hp} {e : Err} {d : Option Addr} {M : List Addr} (h : FieldAt R H e d) (f : Fx M R H R' H') (hM : ∀ a ∈ M, d ≠ some a) : FieldAt R' H' e d := by
  unfold FieldAt at h ⊢
  split at h
  · rename_i q
    obtain ⟨dd, v, h1, h2, h3, h4⟩ := h
    exact ⟨dd, v, h1, f.kp _ _ h2 (fun z => hM _ z h1), h3.up f.rr, h4⟩
  · exact h
def spFault (K : PySem.W.Frag) : Addr × Obj → Sp := fun p vs H Q _ => ∃ (R : Hp) (e : Err) (d : Option Addr), vs = [.ref p.1] ∧ Same R H ∧ L2N.Zn (.ref (He.ga K e.c)) d p.2 ∧ (∃ us, p.2.data = .fields us) ∧ FieldAt R H e d ∧ ∀ (R' H' : Hp) (v : V), Fx [] R H R' H' → At R' v (faultD e) → Q v H'
section
variable {w : World} {K : PySem.W.Frag} {mg : Str → Option Value}
theorem Tz.isK (Z : Tz w K mg) {i : Nat} (hi : i < 11) (j : Nat) (hj : j < 11 := by decide) : PySem.W.kitOne K (.ref (He.ga K (kn i))) (.ref (He.ga K (kn j))) = some (decide (j = i)) := by
  rw [kd_kit (Z.kd i hi) (Z.kd j hj)]
  congr 1
  by_cases h : j = i
  · rw [h, decide_eq_true rfl, decide_eq_true rfl]
  · rw [decide_eq_false h, decide_eq_false (Z.neK hj hi h)]
theorem Tz.isU (Z : Tz w K mg) {i : Nat} (hi : i < 11) (j : Nat) {t : String} (ht : unders[j]? = some t := by rfl) (hm : PySem.W.kitMeta t = true := by decide +kernel) : PySem.W.kitOne K (.ref (He.ga K (kn i))) (.type t) = some (decide (underOf i = j)) := by
  rw [kd_kitT (Z.kd i hi) hm]
  congr 1
  have key : ∀ i, i < 11 → ∀ j, j < 5 → (bmOf i).contains (.type (unders.getD j "")) = decide (underOf i = j) := by decide +kernel
  have hj : j < 5 := (List.getElem?_eq_some_iff.mp ht).1
  have e := key i hi j hj
  rw [List.getD_eq_getElem?_getD, ht] at e
  exact e
theorem Tz.noF (Z : Tz w K mg) {e : Err} {f : Str} {d : PyData} (h : e.fd = some (f, d)) : PySem.W.findIn K (.ref (He.ga K e.c)) f = some none := by
  have key : ∀ {r : XRow}, xB K r = true → PySem.W.findIn K (.ref (He.ga K r.c)) r.f = some none := fun {r} q => by
    unfold xB at q
    obtain ⟨_, q⟩ := He.ba q
    obtain ⟨_, q⟩ := He.ba q
    obtain ⟨_, q⟩ := He.ba q
    obtain ⟨_, q⟩ := He.ba q
    obtain ⟨_, q⟩ := He.ba q
    obtain ⟨h6, q⟩ := He.ba q
    exact He.eqO_ok h6
  cases e <;> simp only [Err.fd, Option.some.injEq, Prod.mk.injEq] at h
  · obtain ⟨rfl, _⟩ := h; exact key (r := Ld.x_InvalidNode) (Z.xb 0)
  · obtain ⟨rfl, _⟩ := h; exact key (r := Ld.x_InvalidEdge) (Z.xb 1)
  · obtain ⟨rfl, _⟩ := h; exact key (r := Ld.x_InvalidLength) (Z.xb 2)
  · obtain ⟨rfl, _⟩ := h; exact key (r := Ld.x_TooMany) (Z.xb 6)
  · obtain ⟨rfl, _⟩ := h; exact key (r := Ld.x_UnknownNode) (Z.xb 3)
  · obtain ⟨rfl, _⟩ := h; exact key (r := Ld.x_UnknownEdge) (Z.xb 4)
  · obtain ⟨rfl, _⟩ := h; exact key (r := Ld.x_OutOfRange) (Z.xb 5)
  · cases h
  · cases h
end
/-- l.count(y), flat values -/
def rCountB (K : PySem.W.Frag) : V → List V → Hp → VK → Prop := fun x xs H Q => ∃ (a : Addr) (ys : List V) (y : V), x = V.ref a ∧ xs = [y] ∧ SqL K H a ys ∧ flatV y = true ∧ ys.all flatV = true ∧ Q (.int (ys.countP fun z => eqV z y : Nat)) H
theorem countP_vals {ys : List V} {us : List Value} {y : V} (r : Vals ys us) (f : ys.all flatV = true) : us.countP (eqU y) = ys.countP fun z => eqV z y := by
  induction r with
  | nil => rfl
  | cons a b ih =>
    rw [List.all_cons, Bool.and_eq_true] at f
    rw [List.countP_cons, List.countP_cons, ih f.2, eqU_of a f.1]
theorem mt_countB {X : Cx} : MtR X "list.count" (rCountB X.K) := by
  intro pins s σ H x xs v us Q I rx rxs h
  obtain ⟨a, ys, y, rfl, rfl, hs, fy, fys, q⟩ := h
  cases rx
  cases rxs with
  | cons ry rt =>
    cases rt
    rename_i uy
    obtain ⟨its, rv, ⟨⟨cls, dd, data, sl⟩, n, ho, hc, hdn, hd⟩, hlen⟩ := I.list hs
    simp only at hc hd
    subst hc hd
    refine call_meets PySem.F.slot_list_count ⟨_, ho, rfl⟩ PySem.F.entry_list_count (PySem.F.args_list_count_2 _ _)
      (SeqAt.list_countAt a its.toArray n dd sl uy (eqU y)) ⟨ho, fun u' hu' => mem_eqAt ry fy rv fys u' (by simpa using hu'), ?_⟩
    refine ⟨.int _, H, I.tok _, ⟨s.toks, ?_⟩, q⟩
    show Value.int ((its.toArray.toList.countP (eqU y) : Nat) : Int) s.toks = Value.int _ s.toks
    rw [show its.toArray.toList = its by simp, countP_vals rv fys]
theorem xd_new {H : Hp} {d : Option Addr} {p : Addr} {o : HO} (h : XdAt H d) (hp : H p = none) : XdAt (upd H p o) d := by
  rcases h with h | ⟨dd, fs, h1, h2⟩
  · exact .inl h
  · exact .inr ⟨dd, fs, h1, by rw [upd_ne (ne_of_none h2 hp)]; exact h2⟩
/-- the kinds that e stands under -/
def kbA (i : Nat) : List V := [.bl (decide (0 = i)), .bl (decide (1 = i)), .bl (decide (2 = i))]
def kbB (i : Nat) : List V := [.bl (decide (3 = i)), .bl (decide (4 = i)), .bl (decide (5 = i))]
def kbC (i : Nat) : List V := [.bl (decide (6 = i)), .bl (decide (7 = i))]
def kbD (i : Nat) : List V := [.bl (decide (8 = i)), .bl (decide (9 = i)), .bl (decide (10 = i))]
def kbs (i : Nat) : List V := kbA i ++ kbB i ++ kbC i ++ kbD i
def ubs (i : Nat) : List V := [.bl (decide (underOf i = 0)), .bl (decide (underOf i = 1)), .bl (decide (underOf i = 2))] ++ [.bl (decide (underOf i = 3)), .bl (decide (underOf i = 4))]
theorem kbs_flat (i : Nat) : (kbs i).all flatV = true := rfl
theorem kbs_at (i : Nat) (hi : i < 11) : (kbs i)[i]? = some (.bl true) := match i, hi with
  | 0, _ | 1, _ | 2, _ | 3, _ | 4, _ | 5, _ | 6, _ | 7, _ | 8, _ | 9, _ | 10, _ => rfl
theorem kbs_no (i : Nat) (hi : i < 11) (m : Nat) (z : V) (hm : m < i) (h : (kbs i)[m]? = some z) : eqV z (.bl true) = false := by
  have key : ∀ i < 11, ∀ m < i, (match (kbs i)[m]? with | some z => eqV z (.bl true) | none => false) = false := by decide +kernel
  have e := key i hi m hm
  rw [h] at e
  exact e
theorem kbs_count (i : Nat) (hi : i < 11) : ((kbs i).countP fun z => eqV z (.bl true)) = 1 := match i, hi with
  | 0, _ | 1, _ | 2, _ | 3, _ | 4, _ | 5, _ | 6, _ | 7, _ | 8, _ | 9, _ | 10, _ => rfl
def w8 : List V := [.str "node", .str "edge", .str "length", .str "change", .str "many", .str "no node", .str "no edge", .str "range"]
def w3 : List V := [.str "no undo", .str "no redo", .str "in trial"]
def uTab : List Int := [0, 0, 0, 0, 1, 2, 2, 3, 4, 4, 4]
theorem uTab_at (i : Nat) (hi : i < 11) : (uTab.map V.int)[i]? = some (.int (underOf i)) := match i, hi with
  | 0, _ | 1, _ | 2, _ | 3, _ | 4, _ | 5, _ | 6, _ | 7, _ | 8, _ | 9, _ | 10, _ => rfl
theorem ubs_at (i j : Nat) (hj : j < 5) : (ubs i)[j]? = some (.bl (decide (underOf i = j))) := match j, hj with
  | 0, _ | 1, _ | 2, _ | 3, _ | 4, _ => rfl
theorem under_lt (i : Nat) : underOf i < 5 := by unfold underOf; split <;> omega
section
variable {P : Program} {w : World} {K : PySem.W.Frag} {mg : Str → Option Value} {base : Heap}
theorem ok_lfault (PF : PP P) (Z : Tz w K mg) : FnF P w K mg base CX0 1 (a_lfault K) (f_lfault K) P_lfault (spFault K) := by
  have T := Z.t
  refine fn_ofF T.d_lfault sc_lfault (fun p vs H Q E h => by obtain ⟨_, _, _, rfl, _⟩ := h; rfl) (fun cdv A outer s H vs Q E p hot hG hr h => ?_)
  have hu2 : (A.deeper (envOfC "_law_fault" (defScope st_lfault) s.heap.objs.size (a_lfault K) cdv)).units + 64 < cLine := by have := hr.un; omega
  have hu3 : (A.deeper (envOfC "_law_fault" (defScope st_lfault) s.heap.objs.size (a_lfault K) cdv)).units + 65 < cLine := by have := hr.un; omega
  have nd := sc_lfault.nd
  obtain ⟨R, e, d, rfl, k, hz, hf, hx, q⟩ := h
  have hi := e.ki_lt
  have kd := Z.kd e.ki hi
  have hz0 := hz
  rw [e.ki_c] at hz
  have hp : p ∈ (L2H.cxH CX0 P w K mg base N_lfault "_law_fault" (defScope st_lfault) (a_lfault K) cdv A outer s H E p).pn := List.mem_singleton.mpr rfl
  have hotC : L2H.HotC (L2H.cxH CX0 P w K mg base N_lfault "_law_fault" (defScope st_lfault) (a_lfault K) cdv A outer s H E p) := ⟨p, hot, hp⟩
  refine ⟨_, (pss_cons (ps_set (i := 1) nd rfl (Or.inl rfl) (pe_lst (pa_cons (pe_callB (call_isH hp kd hz hf) (by rfl) T.f_isinstance boot_isinstance (pa_cons (pv 0) (pa_cons (pe_glob (v := .ref _) (by rfl) T.g_InvalidNode rfl) pa_nil))) (pa_cons (pe_callB (call_isH hp kd hz hf) (by rfl) T.f_isinstance boot_isinstance (pa_cons (pv 0) (pa_cons (pe_glob (v := .ref _) (by rfl) T.g_InvalidEdge rfl) pa_nil))) (pa_cons (pe_callB (call_isH hp kd hz hf) (by rfl) T.f_isinstance boot_isinstance (pa_cons (pv 0) (pa_cons (pe_glob (v := .ref _) (by rfl) T.g_InvalidLength rfl) pa_nil))) pa_nil)))))
    (pss_cons (ps_set (i := 1) nd rfl (Or.inl rfl) (pe_op op_cat (pv 1) (pe_lst (pa_cons (pe_callB (call_isH hp kd hz hf) (by rfl) T.f_isinstance boot_isinstance (pa_cons (pv 0) (pa_cons (pe_glob (v := .ref _) (by rfl) T.g_InvalidChange rfl) pa_nil))) (pa_cons (pe_callB (call_isH hp kd hz hf) (by rfl) T.f_isinstance boot_isinstance (pa_cons (pv 0) (pa_cons (pe_glob (v := .ref _) (by rfl) T.g_TooMany rfl) pa_nil))) (pa_cons (pe_callB (call_isH hp kd hz hf) (by rfl) T.f_isinstance boot_isinstance (pa_cons (pv 0) (pa_cons (pe_glob (v := .ref _) (by rfl) T.g_UnknownNode rfl) pa_nil))) pa_nil))))))
    (pss_cons (ps_set (i := 1) nd rfl (Or.inl rfl) (pe_op op_cat (pv 1) (pe_lst (pa_cons (pe_callB (call_isH hp kd hz hf) (by rfl) T.f_isinstance boot_isinstance (pa_cons (pv 0) (pa_cons (pe_glob (v := .ref _) (by rfl) T.g_UnknownEdge rfl) pa_nil))) (pa_cons (pe_callB (call_isH hp kd hz hf) (by rfl) T.f_isinstance boot_isinstance (pa_cons (pv 0) (pa_cons (pe_glob (v := .ref _) (by rfl) T.g_OutOfRange rfl) pa_nil))) pa_nil)))))
    (pss_cons (ps_set (i := 1) nd rfl (Or.inl rfl) (pe_op op_cat (pv 1) (pe_lst (pa_cons (pe_callB (call_isH hp kd hz hf) (by rfl) T.f_isinstance boot_isinstance (pa_cons (pv 0) (pa_cons (pe_glob (v := .ref _) (by rfl) T.g_NothingToUndo rfl) pa_nil))) (pa_cons (pe_callB (call_isH hp kd hz hf) (by rfl) T.f_isinstance boot_isinstance (pa_cons (pv 0) (pa_cons (pe_glob (v := .ref _) (by rfl) T.g_NothingToRedo rfl) pa_nil))) (pa_cons (pe_callB (call_isH hp kd hz hf) (by rfl) T.f_isinstance boot_isinstance (pa_cons (pv 0) (pa_cons (pe_glob (v := .ref _) (by rfl) T.g_InTrial rfl) pa_nil))) pa_nil))))))
    (pss_cons (ps_set (i := 2) nd rfl (Or.inr rfl) (pe_lst (pa_cons (pe_callB (call_isH hp kd hz hf) (by rfl) T.f_isinstance boot_isinstance (pa_cons (pv 0) (pa_cons (pe_bltn (v := .ty "ValueError") (by rfl) T.f_ValueError bx_ValueError rfl) pa_nil))) (pa_cons (pe_callB (call_isH hp kd hz hf) (by rfl) T.f_isinstance boot_isinstance (pa_cons (pv 0) (pa_cons (pe_bltn (v := .ty "OverflowError") (by rfl) T.f_OverflowError bx_OverflowError rfl) pa_nil))) (pa_cons (pe_callB (call_isH hp kd hz hf) (by rfl) T.f_isinstance boot_isinstance (pa_cons (pv 0) (pa_cons (pe_bltn (v := .ty "KeyError") (by rfl) T.f_KeyError bx_KeyError rfl) pa_nil))) pa_nil)))))
    (pss_cons (ps_set (i := 2) nd rfl (Or.inr rfl) (pe_op op_cat (pv 2) (pe_lst (pa_cons (pe_callB (call_isH hp kd hz hf) (by rfl) T.f_isinstance boot_isinstance (pa_cons (pv 0) (pa_cons (pe_bltn (v := .ty "IndexError") (by rfl) T.f_IndexError bx_IndexError rfl) pa_nil))) (pa_cons (pe_callB (call_isH hp kd hz hf) (by rfl) T.f_isinstance boot_isinstance (pa_cons (pv 0) (pa_cons (pe_bltn (v := .ty "RuntimeError") (by rfl) T.f_RuntimeError bx_RuntimeError rfl) pa_nil))) pa_nil)))))
    (pss_cons (ps_set (i := 3) nd rfl (Or.inl rfl) (pe_bm PySem.F.plainAttrs_list PySem.F.slot_list_index PySem.F.type_list_index mt_index (pv 1) (pa_cons pe_bl pa_nil)))
    (pss_cons (ps_if (PW.pt (pw_or (pt_cmpR op_ne (pe_bm PySem.F.plainAttrs_list PySem.F.slot_list_count PySem.F.type_list_count mt_countB (pv 1) (pa_cons pe_bl pa_nil)) pe_int (nomark _)) (pw_or1 (pt_cmpR (op_neD hu2) (pe_lcH (own := [("_law_k", 5)]) (g := (gName 5)) hotC nd (L2H.pi_range1H (by rfl) T.f_range (pa_cons pe_int pa_nil)) (blkOk_by (N := N_lfault) (sc := defScope st_lfault) (by decide +kernel)) (fun _ _ _ _ _ => (pg_name (i := 5) nd rfl (Or.inl rfl))) (fun _ _ _ _ _ => (pts_one (pt_val (pe_ix (show IxR _ (rIxL K) from ix_list) (pv 2) (pv 5) (fun _ _ => rfl))))) (fun _ _ _ _ _ => (pv 5))) (pe_lst (pa_cons (pe_ix ix_list (pe_lst (pa_cons pe_int (pa_cons pe_int (pa_cons pe_int (pa_cons pe_int (pa_cons pe_int (pa_cons pe_int (pa_cons pe_int (pa_cons pe_int (pa_cons pe_int (pa_cons pe_int (pa_cons pe_int pa_nil)))))))))))) (pv 3) (fun _ _ => rfl)) pa_nil)) (nomark _)))))
      (pss_one (ps_ret (pe_tup (pa_cons pe_str (pa_cons (pe_callB (call_reprD Z hG hu3) (by rfl) T.f_repr boot_repr (pa_cons (pv 1) pa_nil)) pa_nil)))))
      pss_nil)
    (pss_cons (ps_if (pt_cmpR op_gt (pv 3) pe_int (nomark _))
      (pss_one (ps_ret (pe_tup (pa_cons (pe_ix ix_list (pe_lst (pa_cons pe_str (pa_cons pe_str (pa_cons pe_str pa_nil)))) (pe_op op_sub (pv 3) pe_int) (fun _ _ => rfl)) (pa_cons pe_str pa_nil)))))
      pss_nil)
    (pss_cons (ps_set (i := 4) nd rfl (Or.inl rfl) (pe_ifExp (pt_cmpR op_eq (pv 3) pe_int (nomark _)) (pe_xh hp kd hz hf (pv 0)) pe_non))
    (pss_cons (ps_if (pt_cmpR op_ne (pv 3) pe_int (nomark _))
      (pss_one (ps_set (i := 4) nd rfl (Or.inl rfl) (pe_ifExp (pt_cmpR op_eq (pv 3) pe_int (nomark _)) (pe_xh hp kd hz hf (pv 0)) (pe_xh hp kd hz hf (pv 0)))))
      pss_nil)
    (pss_one (ps_ret (pe_tup (pa_cons (pe_ix ix_list (pe_lst (pa_cons pe_str (pa_cons pe_str (pa_cons pe_str (pa_cons pe_str (pa_cons pe_str (pa_cons pe_str (pa_cons pe_str (pa_cons pe_str pa_nil))))))))) (pv 3) (fun _ _ => rfl)) (pa_cons (pe_callB (call_reprD Z hG hu3) (by rfl) T.f_repr boot_repr (pa_cons (pv 4) pa_nil)) pa_nil)))))))))))))))), ?_⟩
  have hxd := hx.xd
  have hsz := sizeLine_eq
  refine ⟨_, rfl, .ref (He.ga K "InvalidNode"), _, _, rfl, hxd, (fun _ h => h), Z.isK hi 0, _, rfl, .ref (He.ga K "InvalidEdge"), _, _, rfl, hxd, (fun _ h => h), Z.isK hi 1, _, rfl, .ref (He.ga K "InvalidLength"), _, _, rfl, hxd, (fun _ h => h), Z.isK hi 2, by show 3 ≤ sizeLine; omega, fun a1 h1 => ?_⟩
  have f1 : Fx [] R H R (upd H a1 (.lst (kbA e.ki))) := (Fx.refl k).newH h1
  have e1 : upd H a1 (.lst (kbA e.ki)) a1 = some (.lst (kbA e.ki)) := upd_same
  show tSeq _ _ _ _ (upd H a1 (.lst (kbA e.ki)))
  generalize upd H a1 (.lst (kbA e.ki)) = H1 at f1 e1 ⊢
  have x1 := (hx.up f1 (by simp)).xd
  refine ⟨_, rfl, _, rfl, .ref (He.ga K "InvalidChange"), _, _, rfl, x1, (fun _ h => h), Z.isK hi 3, _, rfl, .ref (He.ga K "TooMany"), _, _, rfl, x1, (fun _ h => h), Z.isK hi 4, _, rfl, .ref (He.ga K "UnknownNode"), _, _, rfl, x1, (fun _ h => h), Z.isK hi 5, by show 3 ≤ sizeLine; omega, fun a2 h2 => ?_⟩
  have f2 : Fx [] R H R (upd H1 a2 (.lst (kbB e.ki))) := f1.newH h2
  have e2 : upd H1 a2 (.lst (kbB e.ki)) a2 = some (.lst (kbB e.ki)) := upd_same
  have e1' : upd H1 a2 (.lst (kbB e.ki)) a1 = some (.lst (kbA e.ki)) := by rw [upd_ne (ne_of_none e1 h2)]; exact e1
  refine ⟨a1, a2, kbA e.ki, kbB e.ki, rfl, rfl, e1', e2, by show 6 ≤ sizeLine; omega, fun a3 h3 => ?_⟩
  have f3 : Fx [] R H R (upd (upd H1 a2 (.lst (kbB e.ki))) a3 (.lst (kbA e.ki ++ kbB e.ki))) := f2.newH h3
  have e3 : upd (upd H1 a2 (.lst (kbB e.ki))) a3 (.lst (kbA e.ki ++ kbB e.ki)) a3 = some (.lst (kbA e.ki ++ kbB e.ki)) := upd_same
  show tSeq _ _ _ _ (upd (upd H1 a2 (.lst (kbB e.ki))) a3 (.lst (kbA e.ki ++ kbB e.ki)))
  generalize upd (upd H1 a2 (.lst (kbB e.ki))) a3 (.lst (kbA e.ki ++ kbB e.ki)) = H3 at f3 e3 ⊢
  have x3 := (hx.up f3 (by simp)).xd
  refine ⟨_, rfl, _, rfl, .ref (He.ga K "UnknownEdge"), _, _, rfl, x3, (fun _ h => h), Z.isK hi 6, _, rfl, .ref (He.ga K "OutOfRange"), _, _, rfl, x3, (fun _ h => h), Z.isK hi 7, by show 2 ≤ sizeLine; omega, fun a4 h4 => ?_⟩
  have f4 : Fx [] R H R (upd H3 a4 (.lst (kbC e.ki))) := f3.newH h4
  have e3' : upd H3 a4 (.lst (kbC e.ki)) a3 = some (.lst (kbA e.ki ++ kbB e.ki)) := by rw [upd_ne (ne_of_none e3 h4)]; exact e3
  refine ⟨a3, a4, kbA e.ki ++ kbB e.ki, kbC e.ki, rfl, rfl, e3', upd_same, by show 8 ≤ sizeLine; omega, fun a5 h5 => ?_⟩
  have f5 : Fx [] R H R (upd (upd H3 a4 (.lst (kbC e.ki))) a5 (.lst (kbA e.ki ++ kbB e.ki ++ kbC e.ki))) := f4.newH h5
  have e5 : upd (upd H3 a4 (.lst (kbC e.ki))) a5 (.lst (kbA e.ki ++ kbB e.ki ++ kbC e.ki)) a5 = some (.lst (kbA e.ki ++ kbB e.ki ++ kbC e.ki)) := upd_same
  show tSeq _ _ _ _ (upd (upd H3 a4 (.lst (kbC e.ki))) a5 (.lst (kbA e.ki ++ kbB e.ki ++ kbC e.ki)))
  generalize upd (upd H3 a4 (.lst (kbC e.ki))) a5 (.lst (kbA e.ki ++ kbB e.ki ++ kbC e.ki)) = H5 at f5 e5 ⊢
  have x5 := (hx.up f5 (by simp)).xd
  refine ⟨_, rfl, _, rfl, .ref (He.ga K "NothingToUndo"), _, _, rfl, x5, (fun _ h => h), Z.isK hi 8, _, rfl, .ref (He.ga K "NothingToRedo"), _, _, rfl, x5, (fun _ h => h), Z.isK hi 9, _, rfl, .ref (He.ga K "InTrial"), _, _, rfl, x5, (fun _ h => h), Z.isK hi 10, by show 3 ≤ sizeLine; omega, fun a6 h6 => ?_⟩
  have f6 : Fx [] R H R (upd H5 a6 (.lst (kbD e.ki))) := f5.newH h6
  have e5' : upd H5 a6 (.lst (kbD e.ki)) a5 = some (.lst (kbA e.ki ++ kbB e.ki ++ kbC e.ki)) := by rw [upd_ne (ne_of_none e5 h6)]; exact e5
  refine ⟨a5, a6, kbA e.ki ++ kbB e.ki ++ kbC e.ki, kbD e.ki, rfl, rfl, e5', upd_same, by show 11 ≤ sizeLine; omega, fun a7 h7 => ?_⟩
  have f7 : Fx [] R H R (upd (upd H5 a6 (.lst (kbD e.ki))) a7 (.lst (kbs e.ki))) := f6.newH h7
  have e7 : upd (upd H5 a6 (.lst (kbD e.ki))) a7 (.lst (kbs e.ki)) a7 = some (.lst (kbs e.ki)) := upd_same
  show tSeq _ _ _ _ (upd (upd H5 a6 (.lst (kbD e.ki))) a7 (.lst (kbs e.ki)))
  generalize upd (upd H5 a6 (.lst (kbD e.ki))) a7 (.lst (kbs e.ki)) = H7 at f7 e7 ⊢
  have x7 := (hx.up f7 (by simp)).xd
  -- under
  refine ⟨_, rfl, .ty "ValueError", _, _, rfl, x7, (fun _ h => h), Z.isU hi 0, _, rfl, .ty "OverflowError", _, _, rfl, x7, (fun _ h => h), Z.isU hi 1, _, rfl, .ty "KeyError", _, _, rfl, x7, (fun _ h => h), Z.isU hi 2, by show 3 ≤ sizeLine; omega, fun b1 g1 => ?_⟩
  have f8 : Fx [] R H R (upd H7 b1 (.lst [.bl (decide (underOf e.ki = 0)), .bl (decide (underOf e.ki = 1)), .bl (decide (underOf e.ki = 2))])) := f7.newH g1
  have e8 : upd H7 b1 (.lst [.bl (decide (underOf e.ki = 0)), .bl (decide (underOf e.ki = 1)), .bl (decide (underOf e.ki = 2))]) b1 = some (.lst [.bl (decide (underOf e.ki = 0)), .bl (decide (underOf e.ki = 1)), .bl (decide (underOf e.ki = 2))]) := upd_same
  have e7' : upd H7 b1 (.lst [.bl (decide (underOf e.ki = 0)), .bl (decide (underOf e.ki = 1)), .bl (decide (underOf e.ki = 2))]) a7 = some (.lst (kbs e.ki)) := by rw [upd_ne (ne_of_none e7 g1)]; exact e7
  show tSeq _ _ _ _ (upd H7 b1 (.lst [.bl (decide (underOf e.ki = 0)), .bl (decide (underOf e.ki = 1)), .bl (decide (underOf e.ki = 2))]))
  generalize upd H7 b1 (.lst [.bl (decide (underOf e.ki = 0)), .bl (decide (underOf e.ki = 1)), .bl (decide (underOf e.ki = 2))]) = H8 at f8 e8 e7' ⊢
  have x8 := (hx.up f8 (by simp)).xd
  refine ⟨_, rfl, _, rfl, .ty "IndexError", _, _, rfl, x8, (fun _ h => h), Z.isU hi 3, _, rfl, .ty "RuntimeError", _, _, rfl, x8, (fun _ h => h), Z.isU hi 4, by show 2 ≤ sizeLine; omega, fun b2 g2 => ?_⟩
  have f9 : Fx [] R H R (upd H8 b2 (.lst [.bl (decide (underOf e.ki = 3)), .bl (decide (underOf e.ki = 4))])) := f8.newH g2
  have e8' : upd H8 b2 (.lst [.bl (decide (underOf e.ki = 3)), .bl (decide (underOf e.ki = 4))]) b1 = some (.lst [.bl (decide (underOf e.ki = 0)), .bl (decide (underOf e.ki = 1)), .bl (decide (underOf e.ki = 2))]) := by rw [upd_ne (ne_of_none e8 g2)]; exact e8
  have e7'' : upd H8 b2 (.lst [.bl (decide (underOf e.ki = 3)), .bl (decide (underOf e.ki = 4))]) a7 = some (.lst (kbs e.ki)) := by rw [upd_ne (ne_of_none e7' g2)]; exact e7'
  refine ⟨b1, b2, _, _, rfl, rfl, e8', upd_same, by show 5 ≤ sizeLine; omega, fun b3 g3 => ?_⟩
  have f10 : Fx [] R H R (upd (upd H8 b2 (.lst [.bl (decide (underOf e.ki = 3)), .bl (decide (underOf e.ki = 4))])) b3 (.lst (ubs e.ki))) := f9.newH g3
  have e10 : upd (upd H8 b2 (.lst [.bl (decide (underOf e.ki = 3)), .bl (decide (underOf e.ki = 4))])) b3 (.lst (ubs e.ki)) b3 = some (.lst (ubs e.ki)) := upd_same
  have e7z : upd (upd H8 b2 (.lst [.bl (decide (underOf e.ki = 3)), .bl (decide (underOf e.ki = 4))])) b3 (.lst (ubs e.ki)) a7 = some (.lst (kbs e.ki)) := by rw [upd_ne (ne_of_none e7'' g3)]; exact e7''
  show tSeq _ _ _ _ (upd (upd H8 b2 (.lst [.bl (decide (underOf e.ki = 3)), .bl (decide (underOf e.ki = 4))])) b3 (.lst (ubs e.ki)))
  generalize upd (upd H8 b2 (.lst [.bl (decide (underOf e.ki = 3)), .bl (decide (underOf e.ki = 4))])) b3 (.lst (ubs e.ki)) = H10 at f10 e10 e7z ⊢
  -- at
  refine ⟨_, rfl, .inl ⟨rfl, _, SqL.of e7z⟩, a7, kbs e.ki, .bl true, e.ki, .bl true, rfl, rfl, SqL.of e7z, rfl, kbs_flat _, kbs_at _ hi, rfl, fun m z hm hz => kbs_no _ hi m z hm hz, ?_⟩
  -- if
  refine ⟨_, rfl, .inl ⟨rfl, _, SqL.of e7z⟩, a7, kbs e.ki, .bl true, rfl, rfl, SqL.of e7z, rfl, kbs_flat _, ?_⟩
  rw [kbs_count _ hi]
  refine ⟨rfl, _, rfl, ?_⟩
  refine iteB (fun _ => ?_) (fun h => absurd h (by decide))
  refine ⟨5, rfl, by omega, by omega, fun D hD => ?_⟩
  have nDa : a7 ≠ D := ne_of_none e7z hD
  have nDb : b3 ≠ D := ne_of_none e10 hD
  refine lc_range (lo := 0) (n := 5) (fun i H' => Fx [] R H R H' ∧ H' a7 = some (.lst (kbs e.ki)) ∧ H' b3 = some (.lst (ubs e.ki)) ∧ H' D = some (.lst (if underOf e.ki < i then [V.int (underOf e.ki : Nat)] else []))) ⟨f10.newH hD, by rw [upd_ne nDa]; exact e7z, by rw [upd_ne nDb]; exact e10, upd_same⟩ (fun i H' hi5 ⟨f, ea, eb, eD⟩ => ?_) (fun H' ⟨f, ea, eb, eD⟩ => ?_)
  · refine ⟨rfl, _, rfl, _, rfl, b3, ubs e.ki, _, .bl (decide (underOf e.ki = i)), rfl, rfl, SqL.of eb, at_of (j := i) (by omega) (ubs_at _ _ hi5), _, rfl, ?_⟩
    refine iteB (fun h => ?_) (fun h => ?_)
    · have h : ¬ underOf e.ki = i := of_decide_eq_false h
      refine ⟨f, ea, eb, ?_⟩
      rw [eD]
      by_cases h2 : underOf e.ki < i
      · rw [if_pos h2, if_pos (by omega)]
      · rw [if_neg h2, if_neg (by omega)]
    · have h : underOf e.ki = i := of_decide_eq_true h
      have rD : R D = none := same_none f10.rh hD
      refine ⟨_, rfl, _, eD, by split <;> (simp; omega), f.put rD (.inr (f10.gone hD)), by rw [upd_ne nDa]; exact ea, by rw [upd_ne nDb]; exact eb, ?_⟩
      rw [upd_same, if_neg (by omega), if_pos (by omega), h]
      simp
  · have hu5 := under_lt e.ki
    rw [if_pos hu5] at eD
    refine ⟨by show 11 ≤ sizeLine; omega, fun p1 hp1 => ⟨_, rfl, p1, uTab.map V.int, _, .int (underOf e.ki : Nat), rfl, rfl, SqL.of upd_same, at_of (j := e.ki) rfl (uTab_at _ hi), by show 1 ≤ sizeLine; omega, fun p2 hp2 => ?_⟩⟩
    have f11 : Fx [] R H R (upd H' p1 (.lst (uTab.map V.int))) := f.newH hp1
    have f12 : Fx [] R H R (upd (upd H' p1 (.lst (uTab.map V.int))) p2 (.lst [.int (underOf e.ki : Nat)])) := f11.newH hp2
    have eD1 : upd H' p1 (.lst (uTab.map V.int)) D = some (.lst [.int (underOf e.ki : Nat)]) := by rw [upd_ne (ne_of_none eD hp1)]; exact eD
    have eD2 : upd (upd H' p1 (.lst (uTab.map V.int))) p2 (.lst [.int (underOf e.ki : Nat)]) D = some (.lst [.int (underOf e.ki : Nat)]) := by rw [upd_ne (ne_of_none eD1 hp2)]; exact eD1
    refine ⟨.list [.int (underOf e.ki : Nat)], .list [.int (underOf e.ki : Nat)], .lst (SqL.of eD2) (.cons (.int _) .nil), .lst (SqL.of upd_same) (.cons (.int _) .nil), shaped_ints [_], shaped_ints [_], _, rfl, ?_⟩
    refine iteB (fun _ => ?_) (fun h => absurd h (by simp [PyData.eqv, PyData.eqvAll]))
    show tSeq _ _ _ _ (upd (upd H' p1 (.lst (uTab.map V.int))) p2 (.lst [.int (underOf e.ki : Nat)]))
    generalize upd (upd H' p1 (.lst (uTab.map V.int))) p2 (.lst [.int (underOf e.ki : Nat)]) = H12 at f12 ⊢
    have hx12 := hx.up f12 (by simp)
    clear eD1 eD2 f11 hp2 hp1 hx hxd x1 x3 x5 x7 x8
    cases e with
    | node d0 =>
      have hfd : (Err.node d0).fd = some (("value" : Str), d0) := rfl
      refine ⟨_, rfl, _, _, rfl, rfl, _, rfl, ?_⟩
      refine iteB (fun _ => ?_) (fun h => absurd h (by simp [Err.ki]))
      refine ⟨_, rfl, rfl, _, rfl, ?_⟩
      refine iteB (fun _ => ?_) (fun h => absurd h (by simp [Err.ki]))
      refine ⟨_, rfl, rfl, _, rfl, ?_⟩
      refine iteB (fun h => absurd h (by simp [Err.ki])) (fun _ => ?_)
      refine ⟨_, rfl, rfl, _, rfl, ?_⟩
      refine iteB (fun _ => ?_) (fun h => absurd h (by simp [Err.ki]))
      obtain ⟨dd, v, hd, hv, av, okv⟩ := hx12
      refine ⟨_, rfl, rfl, Z.noF hfd, dd, _, v, hd, hv, rfl, ?_⟩
      refine ⟨by show 8 ≤ sizeLine; omega, fun p3 hp3 => ⟨_, rfl, p3, w8, _, .str "node", rfl, rfl, SqL.of upd_same, at_of (j := 0) rfl rfl, ?_⟩⟩
      have f13 := f12.newH (o := .lst w8) hp3
      refine ⟨_, rfl, R, v, _, rfl, f13.rh, av, okv, by show 2 ≤ sizeLine; omega, fun t ht => ?_⟩
      obtain ⟨R4, f4, t4, m4⟩ := nw_tup (ds := [.str "node", .str d0.shown]) f13.rh (.cons (.str _) (.cons (.str _) .nil)) ht
      exact q R4 _ _ (f13.trans f4) t4
    | edge d0 =>
      have hfd : (Err.edge d0).fd = some (("value" : Str), d0) := rfl
      refine ⟨_, rfl, _, _, rfl, rfl, _, rfl, ?_⟩
      refine iteB (fun _ => ?_) (fun h => absurd h (by simp [Err.ki]))
      refine ⟨_, rfl, rfl, _, rfl, ?_⟩
      refine iteB (fun _ => ?_) (fun h => absurd h (by simp [Err.ki]))
      refine ⟨_, rfl, rfl, _, rfl, ?_⟩
      refine iteB (fun h => absurd h (by simp [Err.ki])) (fun _ => ?_)
      refine ⟨_, rfl, rfl, _, rfl, ?_⟩
      refine iteB (fun _ => ?_) (fun h => absurd h (by simp [Err.ki]))
      obtain ⟨dd, v, hd, hv, av, okv⟩ := hx12
      refine ⟨_, rfl, rfl, Z.noF hfd, dd, _, v, hd, hv, rfl, ?_⟩
      refine ⟨by show 8 ≤ sizeLine; omega, fun p3 hp3 => ⟨_, rfl, p3, w8, _, .str "edge", rfl, rfl, SqL.of upd_same, at_of (j := 1) rfl rfl, ?_⟩⟩
      have f13 := f12.newH (o := .lst w8) hp3
      refine ⟨_, rfl, R, v, _, rfl, f13.rh, av, okv, by show 2 ≤ sizeLine; omega, fun t ht => ?_⟩
      obtain ⟨R4, f4, t4, m4⟩ := nw_tup (ds := [.str "edge", .str d0.shown]) f13.rh (.cons (.str _) (.cons (.str _) .nil)) ht
      exact q R4 _ _ (f13.trans f4) t4
    | length d0 =>
      have hfd : (Err.length d0).fd = some (("value" : Str), d0) := rfl
      refine ⟨_, rfl, _, _, rfl, rfl, _, rfl, ?_⟩
      refine iteB (fun _ => ?_) (fun h => absurd h (by simp [Err.ki]))
      refine ⟨_, rfl, rfl, _, rfl, ?_⟩
      refine iteB (fun _ => ?_) (fun h => absurd h (by simp [Err.ki]))
      refine ⟨_, rfl, rfl, _, rfl, ?_⟩
      refine iteB (fun h => absurd h (by simp [Err.ki])) (fun _ => ?_)
      refine ⟨_, rfl, rfl, _, rfl, ?_⟩
      refine iteB (fun _ => ?_) (fun h => absurd h (by simp [Err.ki]))
      obtain ⟨dd, v, hd, hv, av, okv⟩ := hx12
      refine ⟨_, rfl, rfl, Z.noF hfd, dd, _, v, hd, hv, rfl, ?_⟩
      refine ⟨by show 8 ≤ sizeLine; omega, fun p3 hp3 => ⟨_, rfl, p3, w8, _, .str "length", rfl, rfl, SqL.of upd_same, at_of (j := 2) rfl rfl, ?_⟩⟩
      have f13 := f12.newH (o := .lst w8) hp3
      refine ⟨_, rfl, R, v, _, rfl, f13.rh, av, okv, by show 2 ≤ sizeLine; omega, fun t ht => ?_⟩
      obtain ⟨R4, f4, t4, m4⟩ := nw_tup (ds := [.str "length", .str d0.shown]) f13.rh (.cons (.str _) (.cons (.str _) .nil)) ht
      exact q R4 _ _ (f13.trans f4) t4
    | noNode d0 =>
      have hfd : (Err.noNode d0).fd = some (("value" : Str), d0) := rfl
      refine ⟨_, rfl, _, _, rfl, rfl, _, rfl, ?_⟩
      refine iteB (fun _ => ?_) (fun h => absurd h (by simp [Err.ki]))
      refine ⟨_, rfl, rfl, _, rfl, ?_⟩
      refine iteB (fun _ => ?_) (fun h => absurd h (by simp [Err.ki]))
      refine ⟨_, rfl, rfl, _, rfl, ?_⟩
      refine iteB (fun h => absurd h (by simp [Err.ki])) (fun _ => ?_)
      refine ⟨_, rfl, rfl, _, rfl, ?_⟩
      refine iteB (fun _ => ?_) (fun h => absurd h (by simp [Err.ki]))
      obtain ⟨dd, v, hd, hv, av, okv⟩ := hx12
      refine ⟨_, rfl, rfl, Z.noF hfd, dd, _, v, hd, hv, rfl, ?_⟩
      refine ⟨by show 8 ≤ sizeLine; omega, fun p3 hp3 => ⟨_, rfl, p3, w8, _, .str "no node", rfl, rfl, SqL.of upd_same, at_of (j := 5) rfl rfl, ?_⟩⟩
      have f13 := f12.newH (o := .lst w8) hp3
      refine ⟨_, rfl, R, v, _, rfl, f13.rh, av, okv, by show 2 ≤ sizeLine; omega, fun t ht => ?_⟩
      obtain ⟨R4, f4, t4, m4⟩ := nw_tup (ds := [.str "no node", .str d0.shown]) f13.rh (.cons (.str _) (.cons (.str _) .nil)) ht
      exact q R4 _ _ (f13.trans f4) t4
    | noEdge d0 =>
      have hfd : (Err.noEdge d0).fd = some (("value" : Str), d0) := rfl
      refine ⟨_, rfl, _, _, rfl, rfl, _, rfl, ?_⟩
      refine iteB (fun _ => ?_) (fun h => absurd h (by simp [Err.ki]))
      refine ⟨_, rfl, rfl, _, rfl, ?_⟩
      refine iteB (fun _ => ?_) (fun h => absurd h (by simp [Err.ki]))
      refine ⟨_, rfl, rfl, _, rfl, ?_⟩
      refine iteB (fun h => absurd h (by simp [Err.ki])) (fun _ => ?_)
      refine ⟨_, rfl, rfl, _, rfl, ?_⟩
      refine iteB (fun _ => ?_) (fun h => absurd h (by simp [Err.ki]))
      obtain ⟨dd, v, hd, hv, av, okv⟩ := hx12
      refine ⟨_, rfl, rfl, Z.noF hfd, dd, _, v, hd, hv, rfl, ?_⟩
      refine ⟨by show 8 ≤ sizeLine; omega, fun p3 hp3 => ⟨_, rfl, p3, w8, _, .str "no edge", rfl, rfl, SqL.of upd_same, at_of (j := 6) rfl rfl, ?_⟩⟩
      have f13 := f12.newH (o := .lst w8) hp3
      refine ⟨_, rfl, R, v, _, rfl, f13.rh, av, okv, by show 2 ≤ sizeLine; omega, fun t ht => ?_⟩
      obtain ⟨R4, f4, t4, m4⟩ := nw_tup (ds := [.str "no edge", .str d0.shown]) f13.rh (.cons (.str _) (.cons (.str _) .nil)) ht
      exact q R4 _ _ (f13.trans f4) t4
    | range d0 =>
      have hfd : (Err.range d0).fd = some (("value" : Str), d0) := rfl
      refine ⟨_, rfl, _, _, rfl, rfl, _, rfl, ?_⟩
      refine iteB (fun _ => ?_) (fun h => absurd h (by simp [Err.ki]))
      refine ⟨_, rfl, rfl, _, rfl, ?_⟩
      refine iteB (fun _ => ?_) (fun h => absurd h (by simp [Err.ki]))
      refine ⟨_, rfl, rfl, _, rfl, ?_⟩
      refine iteB (fun h => absurd h (by simp [Err.ki])) (fun _ => ?_)
      refine ⟨_, rfl, rfl, _, rfl, ?_⟩
      refine iteB (fun _ => ?_) (fun h => absurd h (by simp [Err.ki]))
      obtain ⟨dd, v, hd, hv, av, okv⟩ := hx12
      refine ⟨_, rfl, rfl, Z.noF hfd, dd, _, v, hd, hv, rfl, ?_⟩
      refine ⟨by show 8 ≤ sizeLine; omega, fun p3 hp3 => ⟨_, rfl, p3, w8, _, .str "range", rfl, rfl, SqL.of upd_same, at_of (j := 7) rfl rfl, ?_⟩⟩
      have f13 := f12.newH (o := .lst w8) hp3
      refine ⟨_, rfl, R, v, _, rfl, f13.rh, av, okv, by show 2 ≤ sizeLine; omega, fun t ht => ?_⟩
      obtain ⟨R4, f4, t4, m4⟩ := nw_tup (ds := [.str "range", .str d0.shown]) f13.rh (.cons (.str _) (.cons (.str _) .nil)) ht
      exact q R4 _ _ (f13.trans f4) t4
    | many n0 =>
      have hfd : (Err.many n0).fd = some (("limit" : Str), PyData.int n0) := rfl
      refine ⟨_, rfl, _, _, rfl, rfl, _, rfl, ?_⟩
      refine iteB (fun _ => ?_) (fun h => absurd h (by simp [Err.ki]))
      refine ⟨_, rfl, rfl, _, rfl, ?_⟩
      refine iteB (fun h => absurd h (by simp [Err.ki])) (fun _ => ?_)
      obtain ⟨dd, v, hd, hv, av, okv⟩ := hx12
      refine ⟨_, rfl, rfl, Z.noF hfd, dd, _, v, hd, hv, rfl, ?_⟩
      refine ⟨_, rfl, rfl, _, rfl, ?_⟩
      refine iteB (fun _ => ?_) (fun h => absurd h (by simp [Err.ki]))
      refine ⟨by show 8 ≤ sizeLine; omega, fun p3 hp3 => ⟨_, rfl, p3, w8, _, .str "many", rfl, rfl, SqL.of upd_same, at_of (j := 4) rfl rfl, ?_⟩⟩
      have f13 := f12.newH (o := .lst w8) hp3
      refine ⟨_, rfl, R, v, _, rfl, f13.rh, av, okv, by show 2 ≤ sizeLine; omega, fun t ht => ?_⟩
      obtain ⟨R4, f4, t4, m4⟩ := nw_tup (ds := [.str "many", .str (PyData.int n0).shown]) f13.rh (.cons (.str _) (.cons (.str _) .nil)) ht
      exact q R4 _ _ (f13.trans f4) t4
    | noUndo =>
      refine ⟨_, rfl, _, _, rfl, rfl, _, rfl, ?_⟩
      refine iteB (fun h => absurd h (by simp [Err.ki])) (fun _ => ?_)
      refine ⟨by show 3 ≤ sizeLine; omega, fun p3 hp3 => ⟨_, rfl, _, _, rfl, rfl, p3, w3, _, .str "no undo", rfl, rfl, SqL.of upd_same, at_of (j := 0) rfl rfl, by show 2 ≤ sizeLine; omega, fun t ht => ?_⟩⟩
      have f13 := f12.newH (o := .lst w3) hp3
      obtain ⟨R4, f4, t4, m4⟩ := nw_tup (ds := [.str "no undo", .str ""]) f13.rh (.cons (.str _) (.cons (.str _) .nil)) ht
      exact q R4 _ _ (f13.trans f4) t4
    | noRedo =>
      refine ⟨_, rfl, _, _, rfl, rfl, _, rfl, ?_⟩
      refine iteB (fun h => absurd h (by simp [Err.ki])) (fun _ => ?_)
      refine ⟨by show 3 ≤ sizeLine; omega, fun p3 hp3 => ⟨_, rfl, _, _, rfl, rfl, p3, w3, _, .str "no redo", rfl, rfl, SqL.of upd_same, at_of (j := 1) rfl rfl, by show 2 ≤ sizeLine; omega, fun t ht => ?_⟩⟩
      have f13 := f12.newH (o := .lst w3) hp3
      obtain ⟨R4, f4, t4, m4⟩ := nw_tup (ds := [.str "no redo", .str ""]) f13.rh (.cons (.str _) (.cons (.str _) .nil)) ht
      exact q R4 _ _ (f13.trans f4) t4
end
end Ld
/-! Ge: try .. except (A, B, ..) as e. -/
namespace PySem.W
open PySem PySem.Spec PySem.Calls PyProof.Rows
section
variable {M : Model} {A : Around} {E : Value → Shared → Prop} {s : Shared}
theorem forIn_pass {α : Type} {body : α → PUnit → Sem (ForInStep PUnit)} {Q : PUnit → Shared → Prop} : ∀ {cs : List α}, (∀ c ∈ cs, ∀ Q' : ForInStep PUnit → Shared → Prop, Q' (.yield ⟨⟩) s → wpAny M A (body c ⟨⟩) Q' E s) → Q ⟨⟩ s → wpAny M A (forIn cs PUnit.unit body) Q E s
  | [], _, q => by rw [List.forIn_nil]; exact wpAny_pure q
  | c :: r, h, q => by
    rw [List.forIn_cons]
    refine wpAny_bind (h c List.mem_cons_self _ ?_)
    exact forIn_pass (fun c' hc' => h c' (List.mem_cons_of_mem _ hc')) q
theorem forIn_find {α β : Type} {body : α → β → Sem (ForInStep β)} {b0 b1 : β} {f : α → Bool} {Q : β → Shared → Prop} : ∀ {cs : List α}, (∀ c ∈ cs, ∀ Q' : ForInStep β → Shared → Prop, Q' (if f c = true then .done b1 else .yield b0) s → wpAny M A (body c b0) Q' E s) → Q (if cs.any f = true then b1 else b0) s → wpAny M A (forIn cs b0 body) Q E s
  | [], _, q => by rw [List.forIn_nil]; exact wpAny_pure q
  | c :: r, h, q => by
    rw [List.forIn_cons]
    refine wpAny_bind (h c List.mem_cons_self _ ?_)
    cases hf : f c with
    | true =>
      rw [List.any_cons, hf] at q
      exact wpAny_pure q
    | false =>
      rw [List.any_cons, hf, Bool.false_or] at q
      exact forIn_find (fun c' hc' => h c' (List.mem_cons_of_mem _ hc')) q
theorem exm_tupN {K : Frag} {cls : Value} {cs : List Value} {tp e : Addr} {h : Heap} {f : Value → Bool} {o : Obj} {n : Nat} (X : K.In h) (LT : Looks M h (typeOf (.ref e)) cls) (hp : h.get? tp = some o) (ho : o.cls = .type "tuple") (hd : o.data = .seq cs.toArray n) (hx : ∀ c ∈ cs, exmOne K cls c = some (f c)) :
    Looks M h (excMatches (.ref e) (.ref tp)) (cs.any f) := by
  intro A Q E s k₀ q
  obtain ⟨hh, g, d, tk, os⟩ := s
  have k : ∀ b o, h.get? b = some o → hh.get? b = some o := k₀
  obtain ⟨oc, od, dt, sl⟩ := o
  dsimp only at ho hd
  subst ho hd
  have LT0 : Looks M h (isInstance (.ref tp) (.type "tuple")) true := ((Looks.ld hp).andThen .now).andThen (Looks.of_pure isSubtype_tuple_tuple)
  have LT := LT.keeps k
  have LT0 := LT0.keeps k
  have hp' := k _ _ hp
  unfold excMatches
  refine wpAny_bind (LT0.at ?_)
  dsimp only
  rw [if_pos rfl]
  first
    | refine wpAny_bind (wpAny_seqItems hp' rfl ?_)
    | refine wpAny_bind (wpAny_bind (wpAny_seqItems hp' rfl (wpAny_pure ?_)))
  dsimp only [Option.getD_some, Option.getD]
  refine wpAny_bind (wpAny_pure ?_)
  refine wpAny_bind (forIn_pass (fun c hc Q' q' => ?_) ?_)
  · obtain ⟨e1, _⟩ := exm_cls (M := M) X (hx c hc)
    have e1 := e1.keeps k
    refine wpAny_bind (e1.at ?_)
    simp only [Bool.not_true, Bool.false_eq_true, if_false]
    exact wpAny_pure q'
  · refine wpAny_bind (LT.at ?_)
    refine wpAny_bind (forIn_find (f := f) (b1 := (some true, ())) (fun c hc Q' q' => ?_) ?_)
    · obtain ⟨_, S1⟩ := exm_cls (M := M) X (hx c hc)
      have S1 := S1.keeps k
      refine wpAny_bind (S1.at ?_)
      cases hf : f c with
      | true => rw [hf] at q'; exact wpAny_pure q'
      | false => rw [hf] at q'; exact wpAny_pure q'
    · cases hf : cs.any f with
      | true => rw [hf] at q; exact wpAny_pure q
      | false => rw [hf] at q; exact wpAny_pure q
end
end PySem.W
namespace Ld
open PySem L2 PyProof.Rows
theorem flying_kept {B : Heap} {l : List Env} {e : Addr} {Z : Obj → Prop} {h h' : Heap} (f : HandSPX.FlyingZ B l e Z h) (k : ∀ b o, h.get? b = some o → h'.get? b = some o) : HandSPX.FlyingZ B l e Z h' := by
  obtain ⟨f1, f2, f3, oe, vs, T, oT, ts, a1, a2, a3, a4, a5, a6, a7, a8, a9⟩ := f
  exact ⟨fun b o q => k b o (f1 b o q), f2, Heap.FunFrames.of_keeps (fun b o q _ => ⟨o, k b o q, rfl⟩) f3, oe, vs, T, oT, ts, k _ _ a1, a2, a3, a4, a5, a6, k _ _ a7, a8, a9⟩
/-- names of classes -/
inductive NamesL (X : Cx) : List Expr → List Value → Prop
  | nil : NamesL X [] []
  | cons {x : Str} {p : Pos} {c : Value} {es : List Expr} {cs : List Value} : Names X x c → NamesL X es cs → NamesL X (.Name x p :: es) (c :: cs)
theorem names_splice {X : Cx} {pins : List (Addr × Obj)} {σ : St} {H : Hp} {s : Shared} (I : Inv X pins σ H s) (pos : Pos) {E : Value → Shared → Prop} : ∀ {es : List Expr} {cs : List Value} {Q : List Value → Shared → Prop}, NamesL X es cs → Q cs s → wpAny (model X.prog X.w) X.A (spliced (backTo pos (starEach es X.env))) Q E s
  | _, _, Q, .nil, q => Calls.spliced_nil q
  | _, _, Q, .cons (x := x) (p := p) (es := es) hn r, q => by
    show wpAny _ _ (spliced ((false, eval (.Name x p) X.env) :: backTo pos (starEach es X.env))) _ _ s
    refine Calls.spliced_cons ?_
    obtain ⟨hg, hdbg, hm | ⟨hm, hv, hnn⟩⟩ := hn
    · exact ld_glob I hg hm (names_splice I pos r q) hdbg
    · exact ld_blt I hg hm hv (names_splice I pos r q) hnn hdbg
/-- (A, B, ..) -/
theorem names_tup {X : Cx} {pins : List (Addr × Obj)} {σ : St} {H : Hp} {s : Shared} {E : Value → Shared → Prop} {es : List Expr} {cs : List Value} {Q : Value → Shared → Prop} {k : Nat} {pos : Pos} (I : Inv X pins σ H s) (h : NamesL X es cs) (hz : cs.length ≤ sizeLine)
    (q : Q (.ref s.heap.objs.size) { s with heap := s.heap.push { cls := .type "tuple", data := .seq cs.toArray } }) : wpAny (model X.prog X.w) X.A (eval (.Tuple es k pos) X.env) Q E s :=
  wpAny_Tuple_spliced (names_splice I pos h ⟨hz, q⟩)
def setE (i : Nat) (D : Ends) : Ends := { nx := fun σ' H' => D.nx (σ'.set i none) H', rt := D.rt, bk := fun σ' H' => D.bk (σ'.set i none) H', ct := fun σ' H' => D.ct (σ'.set i none) H' }
/-- what the clauses wish -/
def wTup (K : PySem.W.Frag) (i : Nat) (D : Ends) : List (List Value × (Addr → Value → Option Addr → TS)) → WX
  | [] => fun _ _ _ _ => False
  | (cs, ts) :: r => fun cls d σ H => ∃ f : Value → Bool, (∀ c ∈ cs, PySem.W.exmOne K cls c = some (f c)) ∧ (cs.any f = true → ∀ a, H a = none → ts a cls d (setE i D) (σ.set i (some (.ref a))) H) ∧ (cs.any f = false → wTup K i D r cls d σ H)
inductive HdsT (X : Cx) (n : Str) : List ExceptHandler → List (List Value × (Addr → Value → Option Addr → TS)) → Prop
  | nil : HdsT X n [] []
  | cons {es : List Expr} {cs : List Value} {k : Nat} {tp pos' : Pos} {b₀ : Stmt} {suite : List Stmt} {ts : Addr → Value → Option Addr → TS} {hds : List ExceptHandler} {l : List (List Value × (Addr → Value → Option Addr → TS))} (hc : NamesL X es cs) (hz : cs.length ≤ sizeLine)
      (hsu : ∀ (a : Addr) (oe : Obj) (cls : Value) (d : Option Addr) (pn : List (Addr × Obj)), L2N.Zn cls d oe → (∃ vs, oe.data = .fields vs) → PSs (X.suite a ((a, oe) :: pn)) (b₀ :: suite) (ts a cls d)) (r : HdsT X n hds l) :
      HdsT X n (.ExceptHandler (some (.Tuple es k tp)) (some n) (b₀ :: suite) pos' :: hds) ((cs, ts) :: l)
theorem namesL_suite {X : Cx} {a : Addr} {pn : List (Addr × Obj)} {es : List Expr} {cs : List Value} (h : NamesL X es cs) : NamesL (X.suite a pn) es cs := by
  induction h with
  | nil => exact .nil
  | cons a _ ih => exact .cons a ih
section
variable {X : Cx} {n : Str} {i : Nat} {body : List Stmt} {h₀ : ExceptHandler} {hds : List ExceptHandler} {l : List (List Value × (Addr → Value → Option Addr → TS))} {pos : Pos} {tb : WX → TS}
theorem ps_try_tup (hs : X.stack = X.env :: X.outer) (hf : X.env.frame = some X.env.locals) (hN : X.N.Nodup) (hi : X.N[i]? = some n) (hln : X.env.kindOf n = some .local)
    (hb : ∀ (W : WX) (pn : List (Addr × Obj)) (xe : Value → Shared → Prop), L2N.Takes (X.tr pn xe) W → PassesOwn (model X.prog X.w) X.A X.env xe → PSs (X.tr pn xe) body (tb W))
    (hh : HdsT X n (h₀ :: hds) l) : PS X (.Try body (h₀ :: hds) [] [] pos) (fun D σ H => tb (wTup X.K i D l) D σ H) := by
  refine ⟨fun pins s σ H D I h => ?_⟩
  have ok := I.ok
  have hfr : X.A.frames = some (X.env :: X.outer) := by rw [ok.frames, hs]
  have hloc : Loc X.env.scope n := .inl hln
  refine wpAny_Try_except ?_
  refine wpAny_mono ((hb (wTup X.K i D l) (X.pn ++ pins) (fun e s₁ => wpAny (model X.prog X.w) X.A (noteFrame e X.env) (fun _ s₂ => wpAny (model X.prog X.w) X.A (setFlight e none) (fun _ s₃ =>
    wpAny (model X.prog X.w) X.A (handleBy e X.env (h₀ :: hds)) (SP X pins D) X.xe s₃) X.xe s₂) X.xe s₁) (fun u s' xx => ?_) PassesOwn.looking).run [] s σ H D (I.toTry _) h) (fun f s1 hsp => ?_) (fun e s1 he => he)
  · obtain ⟨a, B, sI, pins', σ', H', cls, d, rfl, J', nb, up, sky, na, os, ag, w⟩ := xx
    have J : Inv X pins σ' H' sI := J'.ofTry ok
    have sky' : Sky B (X.env :: X.outer) a (L2N.Zn cls d) X.env.locals s'.heap := by rw [← hs]; exact sky
    show wpAny (model X.prog X.w) X.A (noteFrame (.ref a) X.env) _ _ _
    refine L2N.Sky.land L2N.Zn.steady hfr hf sky' fun h3 fl3 up3 => ?_
    have notFr : ∀ {h : Heap} {o : Obj} {vs : Array Value}, h.FunFrames B (X.env :: X.outer) → h.get? a = some o → o.data = .fields vs → a ∉ frs (X.env :: X.outer) := fun {h o vs} ff e dd hm => by
      obtain ⟨_, o', e', hnf⟩ := ff.mem hm
      rw [e] at e'; cases e'
      exact hnf _ dd
    have go : ∀ {hds' : List ExceptHandler} {l' : List (List Value × (Addr → Value → Option Addr → TS))} (h3 : Heap), HdsT X n hds' l' → HandSPX.FlyingZ B (X.env :: X.outer) a (L2N.Zn cls d) h3 → sI.heap.UpToSlots h3 → wTup X.K i D l' cls d σ' H' →
        wpAny (model X.prog X.w) X.A (handleBy (.ref a) X.env hds') (SP X pins D) X.xe { s' with heap := h3 } := by
      intro hds' l' h3 hk
      induction hk generalizing h3 with
      | nil => exact fun _ _ w => w.elim
      | @cons es cs k tp pos' b₀ suite ts hds2 l2 hc hz hsu r ih =>
        intro fl3 up3 w
        obtain ⟨f, hall, hyes, hno⟩ := w
        have J3 : Inv X pins σ' H' { s' with heap := h3 } := J.landed nb fl3.1 up3 os ag
        obtain ⟨oe3, vs3, he3, hz3, hd3⟩ := fl3.there
        have nfr := notFr fl3.2.2.1 he3 hd3
        have nL : a ≠ X.env.locals := fun z => nfr (List.mem_filterMap.mpr ⟨X.env, List.mem_cons_self, by rw [hf, z]⟩)
        have nF : a ∉ X.fs := fun hm => by
          obtain ⟨e, he, q⟩ := List.mem_filterMap.mp hm
          exact nfr (List.mem_filterMap.mpr ⟨e, List.mem_cons_of_mem _ he, q⟩)
        have S3 := J3.suite he3 hd3 na nL nF
        refine wpAny_handleBy_cons (codeAny_handlers_test ?_) (by intro q; cases q)
        refine names_tup (X := X.suite a ((a, oe3) :: (X.pn ++ pins))) S3 (namesL_suite hc) hz ?_
        have kp : ∀ b o, h3.get? b = some o → (h3.push { cls := .type "tuple", data := .seq cs.toArray }).get? b = some o := fun b o e => Heap.get?_push_of_some _ e
        have LT : PySem.W.Looks (model X.prog X.w) (h3.push { cls := .type "tuple", data := .seq cs.toArray }) (typeOf (.ref a)) cls := fun A Q E s k q => wpAny_typeOf_ref (k _ _ (kp _ _ he3)) (by rw [hz3.1]; exact q)
        have LM := PySem.W.exm_tupN (M := model X.prog X.w) (tp := h3.objs.size) (f := f) (J3.kIn.keeps kp) LT (Heap.get?_push_size _ rfl) rfl rfl hall
        have fl4 := flying_kept fl3 kp
        have up4 : sI.heap.UpToSlots (h3.push { cls := .type "tuple", data := .seq cs.toArray }) := up3.trans (Heap.UpToSlots.of_keeps kp)
        refine LM.here ?_
        cases hany : cs.any f with
        | true =>
          refine codeAny_handlers_suite_as ?_
          refine HandSPX.lands_againZ fl4 fun h5 fl5 up5 => ?_
          have J5 : Inv X pins σ' H' { s' with heap := h5 } := J.landed nb fl5.1 (up4.trans up5) os ag
          obtain ⟨oe5, vs5, he5, hz5, hd5⟩ := fl5.there
          have S5 := J5.suite he5 hd5 na nL nF
          refine store_ok (X := X.suite a ((a, oe5) :: (X.pn ++ pins))) (v := .ref a) S5 hN hi hloc rfl (fun s6 S6 => ?_) (.inr hln)
          refine wpAny_mono ((hsu a oe5 cls d (X.pn ++ pins) hz5 ⟨_, hd5⟩).run [] s6 _ H' _ S6 (hyes hany a na)) (fun f s7 hsp => ?_) (fun _ _ z => False.elim z)
          have end_ : ∀ {σ6 : St} {H6 : Hp} {Q : Shared → Prop}, Inv (X.suite a ((a, oe5) :: (X.pn ++ pins))) [] σ6 H6 s7 → (∀ s8, Inv X pins (σ6.set i none) H6 s8 → Q s8) →
              wpAny (model X.prog X.w) X.A (do bindName X.env n .none; unbindBehindTheSuite X.env n pos') (fun _ s8 => Q s8) X.xe s7 := fun {σ6 H6 Q} S8 hq => gone_ok (S8.unsuite ok) hN hi hln hq
          cases f with
          | next =>
            obtain ⟨σ6, H6, S8, q6⟩ := hsp
            exact end_ S8 fun s8 J8 => ⟨_, _, J8, q6⟩
          | brk =>
            obtain ⟨σ6, H6, S8, q6⟩ := hsp
            exact end_ S8 fun s8 J8 => ⟨_, _, J8, q6⟩
          | cont =>
            obtain ⟨σ6, H6, S8, q6⟩ := hsp
            exact end_ S8 fun s8 J8 => ⟨_, _, J8, q6⟩
          | ret u =>
            obtain ⟨v6, σ6, H6, S8, r6, q6⟩ := hsp
            exact end_ S8 fun s8 J8 => ⟨_, _, _, J8, r6, q6⟩
        | false =>
          show wpAny _ X.A (handleBy (.ref a) X.env hds2) _ _ _
          exact ih _ fl4 up4 (hno hany)
    exact go h3 hh fl3 (up.trans up3) w
  · cases f with
    | next =>
      obtain ⟨σ', H', J', q⟩ := hsp
      exact wpAny_execs_nil ⟨σ', H', J'.ofTry ok, q⟩
    | brk =>
      obtain ⟨σ', H', J', q⟩ := hsp
      exact ⟨σ', H', J'.ofTry ok, q⟩
    | cont =>
      obtain ⟨σ', H', J', q⟩ := hsp
      exact ⟨σ', H', J'.ofTry ok, q⟩
    | ret u =>
      obtain ⟨v, σ', H', J', r, q⟩ := hsp
      exact ⟨v, σ', H', J'.ofTry ok, r, q⟩
end
end Ld
/-! Gf: a lambda handed to replied. -/
namespace Ld
open PySem PySem.Spec L2 PyProof.Rows
/-- the table of code objects at P: each tells one of the name q, that stands still -/
structure TabR (R H : Hp) (P : Addr) (q : Str) : Prop where
  fr : R P = none
  ob : ∃ ps : Array Value, H P = some (.tbl ps) ∧ TriplesOk ps.toList ∧ ∀ (pos : Pos) (cv : Value), codeAmong pos ps.toList = some cv → ∃ c, cv = .ref c ∧ R c = some (LamX.CodeO c q)
theorem TabR.up {R H R' H' : Hp} {P : Addr} {q : Str} {M : List Addr} (h : TabR R H P q) (f : Fx M R H R' H') (n : P ∉ M) : TabR R' H' P q := by
  obtain ⟨ps, h1, h2, h3⟩ := h.ob
  refine ⟨f.nr h.fr h1, ps, f.kp _ _ h1 n, h2, fun pos cv hc => ?_⟩
  obtain ⟨c, e1, e2⟩ := h3 pos cv hc
  exact ⟨c, e1, f.rr _ _ e2⟩
theorem TabR.nil {R H : Hp} {P : Addr} {q : Str} (hr : R P = none) (h : H P = some (.tbl #[])) : TabR R H P q := ⟨hr, #[], h, True.intro, fun pos cv hc => by
  have z : codeAmong pos [] = some cv := hc
  simp [codeAmong] at z⟩
section
variable {X : Cx} {pins : List (Addr × Obj)} {σ : L2.St} {H HZ R : Hp} {s s1 : Shared}
theorem lam_make3 {c P : Addr} {params : Arguments} {body : Expr} {scope : Scope} {pos : Pos} {E : Value → Shared → Prop} {Q : Value → Shared → Prop} (I : Inv X pins σ H s) (k : Same R H) (TB : LamX.TabB X.base X.mg c P) (hcode : X.env.code = .ref c)
    (hT : TabR R H P (X.env.qual ++ "<lambda>")) (hdef : defaultsOf params X.env = ([], [])) (hfree : ∀ y ∈ scope.names, y.2 = .free → ∃ c, X.env.cells.lookup y.1 = some c)
    (h : ∀ (f c' : Addr) (pm ctv : Value) (R1 H1 : Hp) (s' : Shared), Inv X pins σ H1 s' → Fx [P] R H R1 H1 → TabR R1 H1 P (X.env.qual ++ "<lambda>") →
      s'.heap.get? f = some (PySem.W.kla_obj "<lambda>" (X.env.qual ++ "<lambda>") params body scope (cloFrom X.env.cells scope.names []) pm c' ctv) → H1 f = none → f ∉ frs X.stack → R1 c' = some (LamX.CodeO c' (X.env.qual ++ "<lambda>")) → Q (.ref f) s') :
    wpAny (model X.prog X.w) X.A (eval (.Lambda params body scope pos) X.env) Q E s := by
  obtain ⟨ps, hP, ht, ha⟩ := hT.ob
  refine PySem.W.kla_eval hdef ?_
  have bP : s.heap.BuiltinsAt X.mg P := TB.bm.keeps I.bk
  have hP' : s.heap.get? P = some { cls := .none, data := .fields ps } := I.hok P _ hP
  have nofr : ∀ f, s.heap.objs.size ≤ f → f ∉ frs X.stack := fun f hf z => by
    rcases List.mem_cons.mp (I.stkSub _ z) with e | e
    · have h1 := I.lt
      rw [← e] at h1
      exact Nat.lt_irrefl _ (Nat.lt_of_lt_of_le h1 hf)
    · exact I.nofs hf e
  cases hc : codeAmong pos ps.toList with
  | none =>
    refine PySem.W.kla_makeFunction (mg := X.mg) (c := c) (P := P) (ps := ps) (closure_ok hfree) I.ok.glob (I.mod.glob.keeps I.bk) hcode (TB.code.keeps I.bk) hP' ht hc TB.gP bP fun c' ctv h' tk hx hge hlt hrec htb => ?_
    obtain ⟨c2, oc, vs, t, e2, hoc, hd, hv⟩ := hrec
    cases e2
    have hsz : s.heap.objs.size ≤ h'.objs.size := Nat.le_trans hge (Nat.le_of_lt hlt)
    have nC : H c' = none := I.hok.fresh hge
    have I1 := LamX.inv_table (t' := tk) (more := #[rawInt pos.line, rawInt pos.col, .ref c']) (h' := h'.push (PySem.W.kla_obj "<lambda>" (X.env.qual ++ "<lambda>") params body scope (cloFrom X.env.cells scope.names []) ((X.mg "__name__").getD .none) c' ctv)) I hP
      (fun b o hb e => Heap.get?_push_of_some _ (hx b o hb e)) (Heap.get?_push_of_some _ htb) hge ⟨oc, vs, t, Heap.get?_push_of_some _ hoc, hd, hv⟩
    have eL : (ps ++ #[rawInt pos.line, rawInt pos.col, .ref c']).toList = ps.toList ++ [rawInt pos.line, rawInt pos.col, .ref c'] := by simp
    have nPc : P ≠ c' := ne_of_none hP nC
    have f0 : Fx [P] R H R (upd H P (.tbl (ps ++ #[rawInt pos.line, rawInt pos.col, .ref c']))) := (Fx.refl k).put hT.fr (.inl (by simp))
    obtain ⟨R1, f1, e1, m1⟩ : ∃ R1, Fx [P] R H R1 (upd (upd H P (.tbl (ps ++ #[rawInt pos.line, rawInt pos.col, .ref c']))) c' (LamX.CodeO c' (X.env.qual ++ "<lambda>"))) ∧ R1 c' = some (LamX.CodeO c' (X.env.qual ++ "<lambda>")) ∧ R1 P = none := by
      refine ⟨upd R c' (LamX.CodeO c' (X.env.qual ++ "<lambda>")), f0.newR (by rw [upd_ne nPc.symm]; exact nC), upd_same, ?_⟩
      rw [upd_ne nPc]
      exact hT.fr
    refine h h'.objs.size c' ((X.mg "__name__").getD .none) ctv R1 _ _ I1 f1 ⟨m1, _, by rw [upd_ne nPc, upd_same], by rw [eL]; exact PySem.TriplesOk_snoc _ _ _ _ ht, fun p' cv hcv => ?_⟩ (Heap.get?_push_size _ rfl) ?_ (nofr _ hsz) e1
    · rw [eL] at hcv
      rcases LamX.among_app _ ht hcv with z | z
      · obtain ⟨c0, g1, g2⟩ := ha p' cv z
        exact ⟨c0, g1, f1.rr _ _ g2⟩
      · exact ⟨c', z, e1⟩
    · have n1 : h'.objs.size ≠ c' := Nat.ne_of_gt hlt
      have n2 : h'.objs.size ≠ P := Nat.ne_of_gt (Nat.lt_of_lt_of_le (Heap.lt_size hP') hsz)
      rw [upd_ne n1, upd_ne n2]
      exact I.hok.fresh hsz
  | some cv =>
    obtain ⟨c', e, hco⟩ := ha pos cv hc
    subst e
    refine PySem.W.kla_makeFunctionHit (mg := X.mg) (c := c) (P := P) (ps := ps) (closure_ok hfree) I.ok.glob (I.mod.glob.keeps I.bk) hcode (TB.code.keeps I.bk) hP' ht hc bP fun ctv h' tk hx hsz => ?_
    have I1 : Inv X pins σ H { s with heap := h'.push (PySem.W.kla_obj "<lambda>" (X.env.qual ++ "<lambda>") params body scope (cloFrom X.env.cells scope.names []) ((X.mg "__name__").getD .none) c' ctv), toks := tk } := I.kept fun b o e => Heap.get?_push_of_some _ (hx b o e)
    exact h h'.objs.size c' ((X.mg "__name__").getD .none) ctv R H _ I1 (Fx.refl k) hT (Heap.get?_push_size _ rfl) (I.hok.fresh hsz) (nofr _ hsz) hco
end
/-- the context of a lambda's body -/
def lamCxN (X : Cx) (A : Around) (outer : List Env) (s : Shared) (H : Hp) (E : XK) (scope : Scope) (f c' : Addr) : Cx where
  prog := X.prog
  w := X.w
  K := X.K
  mg := X.mg
  base := X.base
  A := A.deeper (LamX.lamEnv X scope s.heap.objs.size f c')
  N := X.N
  s_0 := s
  H_0 := H
  env := LamX.lamEnv X scope s.heap.objs.size f c'
  outer := outer
  stack := LamX.lamEnv X scope s.heap.objs.size f c' :: outer
  ex := []
  fn := fun _ => false
  calm := true
  pn := []
  xe := fun e s' => wpAny (model X.prog X.w) (A.deeper (LamX.lamEnv X scope s.heap.objs.size f c')) (leaving (LamX.lamEnv X scope s.heap.objs.size f c') e) (fun _ s'' => L2N.CX X.prog X.w outer H s E e s'') (fun e' s'' => L2N.CX X.prog X.w outer H s E e' s'') s'
section
variable {X : Cx} {pins : List (Addr × Obj)} {σ : L2.St} {H HZ : Hp} {s s1 : Shared}
theorem lam_startN {A : Around} {outer : List Env} {E : XK} {scope : Scope} {f c' : Addr} {h₁ : Heap} {tk : Nat} (I : Inv X pins σ H s) (L : LamX.LamS X.env.scope scope) (e0 : Env0 X.prog X.w X.K X.mg X.base A outer s1 HZ) (hd : A.handled = none)
    (un : Un (frs X.stack) [] H HZ s.heap s1.heap) (hns : h₁.Ns s1.heap.objs.size fun y => ([] : List (Str × Value)).reverse.lookup y) (kp : ∀ b o, s1.heap.get? b = some o → h₁.get? b = some o) :
    Inv (lamCxN X A outer s1 HZ E scope f c') [] σ HZ { s1 with heap := h₁, toks := tk } := by
  have hfree := L.has I.ok
  have cm : ∀ {y c}, (cloFrom X.env.cells scope.names []).lookup y = some c → X.env.cells.lookup y = some c := fun {y c} e => by
    rcases cloFrom_mem (PySem.mem_of_lookup e) with hm | ⟨h1, h2⟩
    · cases hm
    · obtain ⟨c1, hc⟩ := hfree _ h1 rfl
      have hc : X.env.cells.lookup y = some c1 := hc
      have e2 : c = c1 := by
        rw [h2, hc] <;> rfl
      rw [e2]
      exact hc
  have look : ∀ {y}, scope.names.lookup y = some .free → ∃ c, (cloFrom X.env.cells scope.names []).lookup y = some c := fun {y} hl => by
    have hy : (y, NameKind.free) ∈ scope.names := PySem.mem_of_lookup hl
    exact mem_lookup (cloFrom_has (cells := X.env.cells) (acc := []) hy)
  have cellK : ∀ {c : Addr} {v : Option Value}, H c = none → s.heap.IsCell c v → h₁.IsCell c v := fun {c v} n ⟨o, ho, hd⟩ => by
    obtain ⟨sl, q⟩ := un.any ho n (by simp)
    exact ⟨_, kp _ _ q, hd⟩
  have noA : ∀ b : Addr, b ∉ (lamCxN X A outer s1 HZ E scope f c').ex := fun b z => absurd (show b ∈ ([] : List Addr) from z) (by simp)
  refine ⟨⟨e0.mod, L.kind, rfl, rfl, Nat.le_refl _, fun y z c e1 e2 => I.ok.inj y z c (cm e1) (cm e2), fun y hy => ?_, fun y c z _ => ?_, fun _ => hd, Around.frames_deeper e0.frames, .inr ⟨rfl, rfl⟩, fun b z => absurd z (noA b), e0.bs, e0.bsz, fun b _ _ => noA b,
      fun b z => absurd z (noA b), e0.funs, e0.frf⟩,
    rfl, e0.bare, Un.kept kp, ⟨_, hns, fun i y v e1 e2 e3 => ?_⟩, fun y c e => ?_, e0.hok.fresh (Nat.le_refl _), fun y c e => ?_, fun q hq => absurd (show q ∈ ([] : List (Addr × Obj)) ++ [] from hq) (by simp), e0.hok.kept kp, I.len⟩
  · have hy : scope.names.lookup y = some .cell ∨ scope.names.lookup y = some .free := hy
    rcases hy with hy | hy
    · exact absurd rfl (L.own _ (PySem.mem_of_lookup hy)).2
    · exact look hy
  · have z : false = true := z
    cases z
  · have e3 : Vis scope y := e3
    rcases e3 with k | k | k
    · exact absurd rfl (L.own _ (PySem.mem_of_lookup k)).1
    · exact absurd rfl (L.own _ (PySem.mem_of_lookup k)).2
    · obtain ⟨m, hn, hl⟩ := I.loc
      have hvis : Vis X.env.scope y := (L.free _ (PySem.mem_of_lookup k) rfl).elim (fun k => .inr (.inl k)) (fun k => .inr (.inr k))
      obtain ⟨w', r, q⟩ := hl i y v e1 e2 hvis
      obtain ⟨c2, h2⟩ := look k
      refine ⟨w', r, .inr ⟨.inr k, c2, h2, ?_⟩⟩
      have c1 := cm h2
      rcases q with ⟨k', _⟩ | ⟨_, c3, e', z⟩
      · have k' : X.env.scope.names.lookup y = some .local := k'
        rcases L.free _ (PySem.mem_of_lookup k) rfl with k2 | k2 <;> rw [show X.env.scope.names.lookup y = _ from k2] at k' <;> cases k'
      · rw [c1] at e'
        cases e'
        exact cellK (I.freeC y _ c1) z
  · obtain ⟨w', z⟩ := I.cell y c (cm e)
    exact ⟨w', cellK (I.freeC y c (cm e)) z⟩
  · obtain ⟨v, o, ho, hd⟩ := I.cell y c (cm e)
    exact un.free c o ho (I.freeC y c (cm e)) (by simp)
/-- a(), in the def that got the lambda -/
theorem pe_actN {CXg : CXT} {Eg : XK} {Ng : List Str} {qg : Str} {sg : Scope} {g f c' : Addr} {cdg pm ctv : Value} {params : Arguments} {body : Expr} {scope : Scope} {k i : Nat} {a : Str} {pn : List (Addr × Obj)} {xe : Value → Shared → Prop} {W : WX} {tb : XK → TE} {p1 p2 : Pos}
    (I : Inv X pins σ H s) (L : LamX.LamS X.env.scope scope) (hf : s.heap.get? f = some (PySem.W.kla_obj "<lambda>" (X.env.qual ++ "<lambda>") params body scope (cloFrom X.env.cells scope.names []) pm c' ctv)) (hfn : H f = none) (hfr : f ∉ frs X.stack)
    (hbind : bindArgs (PySem.W.kla_fn "<lambda>" (X.env.qual ++ "<lambda>") params body scope (cloFrom X.env.cells scope.names []) pm (.ref c') ctv) ⟨[], []⟩ = pure [])
    (tk : L2N.Takes ((cxOf CXg X.prog X.w X.K X.mg X.base Ng qg sg g cdg X.A X.stack s H Eg).tr pn xe) W) (hGd : X.A.guards = some []) (hr : Room (k + 1) (X.A.deeper (envOfC qg sg s.heap.objs.size g cdg)))
    (hbody : ∀ (A : Around) (outer : List Env) (s : Shared) (H : Hp) (E : XK), A.guards = some [] → Room k (A.deeper (LamX.lamEnv X scope s.heap.objs.size f c')) → PE (lamCxN X A outer s H E scope f c') body (tb E))
    (hN : Ng[i]? = some a) (hv : Vis sg a) (hd : (a == ("__debug__" : Str)) = false := by decide) (hcd : (a == ("__classdict__" : Str)) = false := by decide) :
    PE ((cxOf CXg X.prog X.w X.K X.mg X.base Ng qg sg g cdg X.A X.stack s H Eg).tr pn xe) (.Call (.Name a p1) [] [] p2)
      (fun σZ HZ Q => σZ[i]? = some (some (.ref f)) ∧ HZ c' = some (LamX.CodeO c' (X.env.qual ++ "<lambda>")) ∧ tb (fun cls d H => W cls d σZ H) σ HZ Q) := by
  refine ⟨fun pinsZ sZ σZ HZ Q IZ h => ?_⟩
  obtain ⟨hs, hc, ht⟩ := h
  refine wpAny_Call_Name_kw (thn ((pe_var (pos := p1) (i := i) hN hv hd hcd).run pinsZ sZ σZ HZ (fun v H1 => v = .ref f ∧ H1 = HZ) IZ ⟨.ref f, hs, rfl, rfl⟩) fun u s1 ⟨v, H1, I1, r1, q1⟩ => ?_)
  obtain ⟨ev, eH⟩ := q1
  subst ev
  rw [eH] at I1
  obtain rfl : u = Value.ref f := r1
  have of1 : s1.heap.get? f = some (PySem.W.kla_obj "<lambda>" (X.env.qual ++ "<lambda>") params body scope (cloFrom X.env.cells scope.names []) pm c' ctv) := I1.base.keep f _ hf hfn hfr (fun z => nomatch (show f ∈ ([] : List Addr) from z))
  refine PySem.W.callWith_F0 ⟨_, _, _, _, of1⟩ ?_
  have un : Un (frs X.stack) [] H HZ s.heap s1.heap := I1.base
  obtain ⟨⟨oc, vs, t, hoc, hdc, hvc⟩, _, _⟩ := I1.hok c' _ hc
  have rc : codeAny (model X.prog X.w) (X.A.deeper (envOfC qg sg s.heap.objs.size g cdg)) (.call (.ref f) ⟨[], []⟩) (CR (L2N.CX X.prog X.w) (envOfC qg sg s.heap.objs.size g cdg :: X.stack) X.prog X.w HZ s1 Q (fun cls d H => W cls d σZ H)) s1 := by
    refine PySem.W.kla_callFunE hr.depth of1 rfl L.co L.gen rfl ⟨c', oc, vs, t, rfl, hoc, hdc, hvc⟩ ?_
    rw [hbind]
    refine wpAny_pure (wpAny_newFunctionEnv (fun y hy => (L.own y hy).2) (fun y hy => absurd hy (by simp)) (fun h₁ hns hsb => ⟨I1.nolimit.fresh _ hsb, ?_⟩) L.kind)
    show codeAny _ _ (.expr body (LamX.lamEnv X scope s1.heap.objs.size f c')) _ _
    have kp : ∀ b o, s1.heap.get? b = some o → h₁.get? b = some o := fun b o e => hsb.extBut b o (Nat.ne_of_lt (Heap.lt_size e)) (Heap.get?_push_of_some _ e)
    have J : Inv (lamCxN X (X.A.deeper (envOfC qg sg s.heap.objs.size g cdg)) (envOfC qg sg s.heap.objs.size g cdg :: X.stack) s1 HZ (fun cls d H => W cls d σZ H) scope f c') [] σ HZ { s1 with heap := h₁, toks := s1.toks + ([] : List (Str × Value)).length } :=
      lam_startN I L I1.env0 hr.hd un hns kp
    refine PySem.W.kla_codeExpr (wpAny_mono ((hbody (X.A.deeper (envOfC qg sg s.heap.objs.size g cdg)) _ s1 HZ _ hGd (hr.deeper _)).run [] _ _ HZ Q J ht) (fun v s' hq => ?_) fun e s' hq => hq)
    obtain ⟨w', H', J', rv, q⟩ := hq
    exact ⟨w', H', J'.os, J'.bare, J'.base, J'.hok, rv, q⟩
  refine wpAny_call (codeAny_mono rc fun r s' hq => ?_)
  cases r with
  | error e => exact tk e s' (L2N.XE.of_call I1 (fun _ _ _ h => h) hq)
  | ok fl =>
    cases fl with
    | ret u => exact I1.after hq
    | next => exact False.elim hq
    | brk => exact False.elim hq
    | cont => exact False.elim hq
end
end Ld
/-! Gg: replied(lambda: ..). -/
namespace Ld
open PySem PySem.Spec L2 PyProof.Rows
/-- what replied makes of an error -/
def EchR (K : PySem.W.Frag) (Q : VK) : XK := fun cls d H => ∃ (R : Hp) (e : Err), cls = .ref (He.ga K e.c) ∧ Same R H ∧ FieldAt R H e d ∧ ∀ (R' H' : Hp) (v : V), Fx [] R H R' H' → At R' v (faultD e) → Q v H'
/-- what replied makes of a lambda whose reading is tl -/
def TRep (K : PySem.W.Frag) (tl : XK → Hp → VK → Prop) (H : Hp) (Q : VK) : Prop := ∀ l, H l = none → tl (EchR K Q) (upd H l (.lst [])) (fun v H' => H' l = some (.lst []) ∧ Q (.ref l) (upd H' l (.lst [v])))
def cs1 (K : PySem.W.Frag) : List Value := [.ref (He.ga K (kn 0)), .ref (He.ga K (kn 1)), .ref (He.ga K (kn 2)), .ref (He.ga K (kn 3)), .ref (He.ga K (kn 4)), .ref (He.ga K (kn 5)), .ref (He.ga K (kn 6))]
def cs2 (K : PySem.W.Frag) : List Value := [.ref (He.ga K (kn 7)), .ref (He.ga K (kn 8)), .ref (He.ga K (kn 9)), .ref (He.ga K (kn 10))]
section
variable {w : World} {K : PySem.W.Frag} {mg : Str → Option Value}
theorem Tz.exm (Z : Tz w K mg) {i : Nat} (hi : i < 11) (j : Nat) (hj : j < 11 := by decide) : PySem.W.exmOne K (.ref (He.ga K (kn i))) (.ref (He.ga K (kn j))) = some (decide (j = i)) := by
  have kj := Z.kd j hj
  have h := (Z.kd i hi).subR (He.ga K (kn j))
  have e : decide (He.ga K (kn j) = He.ga K (kn i)) = decide (j = i) := by
    by_cases h : j = i
    · rw [h, decide_eq_true rfl, decide_eq_true rfl]
    · rw [decide_eq_false h, decide_eq_false (Z.neK hj hi h)]
  rw [e] at h
  exact PySem.W.exm_ref kj.subB kj.hd kj.ty h
/-- which kind an address is of -/
def isKd (K : PySem.W.Frag) (i : Nat) (c : Value) : Bool := match c with
  | .ref a => decide (a = He.ga K (kn i))
  | _ => false
theorem Tz.exm2 (Z : Tz w K mg) {i : Nat} (hi : i < 11) (j : Nat) (hj : j < 11 := by decide) : PySem.W.exmOne K (.ref (He.ga K (kn i))) (.ref (He.ga K (kn j))) = some (isKd K i (.ref (He.ga K (kn j)))) := by
  rw [Z.exm hi j hj]
  unfold isKd
  congr 1
  by_cases h : j = i
  · rw [h, decide_eq_true rfl]; exact (decide_eq_true rfl).symm
  · rw [decide_eq_false h]; exact (decide_eq_false (Z.neK hj hi h)).symm
theorem Tz.ex1 (Z : Tz w K mg) {i : Nat} (hi : i < 11) : ∀ c ∈ cs1 K, PySem.W.exmOne K (.ref (He.ga K (kn i))) c = some (isKd K i c) := by
  intro c hc
  simp only [cs1, List.mem_cons, List.not_mem_nil, or_false] at hc
  rcases hc with rfl | rfl | rfl | rfl | rfl | rfl | rfl
  · exact Z.exm2 hi 0
  · exact Z.exm2 hi 1
  · exact Z.exm2 hi 2
  · exact Z.exm2 hi 3
  · exact Z.exm2 hi 4
  · exact Z.exm2 hi 5
  · exact Z.exm2 hi 6
theorem Tz.ex2' (Z : Tz w K mg) {i : Nat} (hi : i < 11) : ∀ c ∈ cs2 K, PySem.W.exmOne K (.ref (He.ga K (kn i))) c = some (isKd K i c) := by
  intro c hc
  simp only [cs2, List.mem_cons, List.not_mem_nil, or_false] at hc
  rcases hc with rfl | rfl | rfl | rfl
  · exact Z.exm2 hi 7
  · exact Z.exm2 hi 8
  · exact Z.exm2 hi 9
  · exact Z.exm2 hi 10
theorem cs2_any (K : PySem.W.Frag) {i : Nat} (hi : i < 11) (h : (cs1 K).any (isKd K i) = false) : (cs2 K).any (isKd K i) = true := by
  have self : isKd K i (.ref (He.ga K (kn i))) = true := decide_eq_true rfl
  match i, hi with
  | 0, _ | 1, _ | 2, _ | 3, _ | 4, _ | 5, _ | 6, _ => rw [List.any_eq_false] at h; exact absurd self (h _ (by simp [cs1]))
  | 7, _ | 8, _ | 9, _ | 10, _ => exact List.any_eq_true.mpr ⟨_, by simp [cs2], self⟩
end
/-- the suite: return fault(e) -/
def tsF (K : PySem.W.Frag) : Addr → Value → Option Addr → TS := fun a cls d D σ H => σ[2]? = some (some (.ref a)) ∧ EchR K D.rt cls d H
section
variable {X : Cx}
theorem suite_fault {a : Addr} {oe : Obj} {cls : Value} {d : Option Addr} {pn : List (Addr × Obj)} {p q pos pos2 : Pos} (PF : PP X.prog) (Z : Tz X.w X.K X.mg) (hG : X.A.guards = some []) (hr : Room 1 X.A) (hN : X.N[2]? = some ("e" : Str)) (hv : Vis X.env.scope ("e" : Str)) (hg : Gl X ("_law_fault" : Str))
    (hz : L2N.Zn cls d oe) (hf : ∃ vs, oe.data = .fields vs) : PSs (X.suite a ((a, oe) :: pn)) [.Return (some (.Call (.Name "_law_fault" q) [.Name "e" p] [] pos)) pos2] (tsF X.K a cls d) := by
  have T := Z.t
  have hot : L2H.Hot1 (X.suite a ((a, oe) :: pn)).A (a, oe) := by
    obtain ⟨vs, hv⟩ := hf
    exact ⟨rfl, vs, hv, hz.2.2 vs hv⟩
  have hr' : L2H.RoomH 1 (X.suite a ((a, oe) :: pn)).A := ⟨hr.dp, hr.un⟩
  have base : PSs (X.suite a ((a, oe) :: pn)) [.Return (some (.Call (.Name "_law_fault" q) [.Name "e" p] [] pos)) pos2] _ :=
    pss_one (ps_ret (pe_callF (X := X.suite a ((a, oe) :: pn)) (p := (a, oe)) (E := fun _ _ _ => False) hG (ok_lfault (base := X.base) PF Z) hr' hot List.mem_cons_self hg T.g_lfault T.k_lfault T.b_lfault pass0 (pa_cons (pe_var (i := 2) hN hv) pa_nil)))
  refine ⟨fun pins s σ H D I h => base.run pins s σ H D I ?_⟩
  obtain ⟨h1, R, e, rfl, k, fa, q⟩ := h
  exact ⟨_, h1, R, e, d, rfl, k, hz, hf, fa, q⟩
def tbR (K : PySem.W.Frag) (f c' : Addr) (q : Str) (tl : XK → Hp → VK → Prop) : WX → TS := fun W => tDrop (tBM K "list" rAppend (tVar 1) (tCons (fun σZ HZ Q => σZ[0]? = some (some (.ref f)) ∧ HZ c' = some (LamX.CodeO c' q) ∧ tl (fun cls d H => W cls d σZ H) HZ Q) tNil))
def lrepTry : Stmt := (defBody st_lreplied).getD 1 (.Pass ⟨0, 0, 0, 0⟩)
/-- replied's body, the lambda's reading tl given -/
theorem rep_body {f c' : Addr} {cdv : Value} {s : Shared} {H : Hp} {Q : VK} {tl : XK → Hp → VK → Prop} {q : Str} (PF : PP X.prog) (Z : Tz X.w X.K X.mg) (hG : X.A.guards = some []) (hr : Room 1 (X.A.deeper (envOfC "_law_replied" (defScope st_lreplied) s.heap.objs.size (a_lreplied X.K) cdv)))
    (act : ∀ (W : WX) (pn : List (Addr × Obj)) (xe : Value → Shared → Prop) (p1 p2 : Pos), L2N.Takes ((cxOf CX0 X.prog X.w X.K X.mg X.base N_lreplied "_law_replied" (defScope st_lreplied) (a_lreplied X.K) cdv X.A X.stack s H (fun _ _ _ => False)).tr pn xe) W →
      PE ((cxOf CX0 X.prog X.w X.K X.mg X.base N_lreplied "_law_replied" (defScope st_lreplied) (a_lreplied X.K) cdv X.A X.stack s H (fun _ _ _ => False)).tr pn xe) (.Call (.Name "_law_call" p1) [] [] p2) (fun σZ HZ Q => σZ[0]? = some (some (.ref f)) ∧ HZ c' = some (LamX.CodeO c' q) ∧ tl (fun cls d H => W cls d σZ H) HZ Q))
    (mono : ∀ (E E' : XK) (H : Hp) (Q Q' : VK), tl E H Q → (∀ cls d H, E cls d H → E' cls d H) → (∀ v H, Q v H → Q' v H) → tl E' H Q')
    (hc : H c' = some (LamX.CodeO c' q)) (h : TRep X.K tl H Q) :
    ∃ t, PSs (cxOf CX0 X.prog X.w X.K X.mg X.base N_lreplied "_law_replied" (defScope st_lreplied) (a_lreplied X.K) cdv X.A X.stack s H (fun _ _ _ => False)) (defBody st_lreplied) t ∧ t { nx := fun _ H' => Q .non H', rt := Q } (L2.start N_lreplied [.ref f]) H := by
  have T := Z.t
  have nd := sc_lreplied.nd
  have n2 : (cxOf CX0 X.prog X.w X.K X.mg X.base N_lreplied "_law_replied" (defScope st_lreplied) (a_lreplied X.K) cdv X.A X.stack s H (fun _ _ _ => False)).N[2]? = some ("e" : Str) := rfl
  obtain ⟨s1, s2, s3, e1, e2⟩ : ∃ s1 s2 s3, defBody st_lreplied = [s1, s2, s3] ∧ PS (cxOf CX0 X.prog X.w X.K X.mg X.base N_lreplied "_law_replied" (defScope st_lreplied) (a_lreplied X.K) cdv X.A X.stack s H (fun _ _ _ => False)) s2 (fun D σ H => tbR X.K f c' q tl (wTup X.K 2 D [(cs1 X.K, tsF X.K), (cs2 X.K, tsF X.K)]) D σ H) := by
    refine ⟨_, _, _, rfl, ?_⟩
    refine ps_try_tup (tb := tbR X.K f c' q tl) (l := [(cs1 X.K, tsF X.K), (cs2 X.K, tsF X.K)]) (n := "e") (i := 2) rfl rfl nd rfl rfl (fun W pn xe tk _ => ?_) ?_
    · exact pss_one (ps_expr (pe_bm PySem.F.plainAttrs_list PySem.F.slot_list_append PySem.F.type_list_append mt_append (pv 1) (pa_cons (act W pn xe _ _ tk) pa_nil)))
    · exact .cons (cs := cs1 X.K) (.cons ⟨rfl, by decide, .inl T.g_InvalidNode⟩ (.cons ⟨rfl, by decide, .inl T.g_InvalidEdge⟩ (.cons ⟨rfl, by decide, .inl T.g_InvalidLength⟩ (.cons ⟨rfl, by decide, .inl T.g_InvalidChange⟩ (.cons ⟨rfl, by decide, .inl T.g_TooMany⟩ (.cons ⟨rfl, by decide, .inl T.g_UnknownNode⟩ (.cons ⟨rfl, by decide, .inl T.g_UnknownEdge⟩ .nil))))))) (by show 7 ≤ sizeLine; decide)
        (fun a oe cls d pn hz hf => suite_fault PF Z hG hr n2 (.inl rfl) rfl hz hf)
        (.cons (cs := cs2 X.K) (.cons ⟨rfl, by decide, .inl T.g_OutOfRange⟩ (.cons ⟨rfl, by decide, .inl T.g_NothingToUndo⟩ (.cons ⟨rfl, by decide, .inl T.g_NothingToRedo⟩ (.cons ⟨rfl, by decide, .inl T.g_InTrial⟩ .nil)))) (by show 4 ≤ sizeLine; decide)
          (fun a oe cls d pn hz hf => suite_fault PF Z hG hr n2 (.inl rfl) rfl hz hf) .nil)
  have eb : [s1, s2, s3] = defBody st_lreplied := e1.symm
  have h1 : (defBody st_lreplied)[1]? = some s2 := by rw [e1]; rfl
  have hs2 : s2 = lrepTry := (Option.some.inj h1).symm
  subst hs2
  refine ⟨_, pss_cons (ps_set (i := 1) nd rfl (.inl rfl) (pe_lst pa_nil)) (pss_cons e2 (pss_one (ps_ret (pv 1)))), ?_⟩
  refine ⟨Nat.zero_le _, fun l hl => ?_⟩
  refine ⟨_, rfl, .inl ⟨rfl, _, SqL.of upd_same⟩, rfl, ?_, mono _ _ _ _ _ (h l hl) (fun cls d H1 hE => ?_) (fun v H1 ⟨e1, q⟩ => ⟨l, [], v, rfl, rfl, e1, by show 0 < sizeLine; decide, _, rfl, q⟩)⟩
  · rw [upd_ne (ne_of_none hc hl)]
    exact hc
  · obtain ⟨R', e, rfl, k, fa, qq⟩ := hE
    have hi := e.ki_lt
    refine ⟨isKd X.K e.ki, by rw [e.ki_c]; exact Z.ex1 hi, fun _ a _ => ⟨rfl, R', e, rfl, k, fa, qq⟩, fun h1 => ⟨isKd X.K e.ki, by rw [e.ki_c]; exact Z.ex2' hi, fun _ a _ => ⟨rfl, R', e, rfl, k, fa, qq⟩, fun h2 => ?_⟩⟩
    rw [cs2_any X.K hi h1] at h2
    cases h2
end
end Ld
/-! Gh: the call replied(lambda: body). -/
namespace Ld
open PySem PySem.Spec L2 PyProof.Rows
def lamQ (X : Cx) : Str := X.env.qual ++ "<lambda>"
def tLamN (K : PySem.W.Frag) (P : Addr) (q : Str) (t : XK → TE) : TE := fun σ H Q => ∃ R, Same R H ∧ TabR R H P q ∧ ∀ R1 H1, Fx [P] R H R1 H1 → TabR R1 H1 P q → TRep K (fun E H' Q' => t E σ H' Q') H1 Q
/-- a reading that may be weakened -/
def MonoE (t : XK → TE) : Prop := ∀ (E E' : XK) (σ : L2.St) (H : Hp) (Q Q' : VK), t E σ H Q → (∀ cls d H, E cls d H → E' cls d H) → (∀ v H, Q v H → Q' v H) → t E' σ H Q'
theorem pe_lamN {X : Cx} {c P : Addr} {k : Nat} {params : Arguments} {body : Expr} {scope : Scope} {t : XK → TE} {p lpos pos : Pos} (PF : PP X.prog) (Z : Tz X.w X.K X.mg) (hG : X.A.guards = some []) (hg : Gl X "_law_replied")
    (TB : LamX.TabB X.base X.mg c P) (hcode : X.env.code = .ref c) (hr : Room (k + 3) X.A) (L : LamX.LamS X.env.scope scope) (hdef : defaultsOf params X.env = ([], []))
    (hbind : ∀ (q : Str) (cl : List (Str × Addr)) (pm cv ctv : Value), bindArgs (PySem.W.kla_fn "<lambda>" q params body scope cl pm cv ctv) ⟨[], []⟩ = pure [])
    (hbody : ∀ (A : Around) (outer : List Env) (s : Shared) (H : Hp) (E : XK) (f c' : Addr), A.guards = some [] → Room (k + 1) (A.deeper (LamX.lamEnv X scope s.heap.objs.size f c')) → PE (lamCxN X A outer s H E scope f c') body (t E)) (hm : MonoE t) :
    PE X (.Call (.Name "_law_replied" p) [.Lambda params body scope lpos] [] pos) (tLamN X.K P (lamQ X) t) := by
  have T := Z.t
  refine ⟨fun pins s σ H Q I h => ?_⟩
  obtain ⟨R, kR, hT, h⟩ := h
  refine wpAny_Call_Name_kw (ld_glob I hg T.g_lreplied ?_ (by decide))
  refine PySem.W.callWith_K (h₀ := X.base) I.ok.mod.kin T.k_lreplied ?_ (by rfl) (by rfl)
  show wpAny _ _ (spliced ((false, eval (.Lambda params body scope lpos) X.env) :: backTo pos (starEach [] X.env))) _ _ s
  refine Calls.spliced_cons (lam_make3 I kR TB hcode hT hdef (L.has I.ok) fun f c' pm' ctv R1 H1 s' I1 f1 T1 hf hfn hfr hco => ?_)
  refine Calls.spliced_nil ⟨I1.kIn, ?_⟩
  have b := T.b_lreplied s' [.ref f] I1.kIn rfl
  obtain ⟨oc, od, dV, kV, doc, pm, an, cdv, ct, osl, efd, lk, hcd, _, _⟩ := T.d_lreplied.ex
  rw [efd] at b lk
  have hco1 : H1 c' = some (LamX.CodeO c' (lamQ X)) := f1.rh _ _ hco
  have rc : codeAny (model X.prog X.w) X.A (.call (.ref (a_lreplied X.K)) ⟨[.ref f], []⟩) (CR CX0 X.stack X.prog X.w H1 s' Q (fun _ _ _ => False)) s' := by
    refine LamX.run_ofS (k := k + 2) (N := N_lreplied) (ps := P_lreplied) (us := [.ref f]) (vs := [.ref f]) lk hcd sc_lreplied hr I1.env0 b (.cons rfl .nil) rfl fun hr' => ?_
    refine rep_body (tl := fun E H' Q' => t E σ H' Q') (q := lamQ X) PF Z hG (hr'.mono (by omega)) (fun W pn xe p1 p2 tk => ?_) (fun E E' H Q Q' a b c => hm E E' σ H Q Q' a b c) hco1 (h R1 H1 f1 T1)
    exact pe_actN (i := 0) (k := k + 1) (tb := t) I1 L hf hfn hfr (hbind _ _ _ _ _) tk hG hr' (fun A outer s H E hA hr2 => hbody A outer s H E f c' hA hr2) rfl (.inl rfl)
  refine wpAny_call (codeAny_mono rc fun r s2 hq => ?_)
  cases r with
  | error e => exact (show False from hq).elim
  | ok fl =>
    cases fl with
    | ret u => exact I1.after hq
    | next => exact False.elim hq
    | brk => exact False.elim hq
    | cont => exact False.elim hq
end Ld
/-! Gi: sorted(edges); a text == data; the one sorted form of a network. -/
namespace Ld
open PySem PySem.Spec L2 PyProof.Rows SrtO Srt
theorem nl_tr {a b c : List Nat} (h1 : ¬ b < a) (h2 : ¬ c < b) : ¬ c < a := fun h => by
  rcases Classical.em (a < b) with h3 | h3
  · exact h2 (List.lt_trans h h3)
  · have e : a = b := List.le_antisymm h1 h3
    exact h2 (e ▸ h)
theorem swoS {α : Type} (k : α → Str) : Swo fun v u => ltS (k v) (k u) :=
  ⟨fun x y h => decide_eq_false (List.lt_asymm (of_decide_eq_true h)), fun x y z h1 h2 => decide_eq_false (nl_tr (of_decide_eq_false h1) (of_decide_eq_false h2))⟩
/-- the edge that stands at v -/
noncomputable def edgAt (R : Hp) (v : V) : Edg := by
  classical
  exact if h : ∃ e : Edg, At R v e.d then h.choose else ⟨"", "", "", 0⟩
theorem Edg.d_inj {e f : Edg} (h : e.d = f.d) : e = f := by
  cases e
  cases f
  simp only [Edg.d, PyData.tuple.injEq, List.cons.injEq, PyData.str.injEq, PyData.int.injEq, and_true] at h
  obtain ⟨rfl, rfl, rfl, rfl⟩ := h
  rfl
theorem edgAt_eq {R : Hp} {v : V} {e : Edg} (h : At R v e.d) : edgAt R v = e := by
  have hx : ∃ e : Edg, At R v e.d := ⟨e, h⟩
  unfold edgAt
  rw [dif_pos hx]
  exact Edg.d_inj (At.inj _ _ hx.choose_spec _ h)
theorem edgAt_all {R : Hp} : ∀ {xs : List V} {es : List Edg}, AtL R xs (es.map Edg.d) → xs.map (edgAt R) = es ∧ ∀ x ∈ xs, At R x (edgAt R x).d
  | [], [], _ => ⟨rfl, fun _ h => by cases h⟩
  | x :: xs, e :: es, h => by
    cases h with
    | cons a b =>
      obtain ⟨h1, h2⟩ := edgAt_all b
      have e1 := edgAt_eq a
      refine ⟨by rw [List.map_cons, h1, e1], fun y hy => ?_⟩
      rcases List.mem_cons.mp hy with rfl | hy
      · rw [e1]; exact a
      · exact h2 y hy
theorem edgAt_back {R : Hp} : ∀ {ys : List V}, (∀ y ∈ ys, At R y (edgAt R y).d) → AtL R ys ((ys.map (edgAt R)).map Edg.d)
  | [], _ => .nil
  | y :: ys, h => .cons (h y List.mem_cons_self) (edgAt_back fun z hz => h z (List.mem_cons_of_mem _ hz))
/-- the tuple of an edge in the heap -/
def IsEdg (h : Heap) (v : Value) (e : Edg) : Prop := ∃ a o t1 t2 t3 t4 n, v = .ref a ∧ h.get? a = some o ∧ o.cls = .type "tuple" ∧ o.data = .seq #[.str e.n t1, .str e.u t2, .str e.v t3, .int e.l t4] n
section
variable {prog : Program} {w : World} {A : Around} {E : Value → Shared → Prop} {s : Shared}
theorem IsEdg.keeps {h h' : Heap} {v : Value} {e : Edg} (i : IsEdg h v e) (k : ∀ b o, h.get? b = some o → o.cls = .type "tuple" → h'.get? b = some o) : IsEdg h' v e := by
  obtain ⟨a, o, t1, t2, t3, t4, n, e1, h1, h2, h3⟩ := i
  exact ⟨a, o, t1, t2, t3, t4, n, e1, k a o h1 h2, h2, h3⟩
theorem edg_cmp {vs : List Value} {k : Value → Edg} (hp : ∀ v ∈ vs, IsEdg s.heap v (k v)) (hu : ∀ v ∈ vs, ∀ u ∈ vs, (k v).n = (k u).n → k v = k u) : Cmp prog w A s (tuples' true) (fun p => p.1 ∈ vs) (lt2 fun v u => ltS (k v).n (k u).n) := by
  intro p q hm hm'
  have h1 := hp _ hm
  have h2 := hp _ hm'
  have h3 := hu _ hm _ hm'
  show wpAny (model prog w) A (keyLt' (tuples' true) p.1 q.1) (fun r s' => s' = s ∧ r = ltS (k p.1).n (k q.1).n) (fun _ _ => False) s
  generalize k p.1 = x at h1 h3 ⊢
  generalize k q.1 = y at h2 h3 ⊢
  obtain ⟨a, o, t1, t2, t3, t4, n, e, ho, hc, hd⟩ := h1
  obtain ⟨a', o', t1', t2', t3', t4', n', e', ho', hc', hd'⟩ := h2
  rw [e, e']
  refine PySem.W.kat_lt ho hd ho' hd' ?_
  show PySem.W.KatLex prog w A true (decide (4 < 4)) _ [(.str x.n t1, .str y.n t1'), (.str x.u t2, .str y.u t2'), (.str x.v t3, .str y.v t3'), (.int x.l t4, .int y.l t4')] 0 s
  refine PySem.W.kat_cons (SeqAt.EqAt.str_str x.n t1 y.n t1' prog w _ _ ?_)
  refine PySem.W.kat_go (fun e1 => ?_) (fun e1 => ?_)
  · have en : x.n = y.n := eq_of_beq e1
    have exy : x = y := h3 en
    subst exy
    have hb : ∀ z : Str, (z == z) = true := fun z => beq_self_eq_true z
    refine PySem.W.kat_yes (PySem.W.kat_cons (SeqAt.EqAt.str_str x.u t2 x.u t2' prog w _ _ ?_))
    rw [hb]
    refine PySem.W.kat_yes (PySem.W.kat_cons (SeqAt.EqAt.str_str x.v t3 x.v t3' prog w _ _ ?_))
    rw [hb]
    refine PySem.W.kat_yes (PySem.W.kat_cons (SeqAt.EqAt.int_int x.l t4 x.l t4' prog w _ _ ?_))
    refine PySem.W.kat_go (fun _ => ?_) (fun e2 => absurd e2 (by simp))
    exact PySem.W.kat_yes (PySem.W.kat_nil ⟨rfl, (decide_eq_false (List.lt_irrefl _)).symm⟩)
  · exact PySem.W.kat_no (oneLt_str ⟨rfl, rfl⟩)
theorem edg_firsts {h : Heap} {k : Value → Edg} : ∀ {vs : List Value}, (∀ v ∈ vs, IsEdg h v (k v)) → ∃ fs, PySem.W.KatTups h vs fs ∧ fs.length = vs.length ∧ ∀ f ∈ fs, ∃ x t, f = Value.str x t
  | [], _ => ⟨[], PySem.W.KatTups.nil, rfl, fun _ h => by cases h⟩
  | v :: vs, hp => by
    obtain ⟨fs, h1, h2, h3⟩ := edg_firsts (vs := vs) fun u hu => hp u (List.mem_cons_of_mem _ hu)
    obtain ⟨a, o, t1, t2, t3, t4, n, rfl, ho, hc, hd⟩ := hp v List.mem_cons_self
    refine ⟨.str _ t1 :: fs, PySem.W.KatTups.cons ho hc hd rfl h1, by rw [List.length_cons, List.length_cons, h2], fun f hf => ?_⟩
    rcases List.mem_cons.mp hf with rfl | hf
    · exact ⟨_, _, rfl⟩
    · exact h3 f hf
theorem edg_sortableO {a : Addr} {vs : List Value} {k : Value → Edg} (h0 : 0 < vs.length) (hp : ∀ v ∈ vs, IsEdg s.heap v (k v)) (hu : ∀ v ∈ vs, ∀ u ∈ vs, (k v).n = (k u).n → k v = k u) (ha : ∀ o, s.heap.get? a = some o → o.cls ≠ .type "tuple") : SortableO prog w A s a vs fun v u => ltS (k v).n (k u).n := by
  intro h' keep
  have hp' : ∀ v ∈ vs, IsEdg h' v (k v) := fun v hm => (hp v hm).keeps fun b o e c => keep b o (fun z => by subst z; exact ha o e c) e
  obtain ⟨fs, h1, h2, h3⟩ := edg_firsts hp'
  refine ⟨tuples' true, fun Q E hq => ?_, edg_cmp hp' hu⟩
  refine PySem.W.kat_kind (T := .type "str") h1 (by omega) (fun f hm => ?_) (by rfl) ?_
  · obtain ⟨x, t, rfl⟩ := h3 f hm
    exact PySem.W.Looks.now
  · have e : (Value.type "str" != Value.type "tuple") = true := by first | decide +kernel | rfl | decide
    rw [e]
    exact hq
theorem sorted_edgs {l : Addr} {vs : List Value} {k : Value → Edg} {Q : Value → Shared → Prop} (hl : s.heap.IsList l vs.toArray) (hz : vs.length ≤ sizeLine) (hp : ∀ v ∈ vs, IsEdg s.heap v (k v)) (hu : ∀ v ∈ vs, ∀ u ∈ vs, (k v).n = (k u).n → k v = k u)
    (h : ∀ (h' : Heap) (d : Addr) (out : List Value), Srtd (fun v u => ltS (k v).n (k u).n) out → Stb (fun v u => ltS (k v).n (k u).n) out vs → (∀ b o, s.heap.get? b = some o → h'.get? b = some o) → s.heap.objs.size ≤ d → (∃ n, h'.get? d = some (seqObj "list" out.toArray n)) → Q (.ref d) { s with heap := h' }) :
    wpAny (model prog w) A (call (.builtin "sorted") [.ref l]) Q E s := by
  refine sorted_ord (swoS fun v => (k v).n) hl hz (fun h2 h₁ a ha kk => ?_) fun out hs hb => ?_
  · refine edg_sortableO (s := { s with heap := h₁ }) (by omega) (fun v hm => (hp v hm).keeps fun b o e _ => (kk b o e).2) hu fun o e => ?_
    have e' : some o = some (seqObj "list" vs.toArray 0) := e.symm.trans ha
    cases e'
    intro c
    exact absurd (Value.type.inj c) (by decide)
  · exact h _ _ out hs hb (fun b o e => sortedAll_old e) (Nat.le_succ _) (sortedAll_at s.heap vs out.toArray)
end
/-- sorted(xs), xs a list of edges of different names -/
def rSortedE (K : PySem.W.Frag) : List V → Hp → VK → Prop := fun vs H Q => ∃ (a : Addr) (xs : List V) (R : Hp) (es : List Edg), vs = [V.ref a] ∧ SqL K H a xs ∧ Same R H ∧ AtL R xs (es.map Edg.d) ∧ (es.map Edg.n).Nodup ∧
  ∀ (ys : List V) (es' : List Edg) (p : Addr), es'.Perm es → sortedS (es'.map Edg.n) = true → AtL R ys (es'.map Edg.d) → H p = none → Q (.ref p) (upd H p (.lst ys))
theorem nodup_inj {es : List Edg} (h : (es.map Edg.n).Nodup) : ∀ e ∈ es, ∀ f ∈ es, e.n = f.n → e = f := by
  induction es with
  | nil => intro e he; cases he
  | cons x r ih =>
    rw [List.map_cons, List.nodup_cons] at h
    intro e he f hf en
    rcases List.mem_cons.mp he with h1 | h1
    · rcases List.mem_cons.mp hf with h2 | h2
      · rw [h1, h2]
      · exact absurd (List.mem_map.mpr ⟨f, h2, by rw [← en, h1]⟩) h.1
    · rcases List.mem_cons.mp hf with h2 | h2
      · exact absurd (List.mem_map.mpr ⟨e, h1, by rw [en, h2]⟩) h.1
      · exact ih h.2 e h1 f h2 en
section
variable {X : Cx}
theorem cr_sortedE : CallR X (.builtin "sorted") (rSortedE X.K) := by
  intro pins s σ H vs us Q I r h
  obtain ⟨a, xs, R, es, rfl, hs, kR, hx, hn, q⟩ := h
  obtain ⟨its, rv, hl, hz⟩ := I.list hs
  obtain ⟨u, rfl, ru⟩ := vals1 r
  obtain rfl : u = Value.ref a := ru
  obtain ⟨me, mx⟩ := edgAt_all hx
  have refs : ∀ x ∈ xs, ∃ t, x = V.ref t := fun x m => by
    have := mx x m
    generalize edgAt R x = e at this
    cases this
    exact ⟨_, rfl⟩
  obtain ⟨e1, e2⟩ := refs_back rv refs
  have back : ∀ v ∈ its, backV v ∈ xs := fun v hv => by rw [e1]; exact List.mem_map.mpr ⟨v, hv, rfl⟩
  refine sorted_edgs (k := fun u => edgAt R (backV u)) hl.isList (by rw [← rv.length]; exact hz) (fun v hv => ?_) (fun v hv u hu e => ?_) fun h' d out h1 h2 kp hd hn => ?_
  · have hA := mx _ (back v hv)
    obtain ⟨t, rfl⟩ := e2 v hv
    generalize edgAt R (backV (.ref t)) = e at hA
    have hA : At R (V.ref t) e.d := hA
    cases hA with
    | tup ht ha =>
      obtain ⟨_, its2, r2, o, ho, hc, n, hd⟩ := I.hok _ _ (kR _ _ ht)
      cases ha with
      | cons a1 ha =>
        cases ha with
        | cons a2 ha =>
          cases ha with
          | cons a3 ha =>
            cases ha with
            | cons a4 ha =>
              cases ha
              cases a1
              cases a2
              cases a3
              cases a4
              cases r2 with
              | cons b1 r2 =>
                cases r2 with
                | cons b2 r2 =>
                  cases r2 with
                  | cons b3 r2 =>
                    cases r2 with
                    | cons b4 r2 =>
                      cases r2
                      obtain ⟨t1, rfl⟩ := b1
                      obtain ⟨t2, rfl⟩ := b2
                      obtain ⟨t3, rfl⟩ := b3
                      obtain ⟨t4, rfl⟩ := b4
                      exact ⟨t, o, t1, t2, t3, t4, n, rfl, ho, hc, hd⟩
  · have m1 : edgAt R (backV v) ∈ es := by rw [← me]; exact List.mem_map.mpr ⟨_, back v hv, rfl⟩
    have m2 : edgAt R (backV u) ∈ es := by rw [← me]; exact List.mem_map.mpr ⟨_, back u hu, rfl⟩
    exact nodup_inj hn _ m1 _ m2 e
  · have h3 : ∀ u ∈ out, ∃ a, u = Value.ref a := fun u hu => e2 u (h2.perm.mem_iff.mp hu)
    obtain ⟨n, hn⟩ := hn
    have hp : (out.map backV).Perm xs := by
      rw [e1]
      exact h2.perm.map _
    refine ⟨.ref d, upd H d (.lst (out.map backV)), I.laid (t' := s.toks) kp hd ⟨?_, out, n, vals_back h3, hn⟩, rfl, q _ ((out.map backV).map (edgAt R)) d (by rw [← me]; exact hp.map _) ?_ (edgAt_back fun y hy => mx y (hp.mem_iff.mp hy)) (I.hok.fresh hd)⟩
    · rw [hp.length_eq]
      exact hz
    · refine sortedS_of_pairwise _ ?_
      rw [List.map_map, List.map_map, List.pairwise_map]
      exact h1.imp fun {x y} h => by
        rw [ltCps_eq]
        exact h
/-- text == data -/
def rEqN : R2 := fun x y H Q => ∃ (n : Str) (R : Hp) (d : PyData), x = .str n ∧ Same R H ∧ At R y d ∧ Q (.bl (isS n d)) H
theorem op_eqN (hu : X.A.units + 65 < cLine) : OpR X (compareOp .Eq) rEqN := by
  intro pins s σ H x y v u Q I rx ry h
  obtain ⟨n, R, d, rfl, k, h, q⟩ := h
  obtain ⟨t, rfl⟩ := rx
  have hu1 : X.A.units < cLine := by omega
  have fin : ∀ b, isS n d = b → ∃ v' H', Inv X pins σ H' s ∧ RelV v' (.bool b) ∧ Q v' H' := fun b e => ⟨.bl b, H, I, rfl, by rw [← e]; exact q⟩
  cases h with
  | non => cases ry; exact SeqAt.RcAt.str_none n t X.prog X.w _ _ (fin _ rfl)
  | bl b => cases ry; exact SeqAt.RcAt.str_bool n t b X.prog X.w _ _ (fin _ rfl)
  | int i => obtain ⟨t', rfl⟩ := ry; exact SeqAt.RcAt.str_int n t i t' X.prog X.w _ _ (fin _ rfl)
  | str y => obtain ⟨t', rfl⟩ := ry; exact SeqAt.RcAt.str_str n t y t' X.prog X.w _ _ (fin _ rfl)
  | lst e _ =>
    cases ry
    obtain ⟨its, _, p, _⟩ := I.list (SqL.of (k _ _ e))
    exact SeqAt.RcAt.str_list n t p.isList hu1 X.prog X.w _ _ (fin _ rfl)
  | tup e _ =>
    cases ry
    obtain ⟨its, _, p, _⟩ := I.tuple (SqT.of (k _ _ e))
    exact SeqAt.RcAt.str_tuple n t p hu1 X.prog X.w _ _ (fin _ rfl)
  | dic ks e =>
    cases ry
    obtain ⟨o, es, ep, h1, h2, h3⟩ := dict_obj I (k _ _ e)
    exact rcAt_str_dict n t h1 h2 h3 hu1 X.prog X.w _ _ (fin _ rfl)
end
/-! ### one sorted form -/
theorem sortedS_pw : ∀ {l : List Str}, sortedS l = true → l.Pairwise fun a b => ltS b a = false
  | [], _ => .nil
  | x :: r, h => by
    have key : ∀ (r : List Str) (p : Str), risingS p r = true → (p :: r).Pairwise fun a b => ltS b a = false := by
      intro r
      induction r with
      | nil => intro p _; exact List.pairwise_singleton _ _
      | cons y r ih =>
        intro p h
        have h : (!ltCps y.cps.toList p.cps.toList && risingS y r) = true := h
        rw [Bool.and_eq_true, ltCps_eq] at h
        have h1 : ltS y p = false := Bool.not_eq_true' _ ▸ h.1
        have h2 := ih y h.2
        refine List.pairwise_cons.mpr ⟨fun z hz => ?_, h2⟩
        rcases List.mem_cons.mp hz with rfl | hz
        · exact h1
        · exact (swoS (fun s : Str => s)).tr p y z h1 ((List.pairwise_cons.mp h2).1 z hz)
    exact key r x h
theorem ltS_anti {a b : Str} (h1 : ltS a b = false) (h2 : ltS b a = false) : a = b := cp_inj (List.le_antisymm (of_decide_eq_false h2) (of_decide_eq_false h1))
theorem sortedS_uniq {l m : List Str} (h1 : sortedS l = true) (h2 : sortedS m = true) (p : l.Perm m) : l = m :=
  List.Perm.eq_of_pairwise (le := fun a b => ltS b a = false) (fun a b _ _ ha hb => ltS_anti hb ha) (sortedS_pw h1) (sortedS_pw h2) p
theorem sortedE_uniq {l m : List Edg} (h1 : sortedS (l.map Edg.n) = true) (h2 : sortedS (m.map Edg.n) = true) (p : l.Perm m) (nd : (m.map Edg.n).Nodup) : l = m :=
  List.Perm.eq_of_pairwise (le := fun a b => ltS b.n a.n = false) (fun a b ha hb h1 h2 => nodup_inj nd a (p.mem_iff.mp ha) b hb (ltS_anti h2 h1)) (List.pairwise_map.mp (sortedS_pw h1)) (List.pairwise_map.mp (sortedS_pw h2)) p
theorem NormOf.uniq {N M : Net} {ns : List Str} {es : List Edg} (f : Fine ns es) (h : NormOf N ns es) (g : NormOf M ns es) : N = M := by
  have a : N.ns = M.ns := sortedS_uniq h.ns_ g.ns_ (h.np.trans g.np.symm)
  have nd : (M.es.map Edg.n).Nodup := (f.perm g.np g.ep).en
  have b : N.es = M.es := sortedE_uniq h.es_ g.es_ (h.ep.trans g.ep.symm) nd
  cases N
  cases M
  simp only at a b
  rw [a, b]
end Ld
/-! Fl: fits. -/
namespace Ld
open PySem L2 PyProof.Rows
/-- the dict at d counts these half edges -/
structure DS (H : Hp) (d : Addr) (ks : List Str) (hs : List (Str × Bool)) : Prop where
  nd : ks.Nodup
  mem : ∀ v, v ∈ ks ↔ v ∈ hs.map Prod.fst
  len : ks.length ≤ hs.length
  at_ : H d = some (.dK (kv ks fun v => .int (cntH v hs : Nat)))
theorem cntH_none {v : Str} : ∀ {hs : List (Str × Bool)}, v ∉ hs.map Prod.fst → cntH v hs = 0
  | [], _ => rfl
  | h :: r, g => by
    rw [List.map_cons, List.mem_cons] at g
    show (if h.1 = v ∧ h.2 = true then 1 else 0) + cntH v r = 0
    rw [if_neg (fun e => g (.inl e.1.symm)), cntH_none (fun e => g (.inr e))]
theorem DS.get {H : Hp} {d : Addr} {ks : List Str} {hs : List (Str × Bool)} (s : DS H d ks hs) (u : Str) : (valV (kv ks fun v => V.int (cntH v hs : Nat)) (Sum.inr u : Key)).getD (.int 0) = .int (cntH u hs : Nat) := by
  rw [valV_kv]
  split
  · rfl
  · rename_i h
    rw [s.mem] at h
    rw [cntH_none h]
    rfl
theorem DS.put {H : Hp} {d : Addr} {ks : List Str} {hs : List (Str × Bool)} (s : DS H d ks hs) (u : Str) (b : Bool) : DS (upd H d (.dK (putK (kv ks fun v => V.int (cntH v hs : Nat)) (Sum.inr u : Key) (.int ((cntH u hs : Nat) + (if b = true then 1 else 0)))))) d (addK ks u) (hs ++ [(u, b)]) := by
  refine ⟨addK_nodup s.nd, fun v => ?_, ?_, ?_⟩
  · rw [addK_mem, s.mem, List.map_append, List.mem_append]
    simp
  · have := addK_len (ks := ks) (u := u)
    have := s.len
    rw [List.length_append]
    show _ ≤ _ + 1
    omega
  · rw [upd_same, putK_kv]
    congr 2
    refine kv_congr fun v _ => ?_
    show (if v = u then V.int _ else V.int _) = _
    rw [cntH_app]
    by_cases h : v = u
    · rw [if_pos h, h]
      congr 1
      show _ = ((_ + ((if u = u ∧ b = true then 1 else 0) + 0) : Nat) : Int)
      cases b <;> simp
    · rw [if_neg h]
      congr 2
      show _ = _ + ((if u = v ∧ b = true then 1 else 0) + 0)
      rw [if_neg (fun e => h e.1.symm)]
      rfl
def spFits : Sp := fun vs H Q _ => ∃ (R : Hp) (v : V) (es : List Edg), vs = [v] ∧ Same R H ∧ At R v (.list (es.map Edg.d)) ∧ es.length ≤ 1000 ∧ ∀ (R' H' : Hp), Fx [] R H R' H' → Q (.bl (fits es)) H'
section
variable {P : Program} {w : World} {K : PySem.W.Frag} {mg : Str → Option Value} {base : Heap}
theorem ok_lfits (T : Tx w K mg) : FnOk P w K mg base CX0 1 (a_lfits K) (f_lfits K) P_lfits spFits := by
  refine T.d_lfits.ok sc_lfits (fun vs H Q E h => by obtain ⟨_, _, _, rfl, _⟩ := h; rfl) (fun cdv A outer s H vs Q E hr h => ?_)
  have hu := hu_of hr
  have nd := sc_lfits.nd
  have hsz := sizeLine_eq
  refine ⟨_, PSs.nox (pss_cons (ps_set (i := 1) nd rfl (Or.inr rfl) pe_dnewK)
    (pss_cons (ps_for PassesOwn.never rfl (pi_list (pv 0)) (pg_tup rfl (pgs_cons (pg_name (i := 2) nd rfl (Or.inl rfl)) (pgs_cons (pg_name (i := 3) nd rfl (Or.inl rfl)) (pgs_cons (pg_name (i := 4) nd rfl (Or.inl rfl)) (pgs_cons (pg_name (i := 5) nd rfl (Or.inl rfl)) pgs_nil)))))
      (pss_one (ps_for PassesOwn.never rfl (pi_tup (pe_tup (pa_cons (pv 3) (pa_cons (pv 4) pa_nil)))) (pg_name (i := 6) nd rfl (Or.inl rfl))
        (pss_one (ps_dput hu (pv 1) (pv 6) (pe_op op_add (pe_dget2 hu (pv 1) (pv 6) pe_int ⟨rfl, rfl, rfl, rfl⟩) (pe_callTy call_int1 (by rfl) T.f_int boot_int (pa_cons (pe_cmpR op_lt (pv 5) pe_int (nomark _)) pa_nil))) rfl)))))
    (pss_one (ps_ret (pe_cmpR op_le (pe_callB call_len_seq (by rfl) T.f_len boot_len (pa_cons (pe_lock (pe_lc (own := [("_law_node", 6)]) (g := (gName 6)) (by rfl) nd (pi_keys (pv 1)) (blkOk_by (N := N_lfits) (sc := defScope st_lfits) (by decide +kernel)) (fun _ _ _ _ _ => (pg_name (i := 6) nd rfl (Or.inl rfl))) (fun _ _ _ _ _ => (pts_one (pt_cmpR op_eq (pe_op op_mod (pe_dget hu (pv 1) (pv 6) (fun _ _ => rfl)) pe_int) pe_int (nomark _)))) (fun _ _ _ _ _ => (pv 6)))) pa_nil)) pe_int (nomark _)))))), ?_⟩
  obtain ⟨R, v, es, rfl, k, hd, hlen, q⟩ := h
  obtain ⟨a, vs, rfl, e1, e2, _⟩ := hd.isL K k
  have hl := e2.length
  rw [List.length_map] at hl
  refine fun d hd0 => ?_
  have f1 := (Fx.refl (M := []) k).newH (o := .dK []) hd0
  have rd : R d = none := same_none k hd0
  have ed : upd H d (.dK []) d = some (.dK []) := upd_same
  show tSeq _ _ _ _ (upd H d (.dK []))
  generalize upd H d (.dK []) = H1 at f1 ed ⊢
  refine ⟨_, rfl, a, rfl, ⟨_, SqL.of (f1.rh _ _ e1)⟩, for_list (K := K) (a := a) (xs := vs) (fun i σ H' => ∃ (ks : List Str) (x2 x3 x4 x5 x6 : Option V), σ = [some (.ref a), some (.ref d), x2, x3, x4, x5, x6] ∧ Fx [] R H R H' ∧ DS H' d ks (halves (es.take i))) ⟨[], _, _, _, _, _, rfl, f1, ⟨List.nodup_nil, by simp [halves], Nat.le_refl _, ed⟩⟩ (fun i σ H' _ ⟨_, _, _, _, _, _, _, f, _⟩ => SqL.of (f.rh _ _ e1)) ?_ ?_⟩
  · rintro i x σ H' hx ⟨ks, x2, x3, x4, x5, x6, rfl, f, ds⟩
    obtain ⟨dx, d1, d2⟩ := e2.get hx
    have hi' : i < es.length := by
      have := (List.getElem?_eq_some_iff.mp hx).1
      omega
    rw [List.getElem?_map, List.getElem?_eq_getElem hi'] at d1
    cases d1
    obtain ⟨t, tvs, rfl, t1, t2, t3⟩ := d2.isT K f.rh
    obtain ⟨va, vb, vc, vl, rfl, h1, h2, h3, h4⟩ := t2.four
    cases h1
    cases h2
    cases h3
    cases h4
    refine ⟨t, _, rfl, t3, rfl, _, _, rfl, _, _, rfl, _, _, rfl, _, _, rfl, rfl, ?_⟩
    refine ⟨_, rfl, _, rfl, by show 2 ≤ sizeLine; omega, fun p hp => ?_⟩
    have f2 := f.newH (o := .tup [.str es[i].u, .str es[i].v]) hp
    have hdp : d ≠ p := ne_of_none ds.at_ hp
    have ds2 : DS (upd H' p (.tup [.str es[i].u, .str es[i].v])) d ks (halves (es.take i)) := ⟨ds.nd, ds.mem, ds.len, by rw [upd_ne hdp]; exact ds.at_⟩
    have hp2 : upd H' p (.tup [.str es[i].u, .str es[i].v]) p = some (.tup [.str es[i].u, .str es[i].v]) := upd_same
    generalize upd H' p (.tup [.str es[i].u, .str es[i].v]) = H2 at f2 ds2 hp2 ⊢
    refine ⟨p, rfl, ⟨_, SqT.of hp2⟩, for_tup (K := K) (a := p) (xs := [.str es[i].u, .str es[i].v]) (fun j σ H' => ∃ (ks : List Str) (x6 : Option V), σ = [some (.ref a), some (.ref d), some (.str es[i].n), some (.str es[i].u), some (.str es[i].v), some (.int es[i].l), x6] ∧ Fx [] R H R H' ∧ H' p = some (.tup [.str es[i].u, .str es[i].v]) ∧ DS H' d ks (halves (es.take i) ++ [(es[i].u, decide (es[i].l < 0)), (es[i].v, decide (es[i].l < 0))].take j)) ⟨ks, x6, rfl, f2, hp2, by rw [List.take_zero, List.append_nil]; exact ds2⟩ (fun j σ H' _ ⟨_, _, _, _, e, _⟩ => SqT.of e) ?_ ?_⟩
    · rintro j y σ H3 hy ⟨ks3, y6, rfl, f3, hp3, ds3⟩
      obtain ⟨u, hu3, rfl, hst⟩ : ∃ u, [(es[i].u, decide (es[i].l < 0)), (es[i].v, decide (es[i].l < 0))][j]? = some (u, decide (es[i].l < 0)) ∧ V.str u = y ∧ j < 2 := by
        match j, hy with
        | 0, hy => exact ⟨_, rfl, by simpa using hy, by omega⟩
        | 1, hy => exact ⟨_, rfl, by simpa using hy, by omega⟩
        | j + 2, hy => simp at hy
      have htk : [(es[i].u, decide (es[i].l < 0)), (es[i].v, decide (es[i].l < 0))].take (j + 1) = [(es[i].u, decide (es[i].l < 0)), (es[i].v, decide (es[i].l < 0))].take j ++ [(u, decide (es[i].l < 0))] := by
        rw [List.take_succ, hu3]
        rfl
      have hkl : ks3.length < 1000000 := by
        have := ds3.len
        have h1 : ∀ l : List Edg, (halves l).length = 2 * l.length := by
          intro l
          induction l with
          | nil => rfl
          | cons e r ih => simp only [halves, List.length_cons, ih]; omega
        rw [List.length_append, h1, List.length_take, List.length_take] at this
        simp only [List.length_cons, List.length_nil] at this
        omega
      refine ⟨_, rfl, d, rfl, .inl ⟨_, .inl ds3.at_⟩, _, rfl, _, dgetR (.inl ds3.at_) rfl, _, rfl, _, _, rfl, rfl, .inr ⟨_, rfl, ?_⟩⟩
      rw [ds3.get]
      refine ⟨_, _, rfl, rfl, _, rfl, _, rfl, d, _, rfl, .inl ⟨_, Sum.inr u, ds3.at_, rfl, by rw [kv_len]; omega, rfl⟩, ?_⟩
      refine ⟨addK ks3 u, _, rfl, f3.put rd (.inr hd0), ?_, ?_⟩
      · rw [upd_ne (fun z => by rw [z, ds3.at_] at hp3; cases hp3)]
        exact hp3
      · rw [htk, ← List.append_assoc]
        exact ds3.put u _
    · rintro σ H3 ⟨ks3, y6, rfl, f3, hp3, ds3⟩
      refine ⟨ks3, _, _, _, _, _, rfl, f3, ?_⟩
      rw [take_snoc _ _ hi', halves_app]
      exact ds3
  · rintro σ H2 ⟨ks, x2, x3, x4, x5, x6, rfl, f2, ds⟩
    rw [hl, List.take_of_length_le (Nat.le_refl _)] at ds
    refine ⟨d, _, ds.at_, trivial, fun od => ?_⟩
    have f3 : Fx [] R H R (upd H2 d (.frz od (.dK (kv ks fun v => .int (cntH v (halves es) : Nat))))) := f2.put rd (.inr hd0)
    have ed3 : upd H2 d (.frz od (.dK (kv ks fun v => .int (cntH v (halves es) : Nat)))) d = some (.frz od (.dK (kv ks fun v => .int (cntH v (halves es) : Nat)))) := upd_same
    generalize upd H2 d (.frz od (.dK (kv ks fun v => .int (cntH v (halves es) : Nat)))) = H3 at f3 ed3 ⊢
    refine ⟨_, rfl, d, od, rfl, .inl ⟨_, ed3, fun D hD => ?_⟩⟩
    have hks : ks.length < 1000000 := by
      have := ds.len
      have h1 : ∀ l : List Edg, (halves l).length = 2 * l.length := by
        intro l
        induction l with
        | nil => rfl
        | cons e r ih => simp only [halves, List.length_cons, ih]; omega
      rw [h1] at this
      omega
    refine lc_data (walk_keys (kvs := kv ks fun v => .int (cntH v (halves es) : Nat))) [] (fun i => ((ks.take i).filter fun v => decide (cntH v (halves es) % 2 = 1)).map PyData.str) (fun _ _ _ => True) f3.rh hD (by simp) (fun i hi => ?_) rfl trivial (fun _ R H _ f _ => f.kp _ _ ed3 (by simp)) (fun _ _ _ _ _ _ => trivial) (fun i x R' H' H'' vs' Cy Cn hi f r hv ac e y ky kn => ?_) (fun R4 H4 vs' f4 r hv ac _ => ?_)
    · have h1 := List.length_filter_le (fun v => decide (cntH v (halves es) % 2 = 1)) (ks.take i)
      rw [kv_len] at hi
      simp only [List.length_map, List.length_take] at h1 ⊢
      omega
    · obtain ⟨rfl, kk, vv, hkv, rfl⟩ := y
      rw [kv_len] at hi
      unfold kv at hkv
      rw [List.getElem?_map, List.getElem?_eq_getElem hi] at hkv
      cases hkv
      have ed4 : H'' d = some (.frz od (.dK (kv ks fun v => .int (cntH v (halves es) : Nat)))) := f.kp _ _ ed3 (by simp)
      have hg : valV (kv ks fun v => V.int (cntH v (halves es) : Nat)) (Sum.inr ks[i] : Key) = some (.int (cntH ks[i] (halves es) : Nat)) := by
        rw [valV_kv, if_pos (List.getElem_mem hi)]
      refine ⟨rfl, _, rfl, _, rfl, d, _, rfl, dgetR (.inr ⟨od, ed4⟩) hg, _, _, rfl, rfl, (by decide : (0 : Int) < 2), rfl, _, rfl, ?_⟩
      rw [dec_int]
      have hb : (((cntH ks[i] (halves es) : Nat) : Int) % 2 == 1) = decide (cntH ks[i] (halves es) % 2 = 1) := by
        rw [Bool.eq_iff_iff, beq_iff_eq, decide_eq_true_iff]
        omega
      rw [hb]
      refine iteB (fun h => ?_) (fun h => ?_)
      · refine kn R' H'' (Fx.refl f.rh) ?_ trivial
        rw [take_snoc _ _ hi, List.filter_append, List.filter_cons, h]
        simp
      · refine ⟨_, rfl, ky R' H'' _ _ (Fx.refl f.rh) (.str _) ?_ trivial⟩
        rw [take_snoc _ _ hi, List.filter_append, List.filter_cons, h]
        simp
    · rw [kv_len, List.take_of_length_le (Nat.le_refl _)] at ac
      have f5 := f3.trans f4
      have ed4 : H4 d = some (.frz od (.dK (kv ks fun v => .int (cntH v (halves es) : Nat)))) := f4.kp _ _ ed3 (by simp)
      refine ⟨ed4, ?_⟩
      have f6 : Fx [] R H R4 (upd H4 d (.dK (kv ks fun v => .int (cntH v (halves es) : Nat)))) := f5.put (f4.nr rd ed3) (.inr hd0)
      have hDd : D ≠ d := fun z => by rw [z, ed3] at hD; cases hD
      refine ⟨D, vs', rfl, .inl (SqL.of (by rw [upd_ne hDd]; exact hv)), _, _, rfl, rfl, ?_⟩
      have q := q _ _ f6
      have hlen2 : vs'.length = (oddL es).length := by
        rw [ac.length, List.length_map]
        refine OddL.len (es := es) (fs := es) ⟨List.Nodup.sublist List.filter_sublist ds.nd, fun v => ?_⟩ (oddL_ok es) fun _ => rfl
        rw [List.mem_filter, decide_eq_true_iff, ds.mem, halves_ends, cntH_halves]
        exact ⟨fun h => h.2, fun h => ⟨cnt_end (by omega), h⟩⟩
      have hb : decide (((vs'.length : Nat) : Int) ≤ 10) = fits es := by
        unfold fits
        rw [Bool.eq_iff_iff, decide_eq_true_iff, decide_eq_true_iff, hlen2]
        omega
      rw [← hb] at q
      exact q
end
end Ld
/-! Gj: due. -/
namespace Ld
open PySem L2 PyProof.Rows
theorem wnGo_strs : ∀ {ds : List PyData} {seen : List Str}, wnGo seen ds = none → ∃ ns : List Str, ds = ns.map PyData.str
  | [], _, _ => ⟨[], rfl⟩
  | d :: r, seen, h => by
    cases d with
    | str s =>
      have h : (if isNameS s && !inS (.str s) seen && !decide (seen.length = 40) then wnGo (seen ++ [s]) r else some (.str s)) = none := h
      split at h
      · obtain ⟨ns, e⟩ := wnGo_strs h
        exact ⟨s :: ns, by rw [e]; rfl⟩
      · cases h
    | _ => cases h
theorem wnGo_mem : ∀ {ds : List PyData} {seen : List Str} {d : PyData}, wnGo seen ds = some d → d ∈ ds
  | [], _, _, h => by cases h
  | x :: r, seen, d, h => by
    cases x with
    | str s =>
      have h : (if isNameS s && !inS (.str s) seen && !decide (seen.length = 40) then wnGo (seen ++ [s]) r else some (.str s)) = some d := h
      split at h
      · exact List.mem_cons_of_mem _ (wnGo_mem h)
      · cases h; exact List.mem_cons_self
    | _ => cases h; exact List.mem_cons_self
theorem wnode_strs {ds : List PyData} (h : wnode ds = none) : ∃ ns : List Str, ds = ns.map PyData.str := by
  cases ds with
  | nil => cases h
  | cons d r => exact wnGo_strs h
theorem wnode_mem {ds : List PyData} {d : PyData} (h : wnode ds = some d) : d = .tuple [] ∨ d ∈ ds := by
  cases ds with
  | nil => cases h; exact .inl rfl
  | cons x r => exact .inr (wnGo_mem h)
theorem weGo_mem {ns : List Str} : ∀ {ds : List PyData} {seen : List Str} {d : PyData}, weGo ns seen ds = some d → d ∈ ds
  | [], _, _, h => by cases h
  | x :: r, seen, d, h => by
    have h : (if isEdge x ns && !inS (.str (nameD x)) seen then weGo ns (seen ++ [nameD x]) r else some x) = some d := h
    split at h
    · exact List.mem_cons_of_mem _ (weGo_mem h)
    · cases h; exact List.mem_cons_self
theorem okR_unit : OkR (.tuple []) := ⟨by decide, by decide, by rw [sizeLine_eq]; decide⟩
/-- what the law names wrong -/
def dueD : Option Err → PyData
  | none => .none
  | some e => faultD e
def spDue : Sp := fun vs H Q _ => ∃ (R : Hp) (nv ev : V) (nds eds : List PyData), vs = [nv, ev] ∧ Same R H ∧ At R nv (.list nds) ∧ At R ev (.list eds) ∧ okSs nds = true ∧ okSs eds = true ∧ nds.length ≤ 100 ∧ eds.length ≤ 100 ∧ (∀ d ∈ nds, OkR d) ∧ (∀ d ∈ eds, OkR d) ∧
  ∀ (R' H' : Hp) (v : V), Fx [] R H R' H' → At R' v (dueD (due nds eds)) → Q v H'
section
variable {P : Program} {w : World} {K : PySem.W.Frag} {mg : Str → Option Value} {base : Heap}
theorem ok_ldue (PF : PP P) (Z : Tz w K mg) : FnG P w K mg base CX0 4 (a_ldue K) (f_ldue K) P_ldue spDue := by
  have T := Z.t
  refine FunD.okG T.d_ldue sc_ldue (fun vs H Q E h => by obtain ⟨_, _, _, _, _, rfl, _⟩ := h; rfl) (fun cdv A outer s H vs Q E hr hG h => ?_)
  have hu := hu_of hr
  have hu2 := hr.units
  have hu3 : (A.deeper (envOfC "_law_due" (defScope st_ldue) s.heap.objs.size (a_ldue K) cdv)).units + 65 < cLine := by have := hr.un; omega
  have nd := sc_ldue.nd
  have hsz := sizeLine_eq
  refine ⟨_, PSs.nox (pss_cons (ps_set (i := 2) nd rfl (Or.inl rfl) (pe_call (ok_lwrong_node T) (hr.mono (by decide)) (by rfl) T.g_lwrong_node T.k_lwrong_node T.b_lwrong_node .nil pass0 (pa_cons (pv 0) pa_nil)))
    (pss_cons (ps_if (pt_cmpR (op_neL0 hu2) (pv 2) (pe_lst pa_nil) (nomark _))
      (pss_one (ps_ret (pe_tup (pa_cons pe_str (pa_cons (pe_callB (call_reprD Z hG hu3) (by rfl) T.f_repr boot_repr (pa_cons (pe_ix ix_list (pv 2) pe_int (fun _ _ => rfl)) pa_nil)) pa_nil)))))
      pss_nil)
    (pss_cons (ps_set (i := 2) nd rfl (Or.inl rfl) (pe_call (ok_lwrong_edge T) (hr.mono (by decide)) (by rfl) T.g_lwrong_edge T.k_lwrong_edge T.b_lwrong_edge .nil pass0 (pa_cons (pv 1) (pa_cons (pv 0) pa_nil))))
    (pss_cons (ps_if (pt_cmpR (op_neL0 hu2) (pv 2) (pe_lst pa_nil) (nomark _))
      (pss_one (ps_ret (pe_tup (pa_cons pe_str (pa_cons (pe_callB (call_reprD Z hG hu3) (by rfl) T.f_repr boot_repr (pa_cons (pe_ix ix_list (pv 2) pe_int (fun _ _ => rfl)) pa_nil)) pa_nil)))))
      pss_nil)
    (pss_cons (ps_if (pt_cmpR op_gt (pe_callB call_len_seq (by rfl) T.f_len boot_len (pa_cons (pv 1) pa_nil)) pe_int (nomark _))
      (pss_one (ps_ret (pe_tup (pa_cons pe_str (pa_cons pe_str pa_nil)))))
      pss_nil)
    (pss_one (ps_ret (pe_ifExp (pt_val (pe_call (ok_lfits T) (hr.mono (by decide)) (by rfl) T.g_lfits T.k_lfits T.b_lfits .nil pass0 (pa_cons (pv 1) pa_nil))) pe_non (pe_tup (pa_cons pe_str (pa_cons pe_str pa_nil))))))))))), ?_⟩
  obtain ⟨R, nv, ev, nds, eds, rfl, k, hn, he, on, oe, ln, le, rn, re, q⟩ := h
  refine ⟨_, rfl, R, nv, nds, rfl, k, hn, on, by omega, fun R1 H1 x f1 hx => ?_⟩
  obtain ⟨xa, xvs, rfl, x1, x2, x3⟩ := hx.isL K f1.rh
  refine ⟨_, rfl, Nat.zero_le _, fun z hz => ?_⟩
  have g1 := f1.newH (o := .lst []) hz
  refine ⟨xa, z, xvs, rfl, rfl, SqL.of (g1.rh _ _ x1), SqL.of upd_same, _, rfl, ?_⟩
  show if _ then _ else _
  generalize upd H1 z (.lst []) = H1' at g1 ⊢
  cases hw : wnode nds with
  | some d =>
    rw [hw] at x2
    have hd : due nds eds = some (.node d) := by unfold due; rw [hw]
    rw [hd] at q
    obtain _ | ⟨x0, xr⟩ := xvs
    · cases x2
    cases x2 with
    | cons a b =>
      have hdo : OkR d := by
        rcases wnode_mem hw with rfl | hm
        · exact okR_unit
        · exact rn d hm
      refine iteB (fun h => absurd h (by simp [isE])) (fun _ => ?_)
      refine ⟨_, rfl, xa, _, _, x0, rfl, rfl, SqL.of (g1.rh _ _ x1), at_of2 (j := 0) rfl rfl, R1, x0, d, rfl, g1.rh, a, hdo, by show 2 ≤ sizeLine; omega, fun t ht => ?_⟩
      obtain ⟨R2, f2, t2, m2⟩ := nw_tup g1.rh (.cons (.str "node") (.cons (.str d.shown) .nil)) ht
      exact q R2 _ _ (g1.trans f2) t2
  | none =>
    rw [hw] at x2
    cases x2
    refine iteB (fun _ => ?_) (fun h => absurd h (by simp [isE]))
    obtain ⟨ns, rfl⟩ := wnode_strs hw
    obtain ⟨na, nvs, rfl, n1, n2, n3⟩ := hn.isL K k
    have en := n2.strs
    subst en
    refine ⟨_, rfl, _, rfl, R1, ev, eds, na, ns, rfl, g1.rh, he.up g1.rr, oe, by omega, g1.rr _ _ n1, fun R3 H3 y f3 hy => ?_⟩
    have f3 := g1.trans f3
    obtain ⟨ya, yvs, rfl, y1, y2, y3⟩ := hy.isL K f3.rh
    refine ⟨_, rfl, Nat.zero_le _, fun z hz => ?_⟩
    have g3 := f3.newH (o := .lst []) hz
    refine ⟨ya, z, yvs, rfl, rfl, SqL.of (g3.rh _ _ y1), SqL.of upd_same, _, rfl, ?_⟩
    show if _ then _ else _
    generalize upd H3 z (.lst []) = H3' at g3 ⊢
    cases hwe : weGo ns [] eds with
    | some d =>
      rw [hwe] at y2
      have hd : due (ns.map PyData.str) eds = some (.edge d) := by rw [due_of, hw]; simp only [namL_map, hwe]
      rw [hd] at q
      obtain _ | ⟨x0, xr⟩ := yvs
      · cases y2
      cases y2 with
      | cons a b =>
        refine iteB (fun h => absurd h (by simp [isE])) (fun _ => ?_)
        refine ⟨_, rfl, ya, _, _, x0, rfl, rfl, SqL.of (g3.rh _ _ y1), at_of2 (j := 0) rfl rfl, R3, x0, d, rfl, g3.rh, a, re d (weGo_mem hwe), by show 2 ≤ sizeLine; omega, fun t ht => ?_⟩
        obtain ⟨R4, f4, t4, m4⟩ := nw_tup g3.rh (.cons (.str "edge") (.cons (.str d.shown) .nil)) ht
        exact q R4 _ _ (g3.trans f4) t4
    | none =>
      rw [hwe] at y2
      cases y2
      refine iteB (fun _ => ?_) (fun h => absurd h (by simp [isE]))
      obtain ⟨es, rfl, ges, _⟩ := weGo_ok eds [] hwe List.nodup_nil
      have hd : due (ns.map PyData.str) (es.map Edg.d) = if fits es = true then none else some (.many 10) := by rw [due_of, hw]; simp only [namL_map, edgs_map, hwe]
      rw [hd] at q
      obtain ⟨ea, evs, rfl, e1, e2, e3⟩ := (he.up g3.rr).isL K g3.rh
      have hl := e2.length
      rw [List.length_map] at hl le
      refine ⟨_, rfl, ea, evs, rfl, .inl e3, _, _, rfl, rfl, _, rfl, ?_⟩
      refine iteB (fun _ => ?_) (fun h => absurd (of_decide_eq_true h) (by omega))
      refine ⟨_, rfl, R3, .ref ea, es, rfl, g3.rh, he.up g3.rr, by omega, fun R5 H5 f5 => ⟨_, rfl, ?_⟩⟩
      have f5 := g3.trans f5
      cases hf : fits es with
      | true =>
        rw [hf] at q
        refine iteB (fun h => absurd h (by simp)) (fun _ => ?_)
        exact q R5 H5 _ f5 .non
      | false =>
        rw [hf] at q
        refine iteB (fun _ => ?_) (fun h => absurd h (by simp))
        refine ⟨by show 2 ≤ sizeLine; omega, fun t ht => ?_⟩
        obtain ⟨R6, f6, t6, m6⟩ := nw_tup f5.rh (.cons (.str "many") (.cons (.str "10") .nil)) ht
        exact q R6 _ _ (f5.trans f6) t6
end
end Ld
/-! Gk: rows, shows. -/
namespace Ld
open PySem L2 PyProof.Rows
theorem AtL.two {R : Hp} {vs : List V} {a b : PyData} (h : AtL R vs [a, b]) : ∃ x y, vs = [x, y] ∧ At R x a ∧ At R y b := by
  cases h with
  | cons h1 h =>
    cases h with
    | cons h2 h =>
      cases h
      exact ⟨_, _, rfl, h1, h2⟩
def spRows : Sp := fun vs H Q _ => ∃ (R : Hp) (v : V) (L : Net), vs = [v] ∧ Same R H ∧ At R v L.d ∧ (L.es.map Edg.n).Nodup ∧ L.ns.length < 64 ∧ L.es.length ≤ 1000 ∧
  ∀ (N : Net) (R' H' : Hp) (r : V), NormOf N L.ns L.es → Fx [] R H R' H' → At R' r (.tuple [.tuple (N.ns.map PyData.str), .tuple (N.es.map Edg.d)]) → Q r H'
section
variable {P : Program} {w : World} {K : PySem.W.Frag} {mg : Str → Option Value} {base : Heap}
theorem ok_lrows (T : Tx w K mg) : FnOk P w K mg base CX0 1 (a_lrows K) (f_lrows K) P_lrows spRows := by
  refine T.d_lrows.ok sc_lrows (fun vs H Q E h => by obtain ⟨_, _, _, rfl, _⟩ := h; rfl) (fun cdv A outer s H vs Q E hr h => ?_)
  have hu := hu_of hr
  have hu2 := hr.units
  have nd := sc_lrows.nd
  have hsz := sizeLine_eq
  refine ⟨_, PSs.nox (pss_cons (ps_setLc (i := 1) (own := [("_law_name", 2), ("_law_u", 3), ("_law_v", 4), ("_law_length", 5)]) (g := (gTup K 4 (gCons (gName 2) (gCons (gName 3) (gCons (gName 4) (gCons (gName 5) gNil)))))) (tt := tYes) (by rfl) nd rfl rfl (sw_true rfl rfl rfl (by decide +kernel)) (pi_list (pe_ix ix_tup (pv 0) pe_int (fun _ _ => rfl))) (blkOk_by (N := N_lrows) (sc := defScope st_lrows) (by decide +kernel)) (fun _ _ _ _ _ => (pg_tup rfl (pgs_cons (pg_name (i := 2) nd rfl (Or.inl rfl)) (pgs_cons (pg_name (i := 3) nd rfl (Or.inl rfl)) (pgs_cons (pg_name (i := 4) nd rfl (Or.inl rfl)) (pgs_cons (pg_name (i := 5) nd rfl (Or.inl rfl)) pgs_nil)))))) (fun _ _ _ _ _ => pts_nil) (fun _ _ _ _ _ => (pe_tup (pa_cons (pv 2) (pa_cons (pe_callB (call_minS rfl) (by rfl) T.f_min boot_min (pa_cons (pv 3) (pa_cons (pv 4) pa_nil))) (pa_cons (pe_callB (call_maxS rfl) (by rfl) T.f_max boot_max (pa_cons (pv 3) (pa_cons (pv 4) pa_nil))) (pa_cons (pv 5) pa_nil)))))))
    (pss_one (ps_ret (pe_tup (pa_cons (pe_callTy call_tuple_of (by rfl) T.f_tuple boot_tuple (pa_cons (pe_callB cr_sortedS (by rfl) T.f_sorted boot_sorted (pa_cons (pe_ix ix_tup (pv 0) pe_int (fun _ _ => rfl)) pa_nil)) pa_nil)) (pa_cons (pe_callTy call_tuple_of (by rfl) T.f_tuple boot_tuple (pa_cons (pe_callB cr_sortedE (by rfl) T.f_sorted boot_sorted (pa_cons (pv 1) pa_nil)) pa_nil)) pa_nil)))))), ?_⟩
  obtain ⟨R, v, L, rfl, k, hL, hnd, ln, le, q⟩ := h
  obtain ⟨nt, nvs, rfl, n1, n2, n3⟩ := hL.isT K k
  obtain ⟨nv, ev, rfl, hnv, hev⟩ := n2.two
  obtain ⟨ea, evs, rfl, e1, e2, e3⟩ := hev.isL K k
  have evl : evs.length = L.es.length := by rw [e2.length, List.length_map]
  refine ⟨_, rfl, nt, _, _, _, rfl, rfl, n3, at_of2 (j := 1) rfl rfl, ea, rfl, ⟨_, e3⟩, fun D hD => ?_⟩
  refine lc_data (walk_list (xs := evs)) [] (fun i => ((L.es.take i).map Edg.norm).map Edg.d) (fun _ _ _ => True) k hD (by simp) (fun i hi => ?_) rfl trivial (fun i R H _ f _ => SqL.of (f.rh _ _ (f.rr _ _ e1))) (fun _ _ _ _ _ _ => trivial) (fun i x R' H' H'' vs Cy Cn hi f r hv ac e y ky kn => ?_) (fun R1 H1 vs f1 r hv ac _ => ?_)
  · simp only [List.length_map, List.length_take]; omega
  · obtain ⟨rfl, hx⟩ := y
    have hi' : i < L.es.length := by omega
    obtain ⟨d, hd1, hd2⟩ := e2.get hx
    rw [List.getElem?_map, List.getElem?_eq_getElem hi'] at hd1
    cases hd1
    obtain ⟨t, tvs', rfl, t1, t2, t3⟩ := (hd2.up f.rr).isT K f.rh
    obtain ⟨va, vb, vc, vl, rfl, h3, h4, h5, h6⟩ := t2.four
    cases h3
    cases h4
    cases h5
    cases h6
    refine ⟨t, _, rfl, t3, rfl, _, _, rfl, _, _, rfl, _, _, rfl, _, _, rfl, rfl, rfl, iteT (B := Cn H'') ?_⟩
    refine ⟨_, rfl, _, rfl, _, rfl, _, _, rfl, _, rfl, _, rfl, _, _, rfl, _, rfl, by show 4 ≤ sizeLine; omega, fun b hb => ?_⟩
    obtain ⟨R3, f3, t3', m3⟩ := nw_tup f.rh (ds := [.str (L.es[i]).n, .str (minS (L.es[i]).u (L.es[i]).v), .str (maxS (L.es[i]).u (L.es[i]).v), .int (L.es[i]).l]) (.cons (.str _) (.cons (.str _) (.cons (.str _) (.cons (.int _) .nil)))) hb
    refine ky R3 _ _ _ f3 t3' ?_ trivial
    rw [take_snoc _ _ hi', List.map_append, List.map_append]
    rfl
  · rw [evl, List.take_of_length_le (Nat.le_refl _)] at ac
    obtain ⟨R2, f2, eD, m2⟩ := f1.fz hv hD r
    have aD := ac.up m2
    have nD : ((L.es.map Edg.norm).map Edg.n).Nodup := by
      rw [List.map_map]
      exact hnd
    obtain ⟨na, nvs, rfl, w1, w2, w3⟩ := (hnv.up f2.rr).isL K f2.rh
    have en := w2.strs
    subst en
    refine ⟨_, rfl, nt, _, _, _, rfl, rfl, SqT.of (f2.rh _ _ (f2.rr _ _ n1)), at_of2 (j := 0) rfl rfl, na, L.ns, rfl, w3, ln, fun ys p hys hss hp => ?_⟩
    obtain ⟨R3, f3, t3, m3⟩ := nw_lst f2.rh (atL_strs R2 ys) hp
    obtain ⟨_, _, e, x1, x2, x3⟩ := t3.isL K f3.rh
    cases e
    refine ⟨p, _, rfl, .inl ⟨x3, fun t ht => ?_⟩⟩
    obtain ⟨R4, f4, t4, m4⟩ := nw_tup f3.rh x2 ht
    refine ⟨_, rfl, D, vs, R4, L.es.map Edg.norm, rfl, SqL.of (f4.rh _ _ (m4 _ _ (m3 _ _ eD))), f4.rh, (aD.up m3).up m4, nD, fun zs es' z hz1 hz2 hz3 hz4 => ?_⟩
    obtain ⟨R5, f5, t5, m5⟩ := nw_lst f4.rh hz3 hz4
    obtain ⟨_, _, e, y1, y2, y3⟩ := t5.isL K f5.rh
    cases e
    refine ⟨z, _, rfl, .inl ⟨y3, fun u hu' => ?_⟩⟩
    obtain ⟨R6, f6, t6, m6⟩ := nw_tup f5.rh y2 hu'
    refine ⟨by show 2 ≤ sizeLine; omega, fun o ho => ?_⟩
    obtain ⟨R7, f7, t7, m7⟩ := nw_tup f6.rh (.cons ((t4.up m5).up m6) (.cons t6 .nil)) ho
    exact q ⟨ys, es'⟩ R7 _ _ ⟨hys, hss, hz1, hz2⟩ ((((f2.trans f3).trans f4).trans f5).trans (f6.trans f7)) t7
end
end Ld
/-! Gl: how long texts of data get; isinstance(o, o's own class). -/
namespace Ld
open PySem PySem.Spec PySem.Calls L2 PyProof.Rows
/-- data that is not too big to be told -/
structure Rp (d : PyData) (n k : Nat) : Prop where
  s : d.showable = true
  l : d.leavesShort 250 = true
  b : d.bulk ≤ n
  k : d.depth ≤ k
theorem Rp.ok {d : PyData} {n k : Nat} (h : Rp d n k) (hn : n ≤ 60000 := by omega) (hk : k ≤ 60 := by omega) : OkR d := by
  refine ⟨h.s, Nat.le_trans h.k hk, ?_⟩
  have h1 := PyData.shown_le_bulk 250 (by decide) d h.l
  have h2 : (250 + 2) * d.bulk ≤ 252 * 60000 := Nat.mul_le_mul (Nat.le_refl _) (Nat.le_trans h.b hn)
  rw [sizeLine_eq]
  omega
theorem Rp.up {d : PyData} {n m k j : Nat} (h : Rp d n k) (hn : n ≤ m := by omega) (hk : k ≤ j := by omega) : Rp d m j := ⟨h.s, h.l, Nat.le_trans h.b hn, Nat.le_trans h.k hk⟩
structure RpL (ds : List PyData) (n k : Nat) : Prop where
  s : PyData.showableAll ds = true
  l : PyData.leavesShortAll 250 ds = true
  b : PyData.bulkAll ds ≤ n
  k : PyData.depthAll ds ≤ k
theorem RpL.nil {k : Nat} : RpL [] 0 k := ⟨rfl, rfl, Nat.le_refl _, Nat.zero_le _⟩
theorem RpL.cons {d : PyData} {ds : List PyData} {a n k : Nat} (h : Rp d a k) (g : RpL ds n k) : RpL (d :: ds) (a + 1 + n) k := by
  refine ⟨?_, ?_, ?_, ?_⟩
  · show (d.showable && _) = true
    rw [h.s, g.s]; rfl
  · show (d.leavesShort 250 && _) = true
    rw [h.l, g.l]; rfl
  · show d.bulk + 1 + PyData.bulkAll ds ≤ _
    have := h.b
    have := g.b
    omega
  · show max d.depth (PyData.depthAll ds) ≤ _
    exact Nat.max_le.mpr ⟨h.k, g.k⟩
theorem RpL.tup {ds : List PyData} {n k : Nat} (h : RpL ds n k) : Rp (.tuple ds) n (k + 1) := ⟨h.s, h.l, h.b, Nat.succ_le_succ h.k⟩
theorem RpL.lst {ds : List PyData} {n k : Nat} (h : RpL ds n k) : Rp (.list ds) n (k + 1) := ⟨h.s, h.l, h.b, Nat.succ_le_succ h.k⟩
theorem RpL.map {α : Type} {f : α → PyData} {a k : Nat} : ∀ {xs : List α}, (∀ x ∈ xs, Rp (f x) a k) → RpL (xs.map f) (xs.length * (a + 1)) k
  | [], _ => by simpa using RpL.nil
  | x :: xs, h => by
    have g := RpL.map (f := f) (a := a) (k := k) (xs := xs) fun y hy => h y (List.mem_cons_of_mem _ hy)
    have c := RpL.cons (h x List.mem_cons_self) g
    have e : (x :: xs).length * (a + 1) = a + 1 + xs.length * (a + 1) := by rw [List.length_cons, Nat.add_mul]; omega
    rw [e]
    exact c
theorem rp_int {i : Int} (h1 : -(2 : Int) ^ 200 ≤ i) (h2 : i ≤ (2 : Int) ^ 200) : Rp (.int i) 0 0 := by
  have hn : i.natAbs ≤ 2 ^ 200 := by
    have e : ((2 : Int) ^ 200) = ((2 ^ 200 : Nat) : Int) := by norm_cast
    rw [e] at h1 h2
    omega
  have hl : i.natAbs.log2 < 201 := by
    by_cases z : i.natAbs = 0
    · rw [z]; decide
    · exact (Nat.log2_lt z).mpr (Nat.lt_of_le_of_lt hn (by decide))
  refine ⟨decide_eq_true (by omega), decide_eq_true ?_, Nat.le_refl _, Nat.le_refl _⟩
  have h := int_text_length_le (k := 201) (by decide) hl
  show (Str.ofString (toString i)).length ≤ 250
  rw [PySem.ofString_length]
  omega
theorem rp_bool (b : Bool) : Rp (.bool b) 0 0 := ⟨rfl, rfl, Nat.le_refl _, Nat.le_refl _⟩
theorem rp_none : Rp .none 0 0 := ⟨rfl, rfl, Nat.le_refl _, Nat.le_refl _⟩
theorem letters_lt : (letters.cps.toList.all fun c => decide (c < 16 ^ 8)) = true := by decide +kernel
theorem rp_name {s : Str} (h : isNameS s = true) : Rp (.str s) 8 0 := by
  unfold isNameS at h
  rw [Bool.and_eq_true, Bool.and_eq_true, decide_eq_true_iff, decide_eq_true_iff, List.all_eq_true] at h
  refine ⟨rfl, ?_, ?_, Nat.le_refl _⟩
  · show (s.cps.toList.all fun c => decide (c < 16 ^ 8)) = true
    rw [List.all_eq_true]
    intro c hc
    exact List.all_eq_true.mp letters_lt c (of_decide_eq_true (h.2 c hc))
  · exact h.1.2
theorem rp_odd : ∀ d, OddV d → Rp d 40 3 := by
  have key : (oddD1 ++ oddD2).all (fun d => d.showable && d.leavesShort 250 && decide (d.bulk ≤ 40) && decide (d.depth ≤ 3)) = true := by decide +kernel
  intro d hd
  have h := List.all_eq_true.mp key d hd
  rw [Bool.and_eq_true, Bool.and_eq_true, Bool.and_eq_true, decide_eq_true_iff, decide_eq_true_iff] at h
  exact ⟨h.1.1.1, h.1.1.2, h.1.2, h.2⟩
theorem rp_val {d : PyData} (h : ValOk d) : Rp d 40 3 := by
  rcases h with h | ⟨s, rfl, hs⟩ | ⟨i, rfl, h1, h2⟩
  · exact rp_odd d h
  · exact (rp_name hs).up
  · exact (rp_int (by omega) (by omega)).up
theorem rp_edg {e : Edg} {ns : List Str} (h : isEdge e.d ns = true) : Rp e.d 40 3 := by
  obtain ⟨a, b, c, _, _, _, i, j⟩ := isEdge_iff.mp h
  exact ((RpL.cons (rp_name a) (RpL.cons (rp_name b) (RpL.cons (rp_name c) (RpL.cons (rp_int (by omega) (by omega)) RpL.nil)))).tup).up
theorem rp_names {ns : List Str} (h : ∀ s ∈ ns, isNameS s = true) : RpL (ns.map PyData.str) (ns.length * 9) 0 := RpL.map fun s hs => rp_name (h s hs)
theorem rp_edgs {ns : List Str} {es : List Edg} (h : ∀ e ∈ es, isEdge e.d ns = true) : RpL (es.map Edg.d) (es.length * 41) 3 := RpL.map fun e he => rp_edg (h e he)
/-! ### isinstance, the class itself -/
theorem ans_same {a D : Addr} {ox od : Obj} : Answers (fun s => PySem.W.InstAt s.heap a ox D (some od)) (.ref a) (.ref D) true := by
  intro dep tk prog w A R s hs
  obtain ⟨h0, g, d, tt, os⟩ := s
  obtain ⟨I, hq⟩ := hs
  have LT : PySem.W.Looks (model prog w) h0 (typeOf (.ref a)) (.ref D) := I.type
  unfold Builtin.«isinstance.nested»
  refine wpAny_bind (LT.at ?_)
  rw [if_pos (beq_self_eq_true _)]
  first
    | exact hq tt
    | exact wpAny_bind (wpAny_rule (hq tt))
    | exact wpAny_bind (wpAny_rule (wpAny_pure (hq tt)))
def rIsSame : List V → Hp → VK → Prop := fun xs H Q => ∃ (a C dx : Addr) (fs : List (Str × V)), xs = [.ref a, .ref C] ∧ H a = some (.ins C dx fs) ∧ Q (.bl true) H
theorem call_isSame {X : Cx} : CallR X (.builtin "isinstance") rIsSame := by
  intro pins s σ H xs us Q I r h
  obtain ⟨a, C, dx, fs, rfl, ea, q⟩ := h
  obtain ⟨u1, u2, rfl, r1, r2⟩ := vals2 r
  obtain rfl : u1 = Value.ref a := r1
  obtain rfl : u2 = Value.ref C := r2
  obtain ⟨mA, O, _⟩ := ins_get I.hok ea
  obtain ⟨od, J, _⟩ := O.look
  exact call_isinstance (S := fun _ R s => (PySem.W.InstAt s.heap a _ C (some od)) ∧ ∀ tk, R (.ok (.ret (.bool true))) { s with toks := tk })
    (fun prog w A R s hs => isinstance_outer (ans_same 0 _ prog w A R s hs) (fun z => nomatch z)) ⟨J, fun tk => ⟨.bl true, H, I.tok tk, rfl, q⟩⟩
end Ld
/-! Gm: shows. -/
namespace Ld
open PySem L2 PyProof.Rows
def spShows (K : PySem.W.Frag) : Sp := fun vs H Q _ => ∃ (R : Hp) (h v : V) (L : Net) (m : Nat), vs = [h, v] ∧ Same R H ∧ NetRel K R h L ∧ At R v L.d ∧ GL L m ∧ m ≤ 59 ∧ ∀ (R' H' : Hp), Fx [] R H R' H' → Q (.bl true) H'
section
variable {P : Program} {w : World} {K : PySem.W.Frag} {mg : Str → Option Value} {base : Heap}
theorem ok_lshows (PF : PP P) (Z : Tz w K mg) : FnG P w K mg base CX0 3 (a_lshows K) (f_lshows K) P_lshows (spShows K) := by
  have T := Z.t
  refine FunD.okG T.d_lshows sc_lshows (fun vs H Q E h => by obtain ⟨_, _, _, _, _, rfl, _⟩ := h; rfl) (fun cdv A outer s H vs Q E hr hG h => ?_)
  have hu := hu_of hr
  have hu2 := hr.units
  have hu3 : (A.deeper (envOfC "_law_shows" (defScope st_lshows) s.heap.objs.size (a_lshows K) cdv)).units + 65 < cLine := by have := hr.un; omega
  have nd := sc_lshows.nd
  have hsz := sizeLine_eq
  refine ⟨_, PSs.nox (pss_cons (ps_asg (pe_call (ok_lrows T) (hr.mono (by decide)) (by rfl) T.g_lrows T.k_lrows T.b_lrows .nil pass0 (pa_cons (pv 1) pa_nil)) (pg_tup rfl (pgs_cons (pg_name (i := 2) nd rfl (Or.inl rfl)) (pgs_cons (pg_name (i := 3) nd rfl (Or.inl rfl)) pgs_nil))))
    (pss_cons (ps_if (PW.pt (pw_or (pt_not (pt_val (pe_callB call_isSame (by rfl) T.f_isinstance boot_isinstance (pa_cons (pv 0) (pa_cons (pe_glob (v := .ref _) (by rfl) T.g_Network rfl) pa_nil))))) (pw_or1 (pt_cmpR op_ne (pe_callB (call_reprD Z hG hu3) (by rfl) T.f_repr boot_repr (pa_cons (pe_tup (pa_cons (pe_prop (pv 0) T.clN T.p_N_nodes (ok_N_nodes T) (hr.mono (by decide)) T.b_N_nodes .nil pass0 rfl) (pa_cons (pe_prop (pv 0) T.clN T.p_N_edges (ok_N_edges T) (hr.mono (by decide)) T.b_N_edges .nil pass0 rfl) pa_nil))) pa_nil)) (pe_callB (call_reprD Z hG hu3) (by rfl) T.f_repr boot_repr (pa_cons (pe_tup (pa_cons (pv 2) (pa_cons (pv 3) pa_nil))) pa_nil)) (nomark _)))))
      (pss_one (ps_ret pe_bl))
      pss_nil)
    (pss_one (ps_ret (pe_cmpR op_eq (pe_callB (call_reprD Z hG hu3) (by rfl) T.f_repr boot_repr (pa_cons (pe_tup (pa_cons (pe_prop (pv 0) T.clN T.p_N_names (ok_N_names T) (hr.mono (by decide)) T.b_N_names .nil pass0 rfl) (pa_cons (pe_callB (call_lenO (ds := []) T.m_N_len (ok_N_len T) (hr.mono (by decide)) T.b_N_len pass0) (by rfl) T.f_len boot_len (pa_cons (pv 0) pa_nil)) pa_nil))) pa_nil)) (pe_callB (call_reprD Z hG hu3) (by rfl) T.f_repr boot_repr (pa_cons (pe_tup (pa_cons (pe_callTy call_tuple_of (by rfl) T.f_tuple boot_tuple (pa_cons (pe_lc (own := [("_law_edge", 4)]) (g := (gName 4)) (tt := tYes) (by rfl) nd (pi_tup (pv 3)) (blkOk_by (N := N_lshows) (sc := defScope st_lshows) (by decide +kernel)) (fun _ _ _ _ _ => (pg_name (i := 4) nd rfl (Or.inl rfl))) (fun _ _ _ _ _ => pts_nil) (fun _ _ _ _ _ => (pe_ix (show IxR _ (rIxT K) from ix_tup) (pv 4) pe_int (fun _ _ => rfl)))) pa_nil)) (pa_cons (pe_callB call_len_seq (by rfl) T.f_len boot_len (pa_cons (pv 3) pa_nil)) pa_nil))) pa_nil)) (nomark _)))))), ?_⟩
  obtain ⟨R, h, v, L, m, rfl, k, hN, hL, gL, hm, q⟩ := h
  obtain ⟨N, aN, nN⟩ := hN
  have lnn := gL.f.nl
  have lel := gL.el
  refine ⟨_, rfl, R, v, L, rfl, k, hL, gL.f.en, by omega, by omega, fun N' R1 H1 r nN' f1 hr1 => ?_⟩
  have eN := nN.uniq gL.f nN'
  subst eN
  have gN := gL.f.perm nN.np nN.ep
  have hel : N.es.length ≤ 59 := by rw [nN.ep.length_eq, List.length_map]; omega
  obtain ⟨ra, rvs, rfl, r1, r2, r3⟩ := hr1.isT K f1.rh
  obtain ⟨va, vb, rfl, hva, hvb⟩ := r2.two
  refine ⟨ra, _, rfl, r3, rfl, _, _, rfl, _, _, rfl, rfl, ?_⟩
  have aN1 := aN.up f1.rr
  obtain ⟨a, dx, p', q', b, vs, g, rfl, h1, h2, h3, h4, h5, h6⟩ := aN1.ob
  have hob := f1.rh _ _ h1
  refine ⟨_, rfl, a, CN K, dx, _, rfl, hob, _, rfl, ?_⟩
  -- the first text
  have rp1 : OkR (.tuple [nodesD N, edgesD N]) := ((RpL.cons ((rp_names gN.nm).tup.up (m := 400) (j := 4) (by have := gN.nl; omega)) (RpL.cons ((rp_edgs gN.ed).tup) RpL.nil)).tup).ok (by have := gN.nl; omega)
  have rp2 : OkR (.tuple [namesD N, lenD N]) := by
    have hnm : ∀ s ∈ N.es.map Edg.n, isNameS s = true := fun s hs => by
      obtain ⟨e, he, rfl⟩ := List.mem_map.mp hs
      exact (isEdge_iff.mp (gN.ed e he)).1
    exact ((RpL.cons ((rp_names hnm).tup) (RpL.cons ((rp_int (i := N.es.length) (by omega) (by omega)).up (m := 0) (j := 1)) RpL.nil)).tup).ok (by rw [List.length_map]; omega)
  refine iteF ?_
  refine ⟨_, rfl, a, dx, _, rfl, hob, R1, .ref a, N, rfl, f1.rh, aN1, by omega, fun R2 H2 x2 f2 hx2 => ?_⟩
  refine ⟨_, rfl, a, dx, _, rfl, f2.rh _ _ (f2.rr _ _ h1), R2, .ref a, N, rfl, f2.rh, aN1.up f2.rr, by omega, fun R3 H3 x3 f3 hx3 => ⟨by show 2 ≤ sizeLine; omega, fun t ht => ?_⟩⟩
  obtain ⟨R4, f4, t4, m4⟩ := nw_tup f3.rh (.cons (hx2.up f3.rr) (.cons hx3 .nil)) ht
  have f14 := (f2.trans f3).trans f4
  refine ⟨R4, _, _, rfl, f4.rh, t4, rp1, ?_⟩
  refine ⟨_, rfl, _, rfl, by show 2 ≤ sizeLine; omega, fun u hu' => ?_⟩
  obtain ⟨R5, f5, t5, m5⟩ := nw_tup f4.rh (.cons (hva.up f14.rr) (.cons (hvb.up f14.rr) .nil)) hu'
  have f15 := f14.trans f5
  refine ⟨R5, _, _, rfl, f5.rh, t5, rp1, rfl, _, rfl, ?_⟩
  refine iteB (fun _ => ?_) (fun h => absurd h (by simp [nodesD, edgesD]))
  -- the second text
  refine ⟨_, rfl, a, dx, _, rfl, f15.rh _ _ (f15.rr _ _ h1), R5, .ref a, N, rfl, f15.rh, aN1.up f15.rr, by omega, fun R6 H6 x6 f6 hx6 => ?_⟩
  refine ⟨_, rfl, a, dx, _, rfl, f6.rh _ _ (f6.rr _ _ (f15.rr _ _ h1)), R6, .ref a, N, rfl, f6.rh, (aN1.up f15.rr).up f6.rr, by omega, fun R7 H7 x7 f7 hx7 => ?_⟩
  have hx7' := hx7
  cases hx7
  refine ⟨_, rfl, by omega, by omega, by show 2 ≤ sizeLine; omega, fun t ht => ?_⟩
  obtain ⟨R8, f8, t8, m8⟩ := nw_tup f7.rh (.cons (hx6.up f7.rr) (.cons hx7' .nil)) ht
  have f18 := f15.trans ((f6.trans f7).trans f8)
  refine ⟨R8, _, _, rfl, f8.rh, t8, rp2, ?_⟩
  obtain ⟨ea, evs, rfl, e1, e2, e3⟩ := (hvb.up f18.rr).isT K f18.rh
  have evl : evs.length = N.es.length := by rw [e2.length, List.length_map]
  refine ⟨_, rfl, ea, rfl, ⟨_, e3⟩, fun D hD => ?_⟩
  refine lc_data (walk_tup (xs := evs)) [] (fun i => (N.es.take i).map fun e => PyData.str e.n) (fun _ _ _ => True) f18.rh hD (by simp) (fun i hi => ?_) rfl trivial (fun i R H _ f _ => SqT.of (f.rh _ _ (f.rr _ _ e1))) (fun _ _ _ _ _ _ => trivial) (fun i x R' H' H'' vs Cy Cn hi f r hv ac e y ky kn => ?_) (fun R9 H9 vs f9 r hv ac _ => ?_)
  · simp only [List.length_map, List.length_take]; omega
  · obtain ⟨rfl, hx⟩ := y
    have hi' : i < N.es.length := by omega
    obtain ⟨d, hd1, hd2⟩ := e2.get hx
    rw [List.getElem?_map, List.getElem?_eq_getElem hi'] at hd1
    cases hd1
    refine ⟨rfl, iteT (B := Cn H'') ?_⟩
    obtain ⟨et, ets, nv, rfl, sE, eE, hv2⟩ := (hd2.up f.rr).ixT K f.rh (j := 0) rfl
    refine ⟨_, rfl, et, _, _, nv, rfl, rfl, sE, at_of2 (j := 0) rfl eE, ky R' H'' _ _ (Fx.refl f.rh) hv2 ?_ trivial⟩
    rw [take_snoc _ _ hi', List.map_append]
    rfl
  · rw [evl, List.take_of_length_le (Nat.le_refl _)] at ac
    obtain ⟨R10, f10, eD, m10⟩ := f9.fz hv hD r
    refine ⟨D, vs, rfl, .inl ⟨SqL.of hv, fun z hz => ?_⟩⟩
    obtain ⟨R11, f11, t11, m11⟩ := nw_tup f10.rh (ac.up m10) hz
    refine ⟨_, rfl, ea, evs, rfl, .inr (SqT.of (f11.rh _ _ (m11 _ _ (f10.rr _ _ e1)))), by show 2 ≤ sizeLine; omega, fun o ho => ?_⟩
    obtain ⟨R12, f12, t12, m12⟩ := nw_tup f11.rh (.cons t11 (.cons (.int _) .nil)) ho
    have e : (PyData.tuple [.tuple (N.es.map fun e => PyData.str e.n), .int ((evs.length : Nat) : Int)]) = .tuple [namesD N, lenD N] := by
      rw [evl]
      unfold namesD lenD
      rw [List.map_map]
      rfl
    rw [e] at t12
    refine ⟨R12, _, _, rfl, f12.rh, t12, rp2, rfl, ?_⟩
    rw [decide_eq_true rfl]
    exact q R12 _ (((f1.trans f18).trans f10).trans (f11.trans f12))
end
end Ld
/-! Gn: the law's is_change. -/
namespace Ld
open PySem L2 PyProof.Rows
def formsK : List (Key × V) := [((Sum.inr "node" : Key), V.int 2), (Sum.inr "drop", .int 2), (Sum.inr "edge", .int 5), (Sum.inr "cut", .int 2), (Sum.inr "length", .int 3)]
theorem formsK_get (c : Chg) : valV formsK (Sum.inr c.w : Key) = some (.int ((c.ps.length : Nat) + 1)) := by cases c <;> rfl
section
variable {P : Program} {w : World} {K : PySem.W.Frag} {mg : Str → Option Value} {base : Heap}
theorem ok_lis_change (T : Tx w K mg) : FnOk P w K mg base CX0 1 (a_lis_change K) (f_lis_change K) P_lis_change spIC := by
  refine T.d_lis_change.ok sc_lis_change (fun vs H Q E h => by obtain ⟨_, _, _, rfl, _⟩ := h; rfl) (fun cdv A outer s H vs Q E hr h => ?_)
  have hu := hu_of hr
  have hu2 := hr.units
  have nd := sc_lis_change.nd
  have hsz := sizeLine_eq
  refine ⟨_, PSs.nox (pss_cons (ps_set (i := 1) nd rfl (Or.inl rfl) (pe_disp (pps_cons pe_str pe_int (pps_cons pe_str pe_int (pps_cons pe_str pe_int (pps_cons pe_str pe_int (pps_cons pe_str pe_int pps_nil))))) (by rfl) (by rfl) (fun z => by cases z) (by decide)))
    (pss_cons (ps_if (PW.pt (pw_or (pt_not (pt_val (pe_callB call_isi (by rfl) T.f_isinstance boot_isinstance (pa_cons (pv 0) (pa_cons (pe_bltn (v := .ty "tuple") (by rfl) T.f_tuple boot_tuple rfl) pa_nil))))) (pw_or (pt_cmpR (op_eqT0 hu2) (pv 0) (pe_tup pa_nil) (nomark _)) (pw_or1 (pt_not (pt_val (pe_callB call_isi (by rfl) T.f_isinstance boot_isinstance (pa_cons (pe_ix ix_tup (pv 0) pe_int (fun _ _ => rfl)) (pa_cons (pe_bltn (v := .ty "str") (by rfl) T.f_str boot_str rfl) pa_nil)))))))))
      (pss_one (ps_ret pe_bl))
      pss_nil)
    (pss_one (ps_ret (pe_cmpR op_eq (pe_dget1 hu (pv 1) (pe_ix ix_tup (pv 0) pe_int (fun _ _ => rfl)) ⟨rfl, rfl, rfl, rfl⟩) (pe_callB call_len_seq (by rfl) T.f_len boot_len (pa_cons (pv 0) pa_nil)) (nomark _)))))), ?_⟩
  obtain ⟨R, v, c, rfl, k, hd, q⟩ := h
  have hd0 := hd
  rw [c.d_eq] at hd
  obtain ⟨a, vs, rfl, e1, e2, _⟩ := hd.isT K k
  have hl := e2.length
  obtain ⟨v0, h0, hv0⟩ := e2.get' (i := 0) rfl
  cases hv0
  refine fun p hp => ?_
  have f0 := (Fx.refl (M := []) k).newH (o := .dK []) hp
  have rp : R p = none := same_none k hp
  refine ⟨upd_same, formsK, rfl, by show 5 ≤ 15; decide, ?_⟩
  have f1 : Fx [] R H R (upd (upd H p (.dK [])) p (.dK (mergeK [] formsK))) := f0.put rp (.inr hp)
  have em : (upd (upd H p (.dK [])) p (.dK (mergeK [] formsK))) p = some (.dK formsK) := upd_same
  show tSeq _ _ _ _ (upd (upd H p (.dK [])) p (.dK (mergeK [] formsK)))
  generalize upd (upd H p (.dK [])) p (.dK (mergeK [] formsK)) = H1 at f1 em ⊢
  refine ⟨_, rfl, .ref a, _, _, _, _, rfl, .ty _, hd.tyx f1.rh, kT K _, ?_⟩
  refine ⟨_, rfl, iteF ?_⟩
  refine ⟨_, rfl, Nat.zero_le _, fun z hz => ?_⟩
  have f2 := f1.newH (o := .tup []) hz
  have em2 : upd H1 z (.tup []) p = some (.dK formsK) := by rw [upd_ne (ne_of_none em hz)]; exact em
  refine ⟨a, z, vs, rfl, rfl, SqT.of (f2.rh _ _ e1), SqT.of upd_same, _, rfl, ?_⟩
  generalize upd H1 z (.tup []) = H2 at f2 em2 ⊢
  have hne : isE vs = false := by
    cases vs with
    | nil => simp at hl
    | cons _ _ => rfl
  rw [hne]
  refine iteF ?_
  refine ⟨_, rfl, a, _, _, _, rfl, rfl, SqT.of (f2.rh _ _ e1), at_of2 (j := 0) rfl h0, _, _, _, _, _, rfl, .ty _, (At.str c.w : At R _ _).tyx f2.rh, kS K _, ?_⟩
  refine ⟨_, rfl, iteF ?_⟩
  refine ⟨_, rfl, p, rfl, .inl ⟨_, .inl em2⟩, _, rfl, a, _, _, _, rfl, rfl, SqT.of (f2.rh _ _ e1), at_of2 (j := 0) rfl h0, _, dgetR (.inl em2) (formsK_get c), ?_⟩
  refine ⟨_, rfl, a, vs, rfl, .inr (SqT.of (f2.rh _ _ e1)), rfl, ?_⟩
  have e : V.int (((c.ps.length : Nat) : Int) + 1) = V.int ((vs.length : Nat) : Int) := by
    rw [hl, List.length_cons]
    rfl
  show Q (.bl (decide (V.int (((c.ps.length : Nat) : Int) + 1) = V.int ((vs.length : Nat) : Int)))) H2
  rw [decide_eq_true e]
  exact q H2 f2
end
end Ld
/-! Go: one_changed. -/
namespace Ld
open PySem L2 PyProof.Rows
def oneD : Err ⊕ Net → PyData
  | .inl e => faultD e
  | .inr _ => .none
theorem okS_val {d : PyData} (h : ValOk d) : okS d = true := by
  rcases h with h | ⟨s, rfl, hs⟩ | ⟨i, rfl, _, _⟩
  · have key : (oddD1 ++ oddD2).all (fun d => okS d) = true := by decide +kernel
    exact List.all_eq_true.mp key d h
  · unfold isNameS at hs
    rw [Bool.and_eq_true, Bool.and_eq_true, decide_eq_true_iff, decide_eq_true_iff] at hs
    exact decide_eq_true (by omega)
  · rfl
theorem Chg.ok_ps {c : Chg} (h : c.ok) : ∀ d ∈ c.ps, ValOk d := by
  cases c with
  | node d => intro x hx; obtain rfl := List.mem_singleton.mp hx; exact h
  | drop d => intro x hx; obtain rfl := List.mem_singleton.mp hx; exact h
  | cut d => intro x hx; obtain rfl := List.mem_singleton.mp hx; exact h
  | len d l =>
    intro x hx
    simp only [Chg.ps, List.mem_cons, List.not_mem_nil, or_false] at hx
    rcases hx with rfl | rfl
    · exact h.1
    · exact h.2
  | edge ea' eb ec el =>
    intro x hx
    simp only [Chg.ps, List.mem_cons, List.not_mem_nil, or_false] at hx
    rcases hx with rfl | rfl | rfl | rfl
    · exact h.1
    · exact h.2.1
    · exact h.2.2.1
    · exact h.2.2.2
theorem okSs_all : ∀ {ds : List PyData}, (∀ d ∈ ds, okS d = true) → okSs ds = true
  | [], _ => rfl
  | d :: r, h => by
    show (okS d && okSs r) = true
    rw [h d List.mem_cons_self, okSs_all fun x hx => h x (List.mem_cons_of_mem _ hx)]
    rfl
theorem Chg.ok_okS {c : Chg} (h : c.ok) : okSs c.ps = true := okSs_all fun d hd => okS_val (Chg.ok_ps h d hd)
theorem okR_val {d : PyData} (h : ValOk d) : OkR d := (rp_val h).ok
theorem okR_chg {c : Chg} (h : c.ok) : OkR (.tuple c.ps) := by
  have g := RpL.map (f := fun d : PyData => d) (xs := c.ps) fun d hd => rp_val (Chg.ok_ps h d hd)
  rw [List.map_id'] at g
  exact g.tup.ok (by cases c <;> simp [Chg.ps])
theorem okR_strs {ns : List Str} (h : ∀ s ∈ ns, isNameS s = true) : ∀ d ∈ ns.map PyData.str, OkR d := fun d hd => by
  obtain ⟨s, hs, rfl⟩ := List.mem_map.mp hd
  exact (rp_name (h s hs)).ok
theorem okR_edgs {ns : List Str} {es : List Edg} (h : ∀ e ∈ es, isEdge e.d ns = true) : ∀ d ∈ es.map Edg.d, OkR d := fun d hd => by
  obtain ⟨e, he, rfl⟩ := List.mem_map.mp hd
  exact (rp_edg (h e he)).ok
theorem one_fin {L : Net} {c : Chg} {a b : List PyData} (h : after L c = .inr (a, b)) : oneD (oneL L c) = dueD (due a b) ∧ ∀ L', oneL L c = .inr L' → .tuple [.list a, .list b] = L'.d := by
  have q := oneL_inr h
  cases hd : due a b with
  | some e =>
    rw [hd] at q
    rw [q]
    exact ⟨rfl, fun L' e => by cases e⟩
  | none =>
    rw [hd] at q
    rw [q]
    refine ⟨rfl, fun L' e => ?_⟩
    cases e
    cases hw : wnode a with
    | some d => rw [due_of, hw] at hd; cases hd
    | none =>
      obtain ⟨ns, rfl⟩ := wnode_strs hw
      rw [due_of, hw] at hd
      simp only [namL_map] at hd
      cases hwe : weGo ns [] b with
      | some d => rw [hwe] at hd; cases hd
      | none =>
        obtain ⟨es, rfl, _⟩ := weGo_ok b [] hwe List.nodup_nil
        rw [namL_map, edgs_map]
        rfl
theorem cutV2 (x y : V) (r : List V) : cutV (x :: y :: r) none (some 2) = [x, y] := by
  unfold cutV
  rw [HT.sIx_none, show (2 : Int) = ((2 : Nat) : Int) from rfl, HT.sIx_nat]
  have : min 2 (x :: y :: r).length = 2 := by simp only [List.length_cons]; omega
  rw [this]
  rfl
theorem cutV1 (x : V) (r : List V) : cutV (x :: r) (some 1) none = r := by
  unfold cutV
  rw [HT.sIx_none, show (1 : Int) = ((1 : Nat) : Int) from rfl, HT.sIx_nat]
  have : min 1 (x :: r).length = 1 := by simp only [List.length_cons]; omega
  rw [this]
  show (r).take ((r.length + 1) - 1) = r
  rw [Nat.add_sub_cancel, List.take_of_length_le (Nat.le_refl _)]
def spOne : Sp := fun vs H Q _ => ∃ (R : Hp) (nv cv : V) (L : Net) (c : Chg) (m : Nat), vs = [nv, cv] ∧ Same R H ∧ At R nv L.d ∧ At R cv c.d ∧ c.ok ∧ GL L m ∧ m ≤ 59 ∧
  ∀ (R' H' : Hp) (r : V) (nd : PyData), Fx [] R H R' H' → At R' r (.tuple [oneD (oneL L c), nd]) → (∀ L', oneL L c = .inr L' → nd = L'.d) → Q r H'
section
variable {P : Program} {w : World} {K : PySem.W.Frag} {mg : Str → Option Value} {base : Heap}
theorem ok_lone_changed (PF : PP P) (Z : Tz w K mg) : FnG P w K mg base CX0 5 (a_lone_changed K) (f_lone_changed K) P_lone_changed spOne := by
  have T := Z.t
  refine FunD.okG T.d_lone_changed sc_lone_changed (fun vs H Q E h => by obtain ⟨_, _, _, _, _, _, rfl, _⟩ := h; rfl) (fun cdv A outer s H vs Q E hr hG h => ?_)
  have hu := hu_of hr
  have hu2 := hr.units
  have hu3 : (A.deeper (envOfC "_law_one_changed" (defScope st_lone_changed) s.heap.objs.size (a_lone_changed K) cdv)).units + 65 < cLine := by have := hr.un; omega
  have nd := sc_lone_changed.nd
  have hsz := sizeLine_eq
  refine ⟨_, PSs.nox (pss_cons (ps_asg (pe_slice sl_tupX (pv 1) po_none (po_some pe_int)) (pg_tup rfl (pgs_cons (pg_name (i := 2) nd rfl (Or.inl rfl)) (pgs_cons (pg_name (i := 3) nd rfl (Or.inr rfl)) pgs_nil))))
    (pss_cons (ps_asg (pv 0) (pg_tup rfl (pgs_cons (pg_name (i := 4) nd rfl (Or.inl rfl)) (pgs_cons (pg_name (i := 5) nd rfl (Or.inl rfl)) pgs_nil))))
    (pss_cons (ps_if (pt_cmpR op_eq (pv 2) pe_str (nomark _))
      (pss_one (ps_ret (pe_tup (pa_cons (pe_callG hG (ok_ldue PF Z) (hr.mono (by decide)) (by rfl) T.g_ldue T.k_ldue T.b_ldue .nil pass0 (pa_cons (pe_op op_cat (pv 4) (pe_lst (pa_cons (pv 3) pa_nil))) (pa_cons (pv 5) pa_nil))) (pa_cons (pe_tup (pa_cons (pe_op op_cat (pv 4) (pe_lst (pa_cons (pv 3) pa_nil))) (pa_cons (pv 5) pa_nil))) pa_nil)))))
      pss_nil)
    (pss_cons (ps_if (pt_cmpR op_eq (pv 2) pe_str (nomark _))
      (pss_one (ps_ret (pe_tup (pa_cons (pe_callG hG (ok_ldue PF Z) (hr.mono (by decide)) (by rfl) T.g_ldue T.k_ldue T.b_ldue .nil pass0 (pa_cons (pv 4) (pa_cons (pe_op op_cat (pv 5) (pe_lst (pa_cons (pe_slice sl_tupX (pv 1) (po_some pe_int) po_none) pa_nil))) pa_nil))) (pa_cons (pe_tup (pa_cons (pv 4) (pa_cons (pe_op op_cat (pv 5) (pe_lst (pa_cons (pe_slice sl_tupX (pv 1) (po_some pe_int) po_none) pa_nil))) pa_nil))) pa_nil)))))
      pss_nil)
    (pss_cons (ps_if (pt_cmpR op_eq (pv 2) pe_str (nomark _))
      (pss_cons (ps_set (i := 6) nd rfl (Or.inr rfl) (pe_lc (own := [("_law_node", 10)]) (g := (gName 10)) (by rfl) nd (pi_list (pv 4)) (blkOk_by (N := N_lone_changed) (sc := defScope st_lone_changed) (by decide +kernel)) (fun _ _ _ _ _ => (pg_name (i := 10) nd rfl (Or.inl rfl))) (fun _ _ _ _ _ => (pts_one (pt_cmpR (op_neN hu3) (pv 10) (pv 3) (nomark _)))) (fun _ _ _ _ _ => (pv 10))))
      (pss_cons (ps_setLc (i := 7) (own := [("_law_edge", 9)]) (g := (gName 9)) (by rfl) nd rfl rfl (sw_true rfl rfl rfl (by decide +kernel)) (pi_list (pv 5)) (blkOk_by (N := N_lone_changed) (sc := defScope st_lone_changed) (by decide +kernel)) (fun _ _ _ _ _ => (pg_name (i := 9) nd rfl (Or.inl rfl))) (fun _ _ _ _ _ => (pts_one (PW.pt (pw_and (pt_cmpR (show OpR _ _ (rInN K false) from op_inN hu3) (pe_ix (show IxR _ (rIxT K) from ix_tup) (pv 9) pe_int (fun _ _ => rfl)) (pv 6) (by rfl)) (pw_and1 (pt_cmpR (show OpR _ _ (rInN K false) from op_inN hu3) (pe_ix (show IxR _ (rIxT K) from ix_tup) (pv 9) pe_int (fun _ _ => rfl)) (pv 6) (by rfl))))))) (fun _ _ _ _ _ => (pv 9)))
      (pss_one (ps_ret (pe_tup (pa_cons (pe_ifExp (pt_cmpR (op_inN hu3) (pv 3) (pv 4) (by rfl)) (pe_callG hG (ok_ldue PF Z) (hr.mono (by decide)) (by rfl) T.g_ldue T.k_ldue T.b_ldue .nil pass0 (pa_cons (pv 6) (pa_cons (pv 7) pa_nil))) (pe_tup (pa_cons pe_str (pa_cons (pe_callB (call_reprD Z hG hu3) (by rfl) T.f_repr boot_repr (pa_cons (pv 3) pa_nil)) pa_nil)))) (pa_cons (pe_tup (pa_cons (pv 6) (pa_cons (pv 7) pa_nil))) pa_nil)))))))
      pss_nil)
    (pss_cons (ps_if (pt_cmpR (op_notInN hu3) (pv 3) (pe_lc (own := [("_law_edge", 9)]) (g := (gName 9)) (tt := tYes) (by rfl) nd (pi_list (pv 5)) (blkOk_by (N := N_lone_changed) (sc := defScope st_lone_changed) (by decide +kernel)) (fun _ _ _ _ _ => (pg_name (i := 9) nd rfl (Or.inl rfl))) (fun _ _ _ _ _ => pts_nil) (fun _ _ _ _ _ => (pe_ix (show IxR _ (rIxT K) from ix_tup) (pv 9) pe_int (fun _ _ => rfl)))) (by rfl))
      (pss_one (ps_ret (pe_tup (pa_cons (pe_tup (pa_cons pe_str (pa_cons (pe_callB (call_reprD Z hG hu3) (by rfl) T.f_repr boot_repr (pa_cons (pv 3) pa_nil)) pa_nil))) (pa_cons (pv 0) pa_nil)))))
      pss_nil)
    (pss_cons (ps_if (pt_cmpR op_eq (pv 2) pe_str (nomark _))
      (pss_cons (ps_setLc (i := 7) (own := [("_law_edge", 9)]) (g := (gName 9)) (by rfl) nd rfl rfl (sw_true rfl rfl rfl (by decide +kernel)) (pi_list (pv 5)) (blkOk_by (N := N_lone_changed) (sc := defScope st_lone_changed) (by decide +kernel)) (fun _ _ _ _ _ => (pg_name (i := 9) nd rfl (Or.inl rfl))) (fun _ _ _ _ _ => (pts_one (pt_cmpR (op_neN hu3) (pe_ix (show IxR _ (rIxT K) from ix_tup) (pv 9) pe_int (fun _ _ => rfl)) (pv 3) (nomark _)))) (fun _ _ _ _ _ => (pv 9)))
      (pss_one (ps_ret (pe_tup (pa_cons (pe_callG hG (ok_ldue PF Z) (hr.mono (by decide)) (by rfl) T.g_ldue T.k_ldue T.b_ldue .nil pass0 (pa_cons (pv 4) (pa_cons (pv 7) pa_nil))) (pa_cons (pe_tup (pa_cons (pv 4) (pa_cons (pv 7) pa_nil))) pa_nil))))))
      pss_nil)
    (pss_cons (ps_if (pt_not (pt_val (pe_call (ok_lis_between T) (hr.mono (by decide)) (by rfl) T.g_lis_between T.k_lis_between T.b_lis_between .nil pass0 (pa_cons (pe_ix ix_tup (pv 1) pe_int (fun _ _ => rfl)) (pa_cons (pe_un un_neg pe_int) (pa_cons pe_int pa_nil))))))
      (pss_one (ps_ret (pe_tup (pa_cons (pe_tup (pa_cons pe_str (pa_cons (pe_callB (call_reprD Z hG hu3) (by rfl) T.f_repr boot_repr (pa_cons (pe_ix ix_tup (pv 1) pe_int (fun _ _ => rfl)) pa_nil)) pa_nil))) (pa_cons (pv 0) pa_nil)))))
      pss_nil)
    (pss_cons (ps_setLc (i := 8) (own := [("_law_edge", 9)]) (g := (gName 9)) (tt := tYes) (by rfl) nd rfl rfl (sw_true rfl rfl rfl (by decide +kernel)) (pi_list (pv 5)) (blkOk_by (N := N_lone_changed) (sc := defScope st_lone_changed) (by decide +kernel)) (fun _ _ _ _ _ => (pg_name (i := 9) nd rfl (Or.inl rfl))) (fun _ _ _ _ _ => pts_nil) (fun _ _ _ _ _ => (pe_ifExp (pt_cmpR (op_eqN hu3) (pe_ix (show IxR _ (rIxT K) from ix_tup) (pv 9) pe_int (fun _ _ => rfl)) (pv 3) (nomark _)) (pe_op op_catS (pe_slice (show SlR _ (rSlX K) from sl_tupX) (pv 9) po_none (po_some pe_int)) (pe_tup (pa_cons (pe_ix (show IxR _ (rIxT K) from ix_tup) (pv 1) pe_int (fun _ _ => rfl)) pa_nil))) (pv 9))))
    (pss_one (ps_ret (pe_tup (pa_cons (pe_callG hG (ok_ldue PF Z) (hr.mono (by decide)) (by rfl) T.g_ldue T.k_ldue T.b_ldue .nil pass0 (pa_cons (pv 4) (pa_cons (pv 8) pa_nil))) (pa_cons (pe_tup (pa_cons (pv 4) (pa_cons (pv 8) pa_nil))) pa_nil)))))))))))))), ?_⟩
  obtain ⟨R, nv, cv, L, c, m, rfl, k, hL, hc, okc, gL, hm, q⟩ := h
  have hnl := gL.f.nl
  have hel := gL.el
  obtain ⟨nt, nvs, rfl, n1, n2, n3⟩ := hL.isT K k
  obtain ⟨nv, ev, rfl, hnv, hev⟩ := n2.two
  rw [c.d_eq] at hc
  obtain ⟨ct, cvs, rfl, c1, c2, c3⟩ := hc.isT K k
  refine ⟨_, rfl, _, rfl, R, ct, cvs, rfl, k, c1, fun R1 H1 p f1 e1 => ?_⟩
  -- the change's word and value
  obtain ⟨d1, tl, eps⟩ : ∃ d1 tl, c.ps = d1 :: tl := by cases c <;> exact ⟨_, _, rfl⟩
  rw [eps] at c2
  cases c2 with
  | cons cw c2 =>
  cases cw
  cases c2 with
  | @cons cv cvr _ _ cv1 c2 =>
  have ok1 : ValOk d1 := Chg.ok_ps okc d1 (by rw [eps]; exact List.mem_cons_self)
  rw [cutV2] at e1
  refine ⟨p, _, rfl, SqT.of (f1.rh _ _ e1), rfl, _, _, rfl, _, _, rfl, rfl, ?_⟩
  have n31 := SqT.of (K := K) (f1.rh _ _ (f1.rr _ _ n1))
  refine ⟨_, rfl, nt, _, rfl, n31, rfl, _, _, rfl, _, _, rfl, rfl, ?_⟩
  have hnv1 := hnv.up f1.rr
  have hev1 := hev.up f1.rr
  have cv11 := cv1.up f1.rr
  have c21 := c2.up f1.rr
  have n11 := f1.rr _ _ n1
  have c11 := f1.rr _ _ c1
  obtain ⟨na, nvs, rfl, n4, n5, n6⟩ := hnv1.isL K f1.rh
  obtain ⟨ea, evs, rfl, e4, e5, e6⟩ := hev1.isL K f1.rh
  have hen := n5.strs
  subst hen
  have evl : evs.length = L.es.length := by rw [e5.length, List.length_map]
  -- new nodes or edges, and what is due
  have q1 : ∀ (R' H' : Hp) (r : V) (nd : PyData), Fx [] R1 H1 R' H' → At R' r (.tuple [oneD (oneL L c), nd]) → (∀ L', oneL L c = .inr L' → nd = L'.d) → Q r H' := fun R' H' r nd f => q R' H' r nd (f1.trans f)
  have fin : ∀ (a b : List PyData), after L c = .inr (a, b) → ∀ (R' H' : Hp) (r : V), Fx [] R1 H1 R' H' → At R' r (.tuple [dueD (due a b), .tuple [.list a, .list b]]) → Q r H' := fun a b h R' H' r f t => by
    obtain ⟨h1, h2⟩ := one_fin h
    rw [← h1] at t
    exact q1 R' H' r _ f t h2
  have finE : ∀ e, after L c = .inl e → ∀ (R' H' : Hp) (r : V) (nd : PyData), Fx [] R1 H1 R' H' → At R' r (.tuple [faultD e, nd]) → Q r H' := fun e h R' H' r nd f t => by
    have h1 : oneL L c = .inl e := by unfold oneL; rw [h]
    refine q1 R' H' r nd f (by rw [h1]; exact t) (fun L' h2 => ?_)
    rw [h1] at h2
    cases h2
  have oN := okSs_strs gL.f.nm
  have oE := okSs_edgs gL.f.ed
  have rN := okR_strs gL.f.nm
  have rE := okR_edgs gL.f.ed
  have k1 := f1.rh
  clear q f1 n31
  cases c with
  | node d =>
    cases eps
    cases c21
    refine ⟨_, rfl, rfl, _, rfl, ?_⟩
    refine iteB (fun h => absurd h (by show ¬ decide (V.str "node" = V.str "node") = false; decide)) (fun _ => ?_)
    refine ⟨_, rfl, _, rfl, by show 1 ≤ sizeLine; omega, fun a1 h1 => ?_⟩
    obtain ⟨R2, g1, t1, m1⟩ := nw_lst k1 (.cons cv11 .nil) h1
    obtain ⟨_, _, e, x1, x2, _⟩ := t1.isL K g1.rh
    cases e
    have lx : _ = 1 := x2.length
    refine ⟨na, a1, _, _, rfl, rfl, g1.rh _ _ (m1 _ _ n4), g1.rh _ _ x1, by rw [List.length_map]; omega, fun a2 h2 => ?_⟩
    obtain ⟨R3, g2, t2, m2⟩ := nw_lst g1.rh ((n5.up m1).app x2) h2
    have m13 := m1.trans m2
    refine ⟨_, rfl, R3, _, _, _, _, rfl, g2.rh, t2, (hev1.up m13), okSs_app oN (by show (okS d1 && true) = true; rw [okS_val ok1]; rfl), oE, by rw [List.length_append, List.length_map]; show _ + 1 ≤ _; omega, by rw [List.length_map]; omega, fun x hx => ?_, rE, fun R4 H4 v f4 t4 => ?_⟩
    · rcases List.mem_append.mp hx with hx | hx
      · exact rN x hx
      · rw [List.mem_singleton.mp hx]; exact okR_val ok1
    have m14 := m13.trans f4.rr
    refine ⟨_, rfl, _, rfl, by show 1 ≤ sizeLine; omega, fun a3 h3 => ?_⟩
    obtain ⟨R5, g5, t5, m5⟩ := nw_lst f4.rh (.cons (cv11.up m14) .nil) h3
    have m15 := m14.trans m5
    obtain ⟨_, _, e, y1, y2, _⟩ := t5.isL K g5.rh
    cases e
    have ly : _ = 1 := y2.length
    refine ⟨na, a3, _, _, rfl, rfl, g5.rh _ _ (m15 _ _ n4), g5.rh _ _ y1, by rw [List.length_map]; omega, fun a4 h4 => ?_⟩
    obtain ⟨R6, g6, t6, m6⟩ := nw_lst g5.rh ((n5.up m15).app y2) h4
    refine ⟨_, rfl, by show 2 ≤ sizeLine; omega, fun b hb => ?_⟩
    obtain ⟨R7, g7, t7, m7⟩ := nw_tup g6.rh (.cons t6 (.cons (hev1.up (m15.trans m6)) .nil)) hb
    refine ⟨by show 2 ≤ sizeLine; omega, fun o ho => ?_⟩
    obtain ⟨R8, g8, t8, m8⟩ := nw_tup g7.rh (.cons (((t4.up m5).up m6).up m7) (.cons t7 .nil)) ho
    exact fin _ _ rfl R8 _ _ ((g1.trans g2).trans (f4.trans ((g5.trans g6).trans (g7.trans g8)))) t8
  | edge ea' eb ec el =>
    cases eps
    refine ⟨_, rfl, rfl, _, rfl, ?_⟩
    refine iteB (fun _ => ?_) (fun h => absurd h (by show ¬ decide (V.str "edge" = V.str "node") = true; decide))
    refine ⟨_, rfl, rfl, _, rfl, ?_⟩
    refine iteB (fun h => absurd h (by show ¬ decide (V.str "edge" = V.str "edge") = false; decide)) (fun _ => ?_)
    -- two times: edges + [the edge]
    have cA : AtL R1 (cv :: cvr) [d1, eb, ec, el] := .cons cv11 c21
    have oP : okSs [d1, eb, ec, el] = true := Chg.ok_okS okc
    have rP : OkR (.tuple [d1, eb, ec, el]) := okR_chg okc
    refine ⟨_, rfl, _, rfl, _, rfl, _, rfl, R1, ct, _, rfl, k1, c11, fun R2 H2 p2 f2 e2 => ?_⟩
    rw [cutV1] at e2
    have tp2 : At R2 (.ref p2) (.tuple [d1, eb, ec, el]) := .tup e2 (cA.up f2.rr)
    refine ⟨by show 1 ≤ sizeLine; omega, fun a1 h1 => ?_⟩
    obtain ⟨R3, g1, t1, m1⟩ := nw_lst f2.rh (.cons tp2 .nil) h1
    have m13 := f2.rr.trans m1
    obtain ⟨_, _, e, x1, x2, _⟩ := t1.isL K g1.rh
    cases e
    have lx : _ = 1 := x2.length
    refine ⟨ea, a1, _, _, rfl, rfl, g1.rh _ _ (m13 _ _ e4), g1.rh _ _ x1, by omega, fun a2 h2 => ?_⟩
    obtain ⟨R4, g2, t2, m2⟩ := nw_lst g1.rh ((e5.up m13).app x2) h2
    have m14 := m13.trans m2
    refine ⟨R4, _, _, _, _, rfl, g2.rh, hnv1.up m14, t2, oN, okSs_app oE (by show (okSs [d1, eb, ec, el] && true) = true; rw [oP]; rfl), by rw [List.length_map]; omega, by rw [List.length_append, List.length_map]; show _ + 1 ≤ _; omega, rN, fun x hx => ?_, fun R5 H5 v f5 t5 => ?_⟩
    · rcases List.mem_append.mp hx with hx | hx
      · exact rE x hx
      · rw [List.mem_singleton.mp hx]; exact rP
    have m15 := m14.trans f5.rr
    refine ⟨_, rfl, _, rfl, _, rfl, _, rfl, R5, ct, _, rfl, f5.rh, m15 _ _ c11, fun R6 H6 p6 f6 e6 => ?_⟩
    rw [cutV1] at e6
    have m16 := m15.trans f6.rr
    have tp6 : At R6 (.ref p6) (.tuple [d1, eb, ec, el]) := .tup e6 (cA.up m16)
    refine ⟨by show 1 ≤ sizeLine; omega, fun a3 h3 => ?_⟩
    obtain ⟨R7, g5, t7, m7⟩ := nw_lst f6.rh (.cons tp6 .nil) h3
    have m17 := m16.trans m7
    obtain ⟨_, _, e, y1, y2, _⟩ := t7.isL K g5.rh
    cases e
    have ly : _ = 1 := y2.length
    refine ⟨ea, a3, _, _, rfl, rfl, g5.rh _ _ (m17 _ _ e4), g5.rh _ _ y1, by omega, fun a4 h4 => ?_⟩
    obtain ⟨R8, g6, t8, m8⟩ := nw_lst g5.rh ((e5.up m17).app y2) h4
    refine ⟨by show 2 ≤ sizeLine; omega, fun b hb => ?_⟩
    obtain ⟨R9, g7, t9, m9⟩ := nw_tup g6.rh (.cons (hnv1.up (m17.trans m8)) (.cons t8 .nil)) hb
    refine ⟨by show 2 ≤ sizeLine; omega, fun o ho => ?_⟩
    obtain ⟨R10, g8, t10, m10⟩ := nw_tup g7.rh (.cons ((((t5.up f6.rr).up m7).up m8).up m9) (.cons t9 .nil)) ho
    exact fin _ _ rfl R10 _ _ (((f2.trans g1).trans g2).trans (f5.trans ((f6.trans g5).trans ((g6.trans g7).trans g8)))) t10
  | drop d =>
    cases eps
    cases c21
    refine ⟨_, rfl, rfl, _, rfl, ?_⟩
    refine iteB (fun _ => ?_) (fun h => absurd h (by show ¬ decide (V.str "drop" = V.str "node") = true; decide))
    refine ⟨_, rfl, rfl, _, rfl, ?_⟩
    refine iteB (fun _ => ?_) (fun h => absurd h (by show ¬ decide (V.str "drop" = V.str "edge") = true; decide))
    refine ⟨_, rfl, rfl, _, rfl, ?_⟩
    refine iteB (fun h => absurd h (by show ¬ decide (V.str "drop" = V.str "drop") = false; decide)) (fun _ => ?_)
    refine ⟨_, rfl, na, rfl, ⟨_, SqL.of (k1 _ _ n4)⟩, fun D hD => ?_⟩
    refine lc_data (walk_list (xs := L.ns.map V.str)) [] (fun i => (leftN d1 (L.ns.take i)).map PyData.str) (fun _ _ _ => True) k1 hD (by simp) (fun i hi => ?_) rfl trivial (fun _ R H _ f _ => SqL.of (f.rh _ _ (f.rr _ _ n4))) (fun _ _ _ _ _ _ => trivial) (fun i x R' H' H'' vs' Cy Cn hi f r hv ac e y ky kn => ?_) (fun R2 H2 vs' f2 r hv ac _ => ?_)
    · have h1 := List.length_filter_le (fun n : Str => !isS n d1) (L.ns.take i)
      unfold leftN
      simp only [List.length_map, List.length_take, sizeLine_eq] at h1 ⊢
      omega
    · obtain ⟨rfl, hx⟩ := y
      have hi' : i < L.ns.length := by simpa using hi
      rw [List.getElem?_map, List.getElem?_eq_getElem hi'] at hx
      cases hx
      have hst : leftN d1 (L.ns.take (i + 1)) = leftN d1 (L.ns.take i) ++ (if (!isS L.ns[i] d1) = true then [L.ns[i]] else []) := by
        unfold leftN
        rw [take_snoc _ _ hi', List.filter_append, List.filter_cons]
        rfl
      refine ⟨rfl, _, rfl, _, rfl, L.ns[i], R', d1, rfl, f.rh, cv11.up f.rr, _, rfl, ?_⟩
      refine iteB (fun h => ?_) (fun h => ?_)
      · have h : (!isS L.ns[i] d1) = false := h
        refine kn R' H'' (Fx.refl f.rh) ?_ trivial
        rw [hst, h]
        simp
      · have h : (!isS L.ns[i] d1) = true := h
        refine ⟨_, rfl, ky R' H'' _ _ (Fx.refl f.rh) (.str _) ?_ trivial⟩
        rw [hst, h, List.map_append]
        rfl
    rw [List.length_map, List.take_of_length_le (Nat.le_refl _)] at ac
    obtain ⟨R3, f3, eD, m3⟩ := f2.fz hv hD r
    have aD := (ac.up m3).strs
    rw [aD] at eD
    have hD4 := f3.rh _ _ eD
    have m13 := f3.rr
    have hel2 := e5.up m13
    refine ⟨_, rfl, ea, rfl, ⟨_, SqL.of (f3.rh _ _ (m13 _ _ e4))⟩, fun D2 hD2 => ?_⟩
    refine lc_data (walk_list (xs := evs)) [] (fun i => (leftE (leftN d1 L.ns) (L.es.take i)).map Edg.d) (fun _ _ _ => True) f3.rh hD2 (by simp) (fun i hi => ?_) rfl trivial (fun _ R H _ f _ => SqL.of (f.rh _ _ (f.rr _ _ (m13 _ _ e4)))) (fun _ _ _ _ _ _ => trivial) (fun i x R' H' H'' vs' Cy Cn hi f r hv ac e y ky kn => ?_) (fun R4 H4 vs' f4 r hv ac _ => ?_)
    · have h1 := List.length_filter_le (fun e : Edg => decide (e.u ∈ leftN d1 L.ns) && decide (e.v ∈ leftN d1 L.ns)) (L.es.take i)
      unfold leftE
      simp only [List.length_map, List.length_take, sizeLine_eq] at h1 ⊢
      omega
    · obtain ⟨rfl, hx⟩ := y
      have hi' : i < L.es.length := by omega
      obtain ⟨d, w1, w2⟩ := hel2.get hx
      rw [List.getElem?_map, List.getElem?_eq_getElem hi'] at w1
      cases w1
      have d3 := w2.up f.rr
      obtain ⟨t, tvs, v3, rfl, sE, eE, hv3⟩ := d3.ixT K f.rh (j := 1) rfl
      cases hv3
      have hD5 := f.rh _ _ (f.rr _ _ eD)
      have hst : leftE (leftN d1 L.ns) (L.es.take (i + 1)) = leftE (leftN d1 L.ns) (L.es.take i) ++ (if (decide (L.es[i].u ∈ leftN d1 L.ns) && decide (L.es[i].v ∈ leftN d1 L.ns)) = true then [L.es[i]] else []) := by
        unfold leftE
        rw [take_snoc _ _ hi', List.filter_append, List.filter_cons]
        rfl
      refine ⟨rfl, _, rfl, t, _, _, _, rfl, rfl, sE, at_of2 (j := 1) rfl eE, _, rfl, D, leftN d1 L.ns, R', .str L.es[i].u, rfl, .inl (SqL.of hD5), f.rh, .str _, _, rfl, ?_⟩
      refine iteB (fun h => ?_) (fun h => ?_)
      · have h : inS (.str L.es[i].u) (leftN d1 L.ns) = false := h
        rw [inS_dec] at h
        refine kn R' H'' (Fx.refl f.rh) ?_ trivial
        rw [hst, h]
        simp
      · have h : inS (.str L.es[i].u) (leftN d1 L.ns) = true := h
        rw [inS_dec] at h
        obtain ⟨t', tvs', v3', et, sE', eE', hv3'⟩ := d3.ixT K f.rh (j := 2) rfl
        cases et
        cases hv3'
        refine ⟨_, rfl, t, _, _, _, rfl, rfl, sE', at_of2 (j := 2) rfl eE', _, rfl, D, leftN d1 L.ns, R', .str L.es[i].v, rfl, .inl (SqL.of hD5), f.rh, .str _, _, rfl, ?_⟩
        refine iteB (fun h2 => ?_) (fun h2 => ?_)
        · have h2 : inS (.str L.es[i].v) (leftN d1 L.ns) = false := h2
          rw [inS_dec] at h2
          refine kn R' H'' (Fx.refl f.rh) ?_ trivial
          rw [hst, h, h2]
          simp
        · have h2 : inS (.str L.es[i].v) (leftN d1 L.ns) = true := h2
          rw [inS_dec] at h2
          refine ⟨_, rfl, ky R' H'' _ _ (Fx.refl f.rh) d3 ?_ trivial⟩
          rw [hst, h, h2, List.map_append]
          rfl
    rw [evl, List.take_of_length_le (Nat.le_refl _)] at ac
    obtain ⟨R5, f5, eD2, m5⟩ := f4.fz hv hD2 r
    have tN : At R5 (.ref D) (.list ((leftN d1 L.ns).map PyData.str)) := .lst (f5.rr _ _ eD) (atL_strs _ _)
    have tE : At R5 (.ref D2) (.list ((leftE (leftN d1 L.ns) L.es).map Edg.d)) := .lst eD2 (ac.up m5)
    have f15 := f3.trans f5
    have gl := gL.f.left d1
    have hN5 : SqL K H4 na (L.ns.map V.str) := SqL.of (f5.rh _ _ (f15.rr _ _ n4))
    refine ⟨_, rfl, _, rfl, na, L.ns, R5, d1, rfl, .inl hN5, f5.rh, cv11.up f15.rr, _, rfl, ?_⟩
    refine iteB (fun hin => ?_) (fun hin => ?_)
    · have hin : inS d1 L.ns = false := hin
      refine ⟨_, rfl, R5, cv, d1, rfl, f5.rh, cv11.up f15.rr, okR_val ok1, by show 2 ≤ sizeLine; omega, fun t ht => ?_⟩
      obtain ⟨R6, f6, t6, m6⟩ := nw_tup f5.rh (.cons (.str "no node") (.cons (.str d1.shown) .nil)) ht
      refine ⟨_, rfl, _, rfl, by show 2 ≤ sizeLine; omega, fun u hu' => ?_⟩
      obtain ⟨R7, f7, t7, m7⟩ := nw_tup f6.rh (.cons (tN.up m6) (.cons (tE.up m6) .nil)) hu'
      refine ⟨by show 2 ≤ sizeLine; omega, fun o ho => ?_⟩
      obtain ⟨R8, f8, t8, m8⟩ := nw_tup f7.rh (.cons (t6.up m7) (.cons t7 .nil)) ho
      exact finE (.noNode d1) (by show (if inS d1 L.ns = true then _ else _) = _; rw [hin]; rfl) R8 _ _ _ (((f15.trans f6).trans f7).trans f8) t8
    · have hin : inS d1 L.ns = true := hin
      have l1 := gl.nl
      have l2 : (leftE (leftN d1 L.ns) L.es).length ≤ L.es.length := List.length_filter_le _ _
      refine ⟨_, rfl, _, rfl, R5, _, _, _, _, rfl, f5.rh, tN, tE, okSs_strs gl.nm, okSs_edgs gl.ed, by rw [List.length_map]; omega, by rw [List.length_map]; omega, okR_strs gl.nm, okR_edgs gl.ed, fun R6 H6 v f6 t6 => ?_⟩
      refine ⟨_, rfl, _, rfl, by show 2 ≤ sizeLine; omega, fun u hu' => ?_⟩
      obtain ⟨R7, f7, t7, m7⟩ := nw_tup f6.rh (.cons (tN.up f6.rr) (.cons (tE.up f6.rr) .nil)) hu'
      refine ⟨by show 2 ≤ sizeLine; omega, fun o ho => ?_⟩
      obtain ⟨R8, f8, t8, m8⟩ := nw_tup f7.rh (.cons (t6.up m7) (.cons t7 .nil)) ho
      exact fin _ _ (by show (if inS d1 L.ns = true then _ else _) = _; rw [hin]; rfl) R8 _ _ (((f15.trans f6).trans f7).trans f8) t8
  | cut d =>
    cases eps
    cases c21
    refine ⟨_, rfl, rfl, _, rfl, ?_⟩
    refine iteB (fun _ => ?_) (fun h => absurd h (by show ¬ decide (V.str "cut" = V.str "node") = true; decide))
    refine ⟨_, rfl, rfl, _, rfl, ?_⟩
    refine iteB (fun _ => ?_) (fun h => absurd h (by show ¬ decide (V.str "cut" = V.str "edge") = true; decide))
    refine ⟨_, rfl, rfl, _, rfl, ?_⟩
    refine iteB (fun _ => ?_) (fun h => absurd h (by show ¬ decide (V.str "cut" = V.str "drop") = true; decide))
    -- is the edge known?
    refine ⟨_, rfl, _, rfl, ea, rfl, ⟨_, SqL.of (k1 _ _ e4)⟩, fun D hD => ?_⟩
    refine lc_data (walk_list (xs := evs)) [] (fun i => ((L.es.take i).map Edg.n).map PyData.str) (fun _ _ _ => True) k1 hD (by simp) (fun i hi => ?_) rfl trivial (fun i R H _ f _ => SqL.of (f.rh _ _ (f.rr _ _ e4))) (fun _ _ _ _ _ _ => trivial) (fun i x R' H' H'' vs Cy Cn hi f r hv ac e y ky kn => ?_) (fun R2 H2 vs f2 r hv ac _ => ?_)
    · simp only [List.length_map, List.length_take]; omega
    · obtain ⟨rfl, hx⟩ := y
      have hi' : i < L.es.length := by omega
      obtain ⟨d, hd1, hd2⟩ := e5.get hx
      rw [List.getElem?_map, List.getElem?_eq_getElem hi'] at hd1
      cases hd1
      refine ⟨rfl, iteT (B := Cn H'') ?_⟩
      obtain ⟨et, ets, nv, rfl, sE, eE, hv2⟩ := (hd2.up f.rr).ixT K f.rh (j := 0) rfl
      refine ⟨_, rfl, et, _, _, nv, rfl, rfl, sE, at_of2 (j := 0) rfl eE, ky R' H'' _ _ (Fx.refl f.rh) hv2 ?_ trivial⟩
      rw [take_snoc _ _ hi', List.map_append, List.map_append]
      rfl
    rw [evl, List.take_of_length_le (Nat.le_refl _)] at ac
    obtain ⟨R3, f3, eD, m3⟩ := f2.fz hv hD r
    have aD := (ac.up m3).strs
    rw [aD] at eD
    refine ⟨D, L.es.map Edg.n, R3, d1, rfl, .inl (SqL.of (f3.rh _ _ eD)), f3.rh, cv11.up f3.rr, _, rfl, ?_⟩
    refine iteB (fun hin => ?_) (fun hin => ?_)
    rotate_left
    · have hin : inS d1 (L.es.map Edg.n) = false := by simpa using hin
      refine ⟨_, rfl, R3, cv, d1, rfl, f3.rh, cv11.up f3.rr, okR_val ok1, by show 2 ≤ sizeLine; omega, fun t ht => ?_⟩
      obtain ⟨R6, f6, t6, m6⟩ := nw_tup f3.rh (.cons (.str "no edge") (.cons (.str d1.shown) .nil)) ht
      refine ⟨_, rfl, by show 2 ≤ sizeLine; omega, fun o ho => ?_⟩
      obtain ⟨R8, f8, t8, m8⟩ := nw_tup f6.rh (.cons t6 (.cons (.tup (m6 _ _ (f3.rr _ _ n11)) (.cons ((hnv1.up f3.rr).up m6) (.cons ((hev1.up f3.rr).up m6) .nil))) .nil)) ho
      exact finE (.noEdge d1) (by show (if inS d1 (L.es.map Edg.n) = true then _ else _) = _; rw [hin]; rfl) R8 _ _ _ ((f3.trans f6).trans f8) t8
    have hin : inS d1 (L.es.map Edg.n) = true := by simpa using hin
    refine ⟨_, rfl, rfl, _, rfl, ?_⟩
    refine iteB (fun h => absurd h (by show ¬ decide (V.str "cut" = V.str "cut") = false; decide)) (fun _ => ?_)
    have m13 := f3.rr
    have hel2 := e5.up m13
    refine ⟨_, rfl, ea, rfl, ⟨_, SqL.of (f3.rh _ _ (m13 _ _ e4))⟩, fun D2 hD2 => ?_⟩
    refine lc_data (walk_list (xs := evs)) [] (fun i => (cutE d1 (L.es.take i)).map Edg.d) (fun _ _ _ => True) f3.rh hD2 (by simp) (fun i hi => ?_) rfl trivial (fun _ R H _ f _ => SqL.of (f.rh _ _ (f.rr _ _ (m13 _ _ e4)))) (fun _ _ _ _ _ _ => trivial) (fun i x R' H' H'' vs' Cy Cn hi f r hv ac e y ky kn => ?_) (fun R4 H4 vs' f4 r hv ac _ => ?_)
    · have h1 := List.length_filter_le (fun e : Edg => !isS e.n d1) (L.es.take i)
      unfold cutE
      simp only [List.length_map, List.length_take, sizeLine_eq] at h1 ⊢
      omega
    · obtain ⟨rfl, hx⟩ := y
      have hi' : i < L.es.length := by omega
      obtain ⟨d, w1, w2⟩ := hel2.get hx
      rw [List.getElem?_map, List.getElem?_eq_getElem hi'] at w1
      cases w1
      have d3 := w2.up f.rr
      obtain ⟨t, tvs, v3, rfl, sE, eE, hv3⟩ := d3.ixT K f.rh (j := 0) rfl
      cases hv3
      have hst : cutE d1 (L.es.take (i + 1)) = cutE d1 (L.es.take i) ++ (if (!isS L.es[i].n d1) = true then [L.es[i]] else []) := by
        unfold cutE
        rw [take_snoc _ _ hi', List.filter_append, List.filter_cons]
        rfl
      refine ⟨rfl, _, rfl, t, _, _, _, rfl, rfl, sE, at_of2 (j := 0) rfl eE, _, rfl, L.es[i].n, R', d1, rfl, f.rh, (cv11.up m13).up f.rr, _, rfl, ?_⟩
      refine iteB (fun h => ?_) (fun h => ?_)
      · have h : (!isS L.es[i].n d1) = false := h
        refine kn R' H'' (Fx.refl f.rh) ?_ trivial
        rw [hst, h]
        simp
      · have h : (!isS L.es[i].n d1) = true := h
        refine ⟨_, rfl, ky R' H'' _ _ (Fx.refl f.rh) d3 ?_ trivial⟩
        rw [hst, h, List.map_append]
        rfl
    rw [evl, List.take_of_length_le (Nat.le_refl _)] at ac
    obtain ⟨R5, f5, eD2, m5⟩ := f4.fz hv hD2 r
    have tE : At R5 (.ref D2) (.list ((cutE d1 L.es).map Edg.d)) := .lst eD2 (ac.up m5)
    have f15 := f3.trans f5
    have gl := gL.f.cut d1
    have l2 : (cutE d1 L.es).length ≤ L.es.length := List.length_filter_le _ _
    refine ⟨_, rfl, _, rfl, R5, _, _, _, _, rfl, f5.rh, hnv1.up f15.rr, tE, oN, okSs_edgs gl.ed, by rw [List.length_map]; omega, by rw [List.length_map]; omega, rN, okR_edgs gl.ed, fun R6 H6 v f6 t6 => ?_⟩
    refine ⟨_, rfl, _, rfl, by show 2 ≤ sizeLine; omega, fun u hu' => ?_⟩
    obtain ⟨R7, f7, t7, m7⟩ := nw_tup f6.rh (.cons ((hnv1.up f15.rr).up f6.rr) (.cons (tE.up f6.rr) .nil)) hu'
    refine ⟨by show 2 ≤ sizeLine; omega, fun o ho => ?_⟩
    obtain ⟨R8, f8, t8, m8⟩ := nw_tup f7.rh (.cons (t6.up m7) (.cons t7 .nil)) ho
    exact fin _ _ (by show (if inS d1 (L.es.map Edg.n) = true then _ else _) = _; rw [hin]; rfl) R8 _ _ (((f15.trans f6).trans f7).trans f8) t8
  | len d l =>
    cases eps
    refine ⟨_, rfl, rfl, _, rfl, ?_⟩
    refine iteB (fun _ => ?_) (fun h => absurd h (by show ¬ decide (V.str "length" = V.str "node") = true; decide))
    refine ⟨_, rfl, rfl, _, rfl, ?_⟩
    refine iteB (fun _ => ?_) (fun h => absurd h (by show ¬ decide (V.str "length" = V.str "edge") = true; decide))
    refine ⟨_, rfl, rfl, _, rfl, ?_⟩
    refine iteB (fun _ => ?_) (fun h => absurd h (by show ¬ decide (V.str "length" = V.str "drop") = true; decide))
    -- is the edge known?
    refine ⟨_, rfl, _, rfl, ea, rfl, ⟨_, SqL.of (k1 _ _ e4)⟩, fun D hD => ?_⟩
    refine lc_data (walk_list (xs := evs)) [] (fun i => ((L.es.take i).map Edg.n).map PyData.str) (fun _ _ _ => True) k1 hD (by simp) (fun i hi => ?_) rfl trivial (fun i R H _ f _ => SqL.of (f.rh _ _ (f.rr _ _ e4))) (fun _ _ _ _ _ _ => trivial) (fun i x R' H' H'' vs Cy Cn hi f r hv ac e y ky kn => ?_) (fun R2 H2 vs f2 r hv ac _ => ?_)
    · simp only [List.length_map, List.length_take]; omega
    · obtain ⟨rfl, hx⟩ := y
      have hi' : i < L.es.length := by omega
      obtain ⟨d, hd1, hd2⟩ := e5.get hx
      rw [List.getElem?_map, List.getElem?_eq_getElem hi'] at hd1
      cases hd1
      refine ⟨rfl, iteT (B := Cn H'') ?_⟩
      obtain ⟨et, ets, nv, rfl, sE, eE, hv2⟩ := (hd2.up f.rr).ixT K f.rh (j := 0) rfl
      refine ⟨_, rfl, et, _, _, nv, rfl, rfl, sE, at_of2 (j := 0) rfl eE, ky R' H'' _ _ (Fx.refl f.rh) hv2 ?_ trivial⟩
      rw [take_snoc _ _ hi', List.map_append, List.map_append]
      rfl
    rw [evl, List.take_of_length_le (Nat.le_refl _)] at ac
    obtain ⟨R3, f3, eD, m3⟩ := f2.fz hv hD r
    have aD := (ac.up m3).strs
    rw [aD] at eD
    refine ⟨D, L.es.map Edg.n, R3, d1, rfl, .inl (SqL.of (f3.rh _ _ eD)), f3.rh, cv11.up f3.rr, _, rfl, ?_⟩
    refine iteB (fun hin => ?_) (fun hin => ?_)
    rotate_left
    · have hin : inS d1 (L.es.map Edg.n) = false := by simpa using hin
      refine ⟨_, rfl, R3, cv, d1, rfl, f3.rh, cv11.up f3.rr, okR_val ok1, by show 2 ≤ sizeLine; omega, fun t ht => ?_⟩
      obtain ⟨R6, f6, t6, m6⟩ := nw_tup f3.rh (.cons (.str "no edge") (.cons (.str d1.shown) .nil)) ht
      refine ⟨_, rfl, by show 2 ≤ sizeLine; omega, fun o ho => ?_⟩
      obtain ⟨R8, f8, t8, m8⟩ := nw_tup f6.rh (.cons t6 (.cons (.tup (m6 _ _ (f3.rr _ _ n11)) (.cons ((hnv1.up f3.rr).up m6) (.cons ((hev1.up f3.rr).up m6) .nil))) .nil)) ho
      exact finE (.noEdge d1) (by show (if inS d1 (L.es.map Edg.n) = true then _ else _) = _; rw [hin]; rfl) R8 _ _ _ ((f3.trans f6).trans f8) t8
    have hin : inS d1 (L.es.map Edg.n) = true := by simpa using hin
    refine ⟨_, rfl, rfl, _, rfl, ?_⟩
    refine iteB (fun _ => ?_) (fun h => absurd h (by show ¬ decide (V.str "length" = V.str "cut") = true; decide))
    have m13 := f3.rr
    have hel2 := e5.up m13
    have okl : ValOk l := okc.2
    cases c21 with
    | @cons lv _ _ _ lv1 nl1 =>
    cases nl1
    have lv3 := lv1.up m13
    have sC : SqT K H2 ct [.str "length", cv, lv] := SqT.of (f3.rh _ _ (m13 _ _ c11))
    refine ⟨_, rfl, ct, _, _, _, rfl, rfl, sC, atI_nat (j := 2) rfl, _, rfl, R3, lv, l, _, _, rfl, f3.rh, lv3, okS_val okl, fun R4 H4 f4 => ⟨_, rfl, ?_⟩⟩
    have f34 := f3.trans f4
    have sC4 : SqT K H4 ct [.str "length", cv, lv] := SqT.of (f34.rh _ _ (f34.rr _ _ c11))
    refine iteB (fun hlen => ?_) (fun hlen => ?_)
    rotate_left
    · have hlen : isLen l = false := by
        have h : (!isBtw l (-1000000) 1000000) = true := hlen
        simpa [isLen] using h
      refine ⟨_, rfl, ct, _, _, _, rfl, rfl, sC4, atI_nat (j := 2) rfl, R4, lv, l, rfl, f4.rh, lv3.up f4.rr, okR_val okl, by show 2 ≤ sizeLine; omega, fun t ht => ?_⟩
      obtain ⟨R6, f6, t6, m6⟩ := nw_tup f4.rh (.cons (.str "length") (.cons (.str l.shown) .nil)) ht
      refine ⟨_, rfl, by show 2 ≤ sizeLine; omega, fun o ho => ?_⟩
      obtain ⟨R8, f8, t8, m8⟩ := nw_tup f6.rh (.cons t6 (.cons (.tup (m6 _ _ (f34.rr _ _ n11)) (.cons ((hnv1.up f34.rr).up m6) (.cons ((hev1.up f34.rr).up m6) .nil))) .nil)) ho
      exact finE (.length l) (by show (if inS d1 (L.es.map Edg.n) = true then (if isLen l = true then _ else _) else _) = _; rw [hin, hlen]; rfl) R8 _ _ _ ((f34.trans f6).trans f8) t8
    have hlen : isLen l = true := by
      have h : (!isBtw l (-1000000) 1000000) = false := hlen
      simpa [isLen] using h
    obtain ⟨i0, rfl⟩ := isLen_int hlen
    obtain ⟨z, rfl⟩ := inS_str hin
    cases lv3
    cases cv11
    have m14 := f34.rr
    have hel4 := e5.up m14
    refine ⟨_, rfl, ea, rfl, ⟨_, SqL.of (f34.rh _ _ (m14 _ _ e4))⟩, fun D2 hD2 => ?_⟩
    refine lc_data (walk_list (xs := evs)) [] (fun j => ((L.es.take j).map (Edg.len z i0)).map Edg.d) (fun _ _ _ => True) f34.rh hD2 (by simp) (fun j hj => ?_) rfl trivial (fun _ R H _ f _ => SqL.of (f.rh _ _ (f.rr _ _ (m14 _ _ e4)))) (fun _ _ _ _ _ _ => trivial) (fun j x R' H' H'' vs' Cy Cn hj f r hv ac e y ky kn => ?_) (fun R5 H5 vs' f5 r hv ac _ => ?_)
    · simp only [List.length_map, List.length_take]
      omega
    · obtain ⟨rfl, hx⟩ := y
      have hj' : j < L.es.length := by omega
      obtain ⟨d0, w1, w2⟩ := hel4.get hx
      rw [List.getElem?_map, List.getElem?_eq_getElem hj'] at w1
      cases w1
      have d3 := w2.up f.rr
      obtain ⟨t, tvs, rfl, t1, t2, t3⟩ := d3.isT K f.rh
      obtain ⟨va, vb, vc, vl, rfl, g1, g2, g3, g4⟩ := t2.four
      cases g1
      cases g2
      cases g3
      cases g4
      refine ⟨rfl, iteT (B := Cn H'') ?_⟩
      refine ⟨_, rfl, t, _, _, _, rfl, rfl, t3, at_of2 (j := 0) rfl rfl, _, rfl, L.es[j].n, R', .str z, rfl, f.rh, .str z, _, rfl, ?_⟩
      have hst : ((L.es.take (j + 1)).map (Edg.len z i0)).map Edg.d = ((L.es.take j).map (Edg.len z i0)).map Edg.d ++ [(L.es[j].len z i0).d] := by
        rw [take_snoc _ _ hj', List.map_append, List.map_append]
        rfl
      refine iteB (fun h => ?_) (fun h => ?_)
      · have h : isS L.es[j].n (.str z) = false := h
        rw [isS_eq] at h
        have hne := of_decide_eq_false h
        refine ⟨_, rfl, ky R' H'' _ _ (Fx.refl f.rh) d3 ?_ trivial⟩
        rw [hst]
        unfold Edg.len
        rw [if_neg hne]
      · have h : isS L.es[j].n (.str z) = true := h
        rw [isS_eq] at h
        have heq := of_decide_eq_true h
        refine ⟨_, rfl, _, rfl, R', t, _, rfl, f.rh, t1, fun R8 H8 b8 f8 e8 => ?_⟩
        have t8 := f8.rh _ _ (f8.rr _ _ t1)
        have sC8 : SqT K H8 ct [.str "length", .str z, .int i0] := SqT.of (f8.rh _ _ (f8.rr _ _ (f.rr _ _ (m14 _ _ c11))))
        refine ⟨_, rfl, ct, _, _, _, rfl, rfl, sC8, atI_nat (j := 2) rfl, by show 1 ≤ sizeLine; omega, fun b9 hb9 => ?_⟩
        obtain ⟨R9, f9, t9, m9⟩ := nw_tup (xs := [.int i0]) f8.rh (.cons (.int _) .nil) hb9
        refine ⟨R9, [.str L.es[j].n, .str L.es[j].u, .str L.es[j].v], _, f9.rh, .tup (m9 _ _ e8) (.cons (.str _) (.cons (.str _) (.cons (.str _) .nil))), t9, by show 3 + 1 ≤ 16777216; decide, fun R10 H10 t10 f10 a10 => ?_⟩
        refine ky R10 H10 t10 _ ((f8.trans f9).trans f10) a10 ?_ trivial
        rw [hst, len_d, if_pos heq]
        rfl
    rw [evl, List.take_of_length_le (Nat.le_refl _)] at ac
    obtain ⟨R6, f6, eD2, m6⟩ := f5.fz hv hD2 r
    have tE : At R6 (.ref D2) (.list ((L.es.map (Edg.len z i0)).map Edg.d)) := .lst eD2 (ac.up m6)
    have f16 := f34.trans f6
    have gl := gL.f.len (z := z) hlen
    refine ⟨_, rfl, _, rfl, R6, _, _, _, _, rfl, f6.rh, hnv1.up f16.rr, tE, oN, okSs_edgs gl.ed, by rw [List.length_map]; omega, by rw [List.length_map, List.length_map]; omega, rN, okR_edgs gl.ed, fun R7 H7 v f7 t7 => ?_⟩
    refine ⟨_, rfl, _, rfl, by show 2 ≤ sizeLine; omega, fun u hu' => ?_⟩
    obtain ⟨R8, f8, t8, m8⟩ := nw_tup f7.rh (.cons ((hnv1.up f16.rr).up f7.rr) (.cons (tE.up f7.rr) .nil)) hu'
    refine ⟨by show 2 ≤ sizeLine; omega, fun o ho => ?_⟩
    obtain ⟨R9, f9, t9, m9⟩ := nw_tup f8.rh (.cons (t7.up m8) (.cons t8 .nil)) ho
    exact fin _ _ (by show (if inS (.str z) (L.es.map Edg.n) = true then (if isLen (.int i0) = true then _ else _) else _) = _; rw [hin, hlen]; rfl) R9 _ _ (((f16.trans f7).trans f8).trans f9) t9
end
end Ld
/-! Gp: changed. -/
namespace Ld
open PySem L2 PyProof.Rows
theorem norm_ex (L : Net) : ∃ N, NormOf N L.ns L.es := by
  have tr : ∀ {α : Type} (k : α → Str) (a b c : α), (!ltS (k b) (k a)) = true → (!ltS (k c) (k b)) = true → (!ltS (k c) (k a)) = true := fun k a b c h1 h2 => by
    have h1 : ltS (k b) (k a) = false := by simpa using h1
    have h2 : ltS (k c) (k b) = false := by simpa using h2
    rw [(swoS k).tr a b c h1 h2]
    rfl
  have tot : ∀ {α : Type} (k : α → Str) (a b : α), (!ltS (k b) (k a) || !ltS (k a) (k b)) = true := fun k a b => by
    cases h : ltS (k b) (k a) with
    | false => rfl
    | true => rw [(swoS k).asym b a h]; rfl
  have p1 := List.pairwise_mergeSort (le := fun a b : Str => !ltS b a) (tr fun s => s) (tot fun s => s) L.ns
  have p2 := List.pairwise_mergeSort (le := fun a b : Edg => !ltS b.n a.n) (tr Edg.n) (tot Edg.n) (L.es.map Edg.norm)
  refine ⟨⟨L.ns.mergeSort (fun a b : Str => !ltS b a), (L.es.map Edg.norm).mergeSort (fun a b : Edg => !ltS b.n a.n)⟩, List.mergeSort_perm _ _, ?_, List.mergeSort_perm _ _, ?_⟩
  · refine sortedS_of_pairwise _ (p1.imp fun {a b} h => ?_)
    rw [ltCps_eq]
    have h : (!ltS b a) = true := h
    have h : ltS b a = false := by cases q : ltS b a with
      | false => rfl
      | true => rw [q] at h; cases h
    exact h
  · refine sortedS_of_pairwise _ (List.pairwise_map.mpr (p2.imp fun {a b} h => ?_))
    rw [ltCps_eq]
    have h : (!ltS b.n a.n) = true := h
    have h : ltS b.n a.n = false := by cases q : ltS b.n a.n with
      | false => rfl
      | true => rw [q] at h; cases h
    exact h
theorem oneL_gl' {L : Net} {m : Nat} {c : Chg} {L' : Net} (g : GL L m) (e : oneL L c = .inr L') : GL L' (m + 1) := by
  obtain ⟨N, h⟩ := norm_ex L
  exact oneL_gl g h e
theorem foldL_gl : ∀ {cs : List Chg} {L L' : Net} {m : Nat}, GL L m → foldL L cs = .inr L' → GL L' (m + cs.length)
  | [], L, L', m, g, h => by cases h; exact g
  | c :: r, L, L', m, g, h => by
    have h : (match oneL L c with
      | .inl e => (.inl e : Err ⊕ Net)
      | .inr L2 => foldL L2 r) = .inr L' := h
    cases h1 : oneL L c with
    | inl e => rw [h1] at h; cases h
    | inr L2 =>
      rw [h1] at h
      have := foldL_gl (oneL_gl' g h1) h
      refine ⟨this.f, this.ne, this.ft, ?_⟩
      have := this.el
      rw [List.length_cons]
      omega
def spChd : Sp := fun vs H Q _ => ∃ (R : Hp) (nv lv : V) (L : Net) (cs : List Chg) (m : Nat), vs = [nv, lv] ∧ Same R H ∧ At R nv L.d ∧ At R lv (.list (cs.map Chg.d)) ∧ (∀ c ∈ cs, c.ok) ∧ GL L m ∧ m + cs.length ≤ 59 ∧
  ∀ (R' H' : Hp) (r : V) (nd : PyData), Fx [] R H R' H' → At R' r (.tuple [oneD (foldL L cs), nd]) → (∀ L', foldL L cs = .inr L' → nd = L'.d) → Q r H'
section
variable {P : Program} {w : World} {K : PySem.W.Frag} {mg : Str → Option Value} {base : Heap}
theorem ok_lchanged (PF : PP P) (Z : Tz w K mg) : FnG P w K mg base CX0 6 (a_lchanged K) (f_lchanged K) P_lchanged spChd := by
  have T := Z.t
  refine FunD.okG T.d_lchanged sc_lchanged (fun vs H Q E h => by obtain ⟨_, _, _, _, _, _, rfl, _⟩ := h; rfl) (fun cdv A outer s H vs Q E hr hG h => ?_)
  have hu := hu_of hr
  have hu2 := hr.units
  have hu3 : (A.deeper (envOfC "_law_changed" (defScope st_lchanged) s.heap.objs.size (a_lchanged K) cdv)).units + 65 < cLine := by have := hr.un; omega
  have nd := sc_lchanged.nd
  have hsz := sizeLine_eq
  refine ⟨_, PSs.nox (pss_cons (ps_for PassesOwn.never rfl (pi_range1 (by rfl) T.f_range (pa_cons (pe_callB call_len_seq (by rfl) T.f_len boot_len (pa_cons (pv 1) pa_nil)) pa_nil)) (pg_name (i := 2) nd rfl (Or.inl rfl))
      (pss_one (ps_if (pt_not (pt_val (pe_call (ok_lis_change T) (hr.mono (by decide)) (by rfl) T.g_lis_change T.k_lis_change T.b_lis_change .nil pass0 (pa_cons (pe_ix ix_list (pv 1) (pv 2) (fun _ _ => rfl)) pa_nil))))
        (pss_one (ps_ret (pe_tup (pa_cons (pe_tup (pa_cons pe_str (pa_cons (pe_callB (call_reprD Z hG hu3) (by rfl) T.f_repr boot_repr (pa_cons (pv 2) pa_nil)) pa_nil))) (pa_cons (pv 0) pa_nil)))))
        pss_nil)))
    (pss_cons (ps_set (i := 3) nd rfl (Or.inl rfl) (pv 0))
    (pss_cons (ps_for PassesOwn.never rfl (pi_list (pv 1)) (pg_name (i := 4) nd rfl (Or.inl rfl))
      (pss_cons (ps_asg (pe_callG hG (ok_lone_changed PF Z) (hr.mono (by decide)) (by rfl) T.g_lone_changed T.k_lone_changed T.b_lone_changed .nil pass0 (pa_cons (pv 3) (pa_cons (pv 4) pa_nil))) (pg_tup rfl (pgs_cons (pg_name (i := 5) nd rfl (Or.inl rfl)) (pgs_cons (pg_name (i := 3) nd rfl (Or.inl rfl)) pgs_nil))))
      (pss_one (ps_if (pt_cmpR op_notN (pv 5) pe_non (nomark _))
        (pss_one (ps_ret (pe_tup (pa_cons (pv 5) (pa_cons (pv 0) pa_nil)))))
        pss_nil))))
    (pss_one (ps_ret (pe_tup (pa_cons pe_non (pa_cons (pv 3) pa_nil)))))))), ?_⟩
  obtain ⟨R, nv, lv, L, cs, m, rfl, k, hL, hc, okc, gL, hm, q⟩ := h
  obtain ⟨la, lvs, rfl, l1, l2, l3⟩ := hc.isL K k
  have hl := l2.length
  rw [List.length_map] at hl
  refine ⟨_, rfl, la, lvs, rfl, .inl l3, _, rfl, by omega, by omega, for_range (n := lvs.length) (fun i σ H' => ∃ x : Option V, σ = [some nv, some (.ref la), x, none, none, none] ∧ Fx [] R H R H') ⟨none, rfl, Fx.refl k⟩ ?_ ?_⟩
  · rintro i σ H' hi ⟨x, rfl, f⟩
    have ei : (0 : Int) + (i : Int) = i := by omega
    rw [ei]
    obtain ⟨d, d1, d2⟩ := l2.get (List.getElem?_eq_getElem hi)
    rw [List.getElem?_map] at d1
    obtain ⟨c, hc1, rfl⟩ := Option.map_eq_some_iff.mp d1
    refine ⟨_, rfl, _, rfl, la, lvs, _, lvs[i], rfl, rfl, SqL.of (f.rh _ _ l1), at_of2 (j := i) rfl (List.getElem?_eq_getElem hi), ?_⟩
    refine ⟨R, lvs[i], c, rfl, f.rh, d2, fun H2 f2 => ⟨_, rfl, ?_⟩⟩
    refine iteB (fun _ => ?_) (fun h => absurd h (by decide))
    exact ⟨_, rfl, f.trans f2⟩
  · rintro σ H1 ⟨x, rfl, f1⟩
    refine ⟨_, rfl, _, rfl, la, rfl, ⟨_, SqL.of (f1.rh _ _ l1)⟩, for_list (K := K) (a := la) (xs := lvs) (fun i σ H' => ∃ (R' : Hp) (x2 x4 x5 : Option V) (v : V) (L' : Net), σ = [some nv, some (.ref la), x2, some v, x4, x5] ∧ Fx [] R H R' H' ∧ At R' v L'.d ∧ GL L' (m + i) ∧ foldL L cs = foldL L' (cs.drop i)) ⟨R, _, _, _, nv, L, rfl, f1, hL, gL, rfl⟩ (fun i σ H' _ ⟨_, _, _, _, _, _, _, f, _⟩ => SqL.of (f.rh _ _ (f.rr _ _ l1))) ?_ ?_⟩
    · rintro i x σ H' hx ⟨R', x2, x4, x5, v, L', rfl, f, hv, g', hf⟩
      obtain ⟨d, d1, d2⟩ := l2.get hx
      rw [List.getElem?_map] at d1
      obtain ⟨c, hc1, rfl⟩ := Option.map_eq_some_iff.mp d1
      have hi := (List.getElem?_eq_some_iff.mp hc1).1
      rw [take_drop1 hc1] at hf
      have hf : foldL L cs = match oneL L' c with
        | .inl e => .inl e
        | .inr L2 => foldL L2 (cs.drop (i + 1)) := hf
      refine ⟨_, rfl, _, rfl, R', v, x, L', c, m + i, rfl, f.rh, hv, d2.up f.rr, okc c (List.mem_of_getElem? hc1), g', by omega, fun R2 H2 r nd f2 t2 hnd => ?_⟩
      have f2 := f.trans f2
      obtain ⟨ra, rvs, rfl, r1, r2, r3⟩ := t2.isT K f2.rh
      obtain ⟨dv, nv2, rfl, hdv, hnv2⟩ := r2.two
      refine ⟨ra, _, rfl, r3, rfl, _, _, rfl, _, _, rfl, rfl, ?_⟩
      cases h1 : oneL L' c with
      | inl e =>
        rw [h1] at hf hdv
        have hdv' := hdv
        obtain ⟨da, dvs, rfl, _⟩ := At.isT (ds := [.str (faultW e), .str (faultT e)]) hdv K f2.rh
        refine ⟨_, rfl, rfl, _, rfl, ?_⟩
        refine iteB (fun h => absurd h (by simp)) (fun _ => ?_)
        refine ⟨_, rfl, _, rfl, by show 2 ≤ sizeLine; omega, fun t ht => ?_⟩
        obtain ⟨R3, f3, t3, m3⟩ := nw_tup f2.rh (.cons hdv' (.cons (hL.up f2.rr) .nil)) ht
        refine q R3 _ _ L.d (f2.trans f3) ?_ (fun L2 h2 => ?_)
        · rw [hf]
          exact t3
        · rw [hf] at h2
          cases h2
      | inr L2 =>
        rw [h1] at hf hdv
        cases hdv
        refine ⟨_, rfl, rfl, _, rfl, ?_⟩
        refine iteB (fun _ => ?_) (fun h => absurd h (by decide))
        rw [hnd L2 h1] at hnv2
        exact ⟨R2, _, _, _, nv2, L2, rfl, f2, hnv2, oneL_gl' g' h1, hf⟩
    · rintro σ H3 ⟨R', x2, x4, x5, v, L', rfl, f, hv, g', hf⟩
      rw [hl, List.drop_of_length_le (Nat.le_refl _)] at hf
      have hf : foldL L cs = .inr L' := hf
      refine ⟨_, rfl, by show 2 ≤ sizeLine; omega, fun t ht => ?_⟩
      obtain ⟨R4, f4, t4, m4⟩ := nw_tup f.rh (.cons .non (.cons hv .nil)) ht
      refine q R4 _ _ L'.d (f.trans f4) ?_ (fun L2 h2 => ?_)
      · rw [hf]
        exact t4
      · rw [hf] at h2
        cases h2
        rfl
end
end Ld
/-! Gq: a method called with a keyword; make. -/
namespace Ld
open PySem PySem.Spec L2 PyProof.Rows
section
variable {X : Cx} {CX : CXT} {k n : Nat} {C f : Addr} {fd : FuncData} {ps ks : List Str} {sp : Sp} {E : XK} {m : Str} {o : Expr} {apos pos : Pos} {kws : List Keyword} {ta : TE} {tk : TA} {g : List Value → List Value → List Value} {gV : List V → List V → List V}
def tMethK (C : Addr) (m : Str) (j : Nat) (sp : Sp) (gV : List V → List V → List V) (E : XK) (ta : TE) (tk : TA) : TE := fun σ H Q => ta σ H fun x H1 => ∃ a dx fs, x = .ref a ∧ H1 a = some (.ins C dx fs) ∧ fs.lookup m = none ∧
  tk σ H1 fun zs H2 => zs.length = j ∧ sp (gV [x] zs) H2 Q E
/-- o.m() by a positional promise -/
theorem pe_methR0 {pl : Sem Bool} (he : PE X o ta) (c : Cls X.K C) (hm : Meth X.K C m f) (F : FnR X.prog X.w X.K X.mg X.base CX k f sp) (hr : Room k X.A) (hx : Passes CX X E)
    (ht : eval (.Call (.Attribute o m apos) [] [] pos) X.env = (do
      let ov ← eval o X.env
      standAt apos.atName
      let (f, first) ← holding [ov] (getMethod ov m pl)
      callWith pos f first (backTo pos (starEach [] X.env)) (backToKw pos (keywordEach [] X.env))) := by rfl) :
    PE X (.Call (.Attribute o m apos) [] [] pos) (tMethR C m sp E ta tNil) := by
  refine ⟨fun pins s σ H Q I h => ?_⟩
  refine PySem.W.methodCall_KW (pl := pl) (thn (he.run pins s σ H _ I h) fun u s1 ⟨x, H1, I1, rx, a, dx, fs, ex, ea, l, q⟩ => ?_) ht
  subst ex
  obtain rfl : u = Value.ref a := rx
  refine getmeth_ok I1 ea c hm l ?_
  exact PySem.W.callWith_K0 (first := [.ref a]) I1.kIn hm.kp (wpAny_call (run_fnR (us := [.ref a]) (vs := [.ref a]) F hr hx I1 (.cons rfl .nil) q))
theorem pe_methK0 {pl : Sem Bool} (he : PE X o ta) (c : Cls X.K C) (hm : Meth X.K C m f) (F : FnOk X.prog X.w X.K X.mg X.base CX k f fd ps sp) (hr : Room k X.A) (hb : KBn X.K fd ps 1 ks g gV) (hx : Passes CX X E) (hkw : PK X kws tk)
    (hall : (backToKw pos (keywordEach kws X.env)).all (·.1.isSome) = true := by rfl) (hks : (backToKw pos (keywordEach kws X.env)).filterMap (·.1) = ks := by rfl)
    (hpl : ((backTo pos (starEach [] X.env)).any (·.1) || (backToKw pos (keywordEach kws X.env)).any (·.1.isNone)) = false := by rfl)
    (ht : eval (.Call (.Attribute o m apos) [] kws pos) X.env = (do
      let ov ← eval o X.env
      standAt apos.atName
      let (f, first) ← holding [ov] (getMethod ov m pl)
      callWith pos f first (backTo pos (starEach [] X.env)) (backToKw pos (keywordEach kws X.env))) := by rfl) :
    PE X (.Call (.Attribute o m apos) [] kws pos) (tMethK C m ks.length sp gV E ta tk) := by
  refine ⟨fun pins s σ H Q I h => ?_⟩
  refine PySem.W.methodCall_KW (pl := pl) (thn (he.run pins s σ H _ I h) fun u s1 ⟨x, H1, I1, rx, a, dx, fs, ex, ea, l, q⟩ => ?_) ht
  subst ex
  obtain rfl : u = Value.ref a := rx
  refine getmeth_ok I1 ea c hm l ?_
  refine PySem.W.callWith_KW0 (first := [.ref a]) (h₀ := X.base) I.ok.mod.kin hm.kp hall ?_ hpl
  refine thn (hkw.run pos pins s1 σ H1 _ I1 q) fun ws s2 ⟨zs, H2, I2, rz, l2, q2⟩ => ⟨I2.kIn, ?_⟩
  rw [hks]
  exact run_fnN (us := [.ref a]) (vs := [.ref a]) F hr hb hx I2 (.cons rfl .nil) rz rfl l2 q2
end
section
variable {P : Program} {w : World} {K : PySem.W.Frag} {mg : Str → Option Value} {base : Heap}
theorem u0 (T : Tx w K mg) : ∃ ds, Vals [V.int 1] ds ∧ Binds K (f_B_undo K) P_B_undo ds :=
  FunD.binds1 (ps := P_B_undo) T.d_B_undo 1 0 (by intro h; cases h) rfl (fun _ _ _ _ _ _ _ us its hl hi => match us, hl, its, hi with | [_], _, [_], _ => ⟨_, rfl, rfl⟩)
theorem r0 (T : Tx w K mg) : ∃ ds, Vals [V.int 1] ds ∧ Binds K (f_B_redo K) P_B_redo ds :=
  FunD.binds1 (ps := P_B_redo) T.d_B_redo 1 0 (by intro h; cases h) rfl (fun _ _ _ _ _ _ _ us its hl hi => match us, hl, its, hi with | [_], _, [_], _ => ⟨_, rfl, rfl⟩)
theorem u1 (T : Tx w K mg) : Binds K (f_B_undo K) P_B_undo [] := by
  obtain ⟨ds, r, b⟩ := FunD.binds1 (ps := P_B_undo) T.d_B_undo 2 1 (by intro h; cases h) rfl (fun _ _ _ _ _ _ _ us its hl hi => match us, hl, its, hi with | [_, _], _, [_], _ => ⟨_, rfl, rfl⟩)
  cases r
  exact b
theorem r1 (T : Tx w K mg) : Binds K (f_B_redo K) P_B_redo [] := by
  obtain ⟨ds, r, b⟩ := FunD.binds1 (ps := P_B_redo) T.d_B_redo 2 1 (by intro h; cases h) rfl (fun _ _ _ _ _ _ _ us its hl hi => match us, hl, its, hi with | [_, _], _, [_], _ => ⟨_, rfl, rfl⟩)
  cases r
  exact b
theorem uK (T : Tx w K mg) : KBn K (f_B_undo K) P_B_undo 1 ["count"] (fun us ws => us ++ ws) (fun vs zs => vs ++ zs) := by
  obtain ⟨_, b⟩ := FunD.kbindsD (ps := P_B_undo) T.d_B_undo 1 ["count"] (fun us _ ws => us ++ ws) (by intro h; cases h) (fun a _ c => a.append c) (fun _ _ _ _ _ _ _ us its ws hl hi hw => match us, hl, its, hi, ws, hw with | [_], _, [_], _, [_], _ => ⟨_, rfl, rfl⟩)
  exact b
theorem rK (T : Tx w K mg) : KBn K (f_B_redo K) P_B_redo 1 ["count"] (fun us ws => us ++ ws) (fun vs zs => vs ++ zs) := by
  obtain ⟨_, b⟩ := FunD.kbindsD (ps := P_B_redo) T.d_B_redo 1 ["count"] (fun us _ ws => us ++ ws) (by intro h; cases h) (fun a _ c => a.append c) (fun _ _ _ _ _ _ _ us its ws hl hi hw => match us, hl, its, hi, ws, hw with | [_], _, [_], _, [_], _ => ⟨_, rfl, rfl⟩)
  exact b
def spMake (K : PySem.W.Frag) : Sp := fun vs H Q E => ∃ (R : Hp) (b l : Addr) (lv : V) (S : Stt) (m : Nat) (cs : List Chg) (L : Net) (e0 : Nat), vs = [.ref b, lv] ∧ Same R H ∧ BookAt K R H b l S m ∧ m < 1000 ∧ At R lv (.list (cs.map Chg.d)) ∧ (∀ c ∈ cs, c.ok) ∧ cs.length ≤ 3 ∧ NetRel K R S.h L ∧ GL L e0 ∧ e0 + cs.length ≤ 59 ∧
  (∀ e, foldL L cs = .inl e → ER K [] R H E e) ∧ (∀ L', foldL L cs = .inr L' → ∀ (R' H' : Hp) (n : V), Fx [l] R H R' H' → NetRel K R' n L' → BookAt K R' H' b l ⟨n, S.p ++ [S.h], []⟩ (m + 1) → Q .non H')
theorem ok_lmake (PF : PP P) (Z : Tz w K mg) : FnOk P w K mg base (L2N.CX P w) 13 (a_lmake K) (f_lmake K) P_lmake (spMake K) := by
  have T := Z.t
  refine T.d_lmake.ok sc_lmake (fun vs H Q E h => by obtain ⟨_, _, _, _, _, _, _, _, _, rfl, _⟩ := h; rfl) (fun cdv A outer s H vs Q E hr h => ?_)
  have hu := hu_of hr
  have hu2 := hr.units
  have nd := sc_lmake.nd
  have hsz := sizeLine_eq
  refine ⟨_, (pss_cons (ps_if (pt_cmpR op_lt (pe_callB call_len_seq (by rfl) T.f_len boot_len (pa_cons (pv 1) pa_nil)) pe_int (nomark _))
      (pss_one (ps_ret (pe_ifExp (pt_cmpR (op_eqL0 hu2) (pv 1) (pe_lst pa_nil) (nomark _)) (pe_methR0 (pv 0) T.clB T.m_B_change (ok_B_change PF Z) (hr.mono (by decide)) (L2N.passes_call (W := fun cls d _ H => E cls d H) (L2N.takes_of rfl rfl rfl rfl) (fun _ _ _ _ h => h))) (pe_methR (pv 0) T.clB T.m_B_change (ok_B_change PF Z) (hr.mono (by decide)) (L2N.passes_call (W := fun cls d _ H => E cls d H) (L2N.takes_of rfl rfl rfl rfl) (fun _ _ _ _ h => h)) (pa_cons (pe_ix ix_list (pv 1) pe_int (fun _ _ => rfl)) pa_nil)))))
      pss_nil)
    (pss_cons (ps_asg (pe_slice sl_list (pv 1) po_none (po_some pe_int)) (pg_lst rfl (pgs_cons (pg_name (i := 2) nd rfl (Or.inl rfl)) (pgs_cons (pg_name (i := 3) nd rfl (Or.inl rfl)) pgs_nil))))
    (pss_one (ps_ret (pe_ifExp (pt_cmpR op_eq (pe_callB call_len_seq (by rfl) T.f_len boot_len (pa_cons (pv 1) pa_nil)) pe_int (nomark _)) (pe_methR (pv 0) T.clB T.m_B_change (ok_B_change PF Z) (hr.mono (by decide)) (L2N.passes_call (W := fun cls d _ H => E cls d H) (L2N.takes_of rfl rfl rfl rfl) (fun _ _ _ _ h => h)) (pa_cons (pv 2) (pa_cons (pv 3) pa_nil))) (pe_methR (pv 0) T.clB T.m_B_change (ok_B_change PF Z) (hr.mono (by decide)) (L2N.passes_call (W := fun cls d _ H => E cls d H) (L2N.takes_of rfl rfl rfl rfl) (fun _ _ _ _ h => h)) (pa_cons (pv 2) (pa_cons (pv 3) (pa_cons (pe_ix ix_list (pv 1) pe_int (fun _ _ => rfl)) pa_nil))))))))), ?_⟩
  obtain ⟨R, b, l, lv, S, m, cs, L, e0, rfl, k, hb, hm, hc, okc, hcl, hN, gL, hel, qe, q⟩ := h
  obtain ⟨la, lvs, rfl, l1, l2, l3⟩ := hc.isL K k
  have hl := l2.length
  rw [List.length_map] at hl
  obtain ⟨dx, n, xs, ds, h1, h2, h3, h4, h5⟩ := hb.ob
  have okS' : ∀ c ∈ cs, okSs c.ps = true := fun c hc => Chg.ok_okS (okc c hc)
  refine ⟨_, rfl, la, lvs, rfl, .inl l3, _, _, rfl, rfl, _, rfl, ?_⟩
  have call : ∀ (R1 H1 : Hp) (ws : List V) (t : Addr), Fx [] R H R1 H1 → ws = lvs → H1 t = none → spBC K ([.ref b] ++ [.ref t]) (upd H1 t (.tup ws)) Q E := by
    rintro R1 H1 ws t f rfl ht
    obtain ⟨R2, f2, e2, m2⟩ := Fx.at1 (o := .tup ws) f.rh ht
    have ff := f.trans f2
    exact ⟨R2, b, l, t, S, m, ws, cs, L, e0, rfl, f2.rh, hb.up ff (by simp), hm, e2, l2.up ff.rr, okS', hcl, hN.up ff.rr, gL, hel, fun e he => (qe e he).then ff (by simp), fun L' hL' R' H' n' f' => q L' hL' R' H' n' ((ff.s0 (M := [l])).trans f')⟩
  have star : ∀ (R1 H1 : Hp) (ws : List V), Fx [] R H R1 H1 → ws = lvs → ∃ ws' rest, (V.ref b :: ws : List V) = ws' ++ rest ∧ ws'.length = [("self" : Str)].length ∧ rest.length ≤ sizeLine ∧ ∀ p, H1 p = none → spBC K (ws' ++ [V.ref p]) (upd H1 p (.tup rest)) Q E := fun R1 H1 ws f e => ⟨[.ref b], ws, rfl, rfl, by rw [e, hl]; omega, fun t ht => call R1 H1 ws t f e ht⟩
  have e0' := Fx.refl (M := []) k
  have hbo := k _ _ h1
  refine iteB (fun h => ?_) (fun h => ?_)
  · have h : ¬ ((lvs.length : Nat) : Int) < 2 := of_decide_eq_false h
    obtain _ | ⟨v0, _ | ⟨v1, rest⟩⟩ := lvs
    · simp at h
    · simp at h
    refine ⟨_, rfl, _, rfl, la, _, rfl, l3, fun p hp => ?_⟩
    rw [cutV2]
    have f1 := e0'.newH (o := .lst [v0, v1]) hp
    refine ⟨p, _, rfl, SqL.of upd_same, rfl, _, _, rfl, _, _, rfl, rfl, ?_⟩
    generalize upd H p (.lst [v0, v1]) = H1 at f1 ⊢
    have sl := SqL.of (K := K) (f1.rh _ _ l1)
    refine ⟨_, rfl, la, _, rfl, .inl sl, rfl, _, rfl, ?_⟩
    obtain _ | ⟨v2, _ | ⟨v3, rest⟩⟩ := rest
    · refine iteB (fun h => absurd h (by show ¬ decide (V.int 2 = V.int 2) = false; decide)) (fun _ => ?_)
      exact ⟨_, rfl, b, dx, _, rfl, f1.rh _ _ h1, rfl, _, rfl, _, rfl, star R H1 [v0, v1] f1 rfl⟩
    · refine iteB (fun _ => ?_) (fun h => absurd h (by show ¬ decide (V.int 3 = V.int 2) = true; decide))
      exact ⟨_, rfl, b, dx, _, rfl, f1.rh _ _ h1, rfl, _, rfl, _, rfl, _, rfl, la, _, _, v2, rfl, rfl, sl, at_of2 (j := 2) rfl rfl, star R H1 [v0, v1, v2] f1 rfl⟩
    · simp only [List.length_cons] at hl
      omega
  · have h : ((lvs.length : Nat) : Int) < 2 := of_decide_eq_true h
    refine ⟨_, rfl, Nat.zero_le _, fun z hz => ?_⟩
    have f1 := e0'.newH (o := .lst []) hz
    refine ⟨la, z, lvs, rfl, rfl, SqL.of (f1.rh _ _ l1), SqL.of upd_same, _, rfl, ?_⟩
    generalize upd H z (.lst []) = H1 at f1 ⊢
    obtain _ | ⟨v0, _ | ⟨v1, rest⟩⟩ := lvs
    · refine iteB (fun h => absurd h (by simp [isE])) (fun _ => ?_)
      exact ⟨_, rfl, b, dx, _, rfl, f1.rh _ _ h1, rfl, star R H1 [] f1 rfl⟩
    · refine iteB (fun _ => ?_) (fun h => absurd h (by simp [isE]))
      exact ⟨_, rfl, b, dx, _, rfl, f1.rh _ _ h1, rfl, _, rfl, la, _, _, v0, rfl, rfl, SqL.of (f1.rh _ _ l1), at_of2 (j := 0) rfl rfl, star R H1 [v0] f1 rfl⟩
    · simp at h
      omega
end
end Ld
/-! Gr: the law's state: state, step. -/
namespace Ld
open PySem PySem.Spec L2 PyProof.Rows
def stK (nw pa fu : V) : List (Key × V) := [((Sum.inr "now" : Key), nw), (Sum.inr "past", pa), (Sum.inr "future", fu), (Sum.inr "depth", .int 0), (Sum.inr "wrong", .bl false), (Sum.inr "heard", .non), (Sum.inr "raised", .int 0)]
theorem stK_now (a b c : V) : valV (stK a b c) (Sum.inr "now" : Key) = some a := rfl
theorem stK_past (a b c : V) : valV (stK a b c) (Sum.inr "past" : Key) = some b := rfl
theorem stK_fut (a b c : V) : valV (stK a b c) (Sum.inr "future" : Key) = some c := rfl
theorem stK_dep (a b c : V) : valV (stK a b c) (Sum.inr "depth" : Key) = some (.int 0) := rfl
theorem stK_pnow (a b c x : V) : putK (stK a b c) (Sum.inr "now" : Key) x = stK x b c := rfl
theorem stK_ppast (a b c x : V) : putK (stK a b c) (Sum.inr "past" : Key) x = stK a x c := rfl
theorem stK_pfut (a b c x : V) : putK (stK a b c) (Sum.inr "future" : Key) x = stK a b x := rfl
theorem stK_len (a b c : V) : (stK a b c).length ≤ 1000 := by show 7 ≤ 1000; decide
structure LS where
  now : Net
  past : List Net
  fut : List Net
/-- the law's state stands at a -/
structure StAt (R H : Hp) (a : Addr) (s : LS) : Prop where
  fr : R a = none
  ob : ∃ nv pv fv, H a = some (.dK (stK nv pv fv)) ∧ At R nv s.now.d ∧ At R pv (.list (s.past.map Net.d)) ∧ At R fv (.list (s.fut.map Net.d))
theorem StAt.up {R H R' H' : Hp} {a : Addr} {s : LS} {M : List Addr} (h : StAt R H a s) (f : Fx M R H R' H') (n : a ∉ M) : StAt R' H' a s := by
  obtain ⟨nv, pv, fv, h1, h2, h3, h4⟩ := h.ob
  exact ⟨f.nr h.fr h1, nv, pv, fv, f.kp _ _ h1 n, h2.up f.rr, h3.up f.rr, h4.up f.rr⟩
def spState : Sp := fun vs H Q _ => ∃ (R : Hp) (v : V) (L : Net), vs = [v] ∧ Same R H ∧ At R v L.d ∧ ∀ (R' H' : Hp) (a : Addr), Fx [] R H R' H' → H a = none → StAt R' H' a ⟨L, [], []⟩ → Q (.ref a) H'
def spStep : Sp := fun vs H Q _ => ∃ (R : Hp) (a : Addr) (v : V) (L : Net) (s : LS), vs = [.ref a, v] ∧ Same R H ∧ StAt R H a s ∧ At R v L.d ∧ s.past.length ≤ 1000 ∧ ∀ (R' H' : Hp), Fx [a] R H R' H' → StAt R' H' a ⟨L, s.past ++ [s.now], []⟩ → Q .non H'
section
variable {P : Program} {w : World} {K : PySem.W.Frag} {mg : Str → Option Value} {base : Heap}
theorem ok_lstate (T : Tx w K mg) : FnOk P w K mg base CX0 1 (a_lstate K) (f_lstate K) P_lstate spState := by
  refine T.d_lstate.ok sc_lstate (fun vs H Q E h => by obtain ⟨_, _, _, rfl, _⟩ := h; rfl) (fun cdv A outer s H vs Q E hr h => ?_)
  have hu := hu_of hr
  have nd := sc_lstate.nd
  have hsz := sizeLine_eq
  refine ⟨_, PSs.nox (pss_one (ps_ret (pe_disp (pps_cons pe_str (pv 0) (pps_cons pe_str (pe_lst pa_nil) (pps_cons pe_str (pe_lst pa_nil) (pps_cons pe_str pe_int (pps_cons pe_str pe_bl (pps_cons pe_str pe_non (pps_cons pe_str pe_int pps_nil))))))) (by rfl) (by rfl) (fun z => by cases z) (by decide)))), ?_⟩
  obtain ⟨R, v, L, rfl, k, hL, q⟩ := h
  refine fun a ha => ?_
  have f0 := (Fx.refl (M := []) k).newH (o := .dK []) ha
  have ra : R a = none := same_none k ha
  have ea : upd H a (.dK []) a = some (.dK []) := upd_same
  show tPairs _ _ (upd H a (.dK [])) _
  generalize upd H a (.dK []) = H1 at f0 ea ⊢
  refine ⟨_, rfl, Nat.zero_le _, fun p hp => ?_⟩
  obtain ⟨R2, f2, t2, m2⟩ := nw_lst f0.rh .nil hp
  refine ⟨Nat.zero_le _, fun r hr => ?_⟩
  obtain ⟨R3, f3, t3, m3⟩ := nw_lst f2.rh .nil hr
  have f23 := f2.trans f3
  have f03 := f0.trans f23
  have ea3 := f23.kp _ _ ea (by simp)
  have ra3 := f23.nr ra ea
  refine ⟨ea3, stK v (.ref p) (.ref r), rfl, by show 7 ≤ 15; decide, ?_⟩
  have f4 := f03.put (o := .dK (mergeK [] (stK v (.ref p) (.ref r)))) ra3 (.inr ha)
  exact q R3 _ a f4 ha ⟨ra3, _, _, _, upd_same, hL.up f03.rr, t2.up m3, t3⟩
theorem ok_lstep (T : Tx w K mg) : FnOk P w K mg base CX0 1 (a_lstep K) (f_lstep K) P_lstep spStep := by
  refine T.d_lstep.ok sc_lstep (fun vs H Q E h => by obtain ⟨_, _, _, _, _, rfl, _⟩ := h; rfl) (fun cdv A outer s H vs Q E hr h => ?_)
  have hu := hu_of hr
  have nd := sc_lstep.nd
  have hsz := sizeLine_eq
  refine ⟨_, PSs.nox (pss_cons (ps_if (pt_cmpR op_eq (pe_dget hu (pv 0) pe_str (fun _ _ => rfl)) pe_int (nomark _))
      (pss_cons (ps_dput hu (pv 0) pe_str (pe_op op_cat (pe_dget hu (pv 0) pe_str (fun _ _ => rfl)) (pe_lst (pa_cons (pe_dget hu (pv 0) pe_str (fun _ _ => rfl)) pa_nil))) rfl)
      (pss_one (ps_dput hu (pv 0) pe_str (pe_lst pa_nil) rfl)))
      pss_nil)
    (pss_one (ps_dput hu (pv 0) pe_str (pv 1) rfl))), ?_⟩
  obtain ⟨R, a, v, L, s, rfl, k, hS, hL, hlen, q⟩ := h
  obtain ⟨nv, pv, fv, h1, h2, h3, h4⟩ := hS.ob
  have ra := hS.fr
  refine ⟨_, rfl, a, _, rfl, dgetS h1 (stK_dep _ _ _), rfl, _, rfl, ?_⟩
  refine iteB (fun h => absurd h (by decide)) (fun _ => ?_)
  obtain ⟨pa, pvs, rfl, p1, p2, p3⟩ := h3.isL K k
  have pl := p2.length
  rw [List.length_map] at pl
  refine ⟨_, rfl, a, _, rfl, dgetS h1 (stK_past _ _ _), _, rfl, a, _, rfl, dgetS h1 (stK_now _ _ _), by show 1 ≤ sizeLine; omega, fun x hx => ?_⟩
  obtain ⟨R2, f2, t2, m2⟩ := nw_lst k (.cons h2 .nil) hx
  obtain ⟨_, xs1, e, x1, x2, _⟩ := t2.isL K f2.rh
  cases e
  have lx : _ = 1 := x2.length
  refine ⟨pa, x, _, _, rfl, rfl, f2.rh _ _ (m2 _ _ p1), f2.rh _ _ x1, by omega, fun y hy => ?_⟩
  obtain ⟨R3, f3, t3, m3⟩ := nw_lst f2.rh ((p2.up m2).app x2) hy
  have f23 := f2.trans f3
  have h13 := f23.kp _ _ h1 (by simp)
  have ra3 := f23.nr ra h1
  have f4 := (f23.s0 (M := [a])).put (o := .dK (stK nv (.ref y) fv)) ra3 (.inl (by simp))
  refine ⟨_, rfl, a, _, rfl, dputS h13 (stK_len _ _ _) (stK_ppast _ _ _ _), ?_⟩
  have e4 : upd (upd (upd H x (.lst [nv])) y (.lst (pvs ++ xs1))) a (.dK (stK nv (.ref y) fv)) a = some (.dK (stK nv (.ref y) fv)) := upd_same
  generalize upd (upd (upd H x (.lst [nv])) y (.lst (pvs ++ xs1))) a (.dK (stK nv (.ref y) fv)) = H4 at f4 e4 ⊢
  refine ⟨Nat.zero_le _, fun z hz => ?_⟩
  obtain ⟨R5, f5, t5, m5⟩ := nw_lst f4.rh .nil hz
  have h15 := f5.kp _ _ e4 (by simp)
  have ra5 := f5.nr ra3 e4
  have f45 := f4.trans (f5.s0 (M := [a]))
  refine ⟨_, rfl, a, _, rfl, dputS h15 (stK_len _ _ _) (stK_pfut _ _ _ _), ?_⟩
  have f6 := f45.put (o := .dK (stK nv (.ref y) (.ref z))) ra5 (.inl (by simp))
  refine ⟨_, rfl, _, rfl, a, _, rfl, dputS upd_same (stK_len _ _ _) (stK_pnow _ _ _ _), ?_⟩
  have f7 := f6.put (o := .dK (stK v (.ref y) (.ref z))) ra5 (.inl (by simp))
  refine q R5 _ f7 ⟨ra5, _, _, _, upd_same, hL.up f7.rr, ?_, t5⟩
  show At R5 (.ref y) (.list ((s.past ++ [s.now]).map Net.d))
  rw [List.map_append]
  exact t3.up m5
end
end Ld
/-! Gs: stands, due_back. -/
namespace Ld
open PySem PySem.Spec L2 PyProof.Rows
/-- the book's networks beside the law's -/
inductive RelL (K : PySem.W.Frag) (R : Hp) (m : Nat) : List V → List Net → Prop
  | nil : RelL K R m [] []
  | cons {v : V} {vs : List V} {L : Net} {Ls : List Net} : NetRel K R v L → GL L m → RelL K R m vs Ls → RelL K R m (v :: vs) (L :: Ls)
theorem GL.mono {L : Net} {m n : Nat} (g : GL L m) (h : m ≤ n) : GL L n := ⟨g.f, g.ne, g.ft, Nat.le_trans g.el h⟩
section
variable {K : PySem.W.Frag} {R R' H H' : Hp} {m n : Nat} {vs ws : List V} {Ls Ms : List Net} {v : V} {L : Net}
theorem RelL.up (k : Same R R') : ∀ {vs : List V} {Ls : List Net}, RelL K R m vs Ls → RelL K R' m vs Ls
  | [], [], _ => .nil
  | _ :: _, _ :: _, h => by
    cases h with
    | cons a b c => exact .cons (a.up k) b (RelL.up k c)
theorem RelL.mono (h : m ≤ n) : ∀ {vs : List V} {Ls : List Net}, RelL K R m vs Ls → RelL K R n vs Ls
  | [], [], _ => .nil
  | _ :: _, _ :: _, g => by
    cases g with
    | cons a b c => exact .cons a (b.mono h) (RelL.mono h c)
theorem RelL.length : ∀ {vs : List V} {Ls : List Net}, RelL K R m vs Ls → vs.length = Ls.length
  | [], [], _ => rfl
  | _ :: _, _ :: _, g => by
    cases g with
    | cons a b c => simp [RelL.length c]
theorem RelL.snoc (h1 : NetRel K R v L) (h2 : GL L m) : ∀ {vs : List V} {Ls : List Net}, RelL K R m vs Ls → RelL K R m (vs ++ [v]) (Ls ++ [L])
  | [], [], _ => .cons h1 h2 .nil
  | _ :: _, _ :: _, g => by
    cases g with
    | cons a b c => exact .cons a b (RelL.snoc h1 h2 c)
theorem RelL.last : ∀ {vs : List V} {Ls : List Net}, RelL K R m vs (Ls ++ [L]) → ∃ ws v, vs = ws ++ [v] ∧ RelL K R m ws Ls ∧ NetRel K R v L ∧ GL L m
  | [], [], g => by cases g
  | [], _ :: _, g => by cases g
  | v :: vs, [], g => by
    cases g with
    | cons a b c =>
      cases c
      exact ⟨[], v, rfl, .nil, a, b⟩
  | v :: vs, M :: Ls, g => by
    cases g with
    | cons a b c =>
      obtain ⟨ws, x, rfl, h1, h2, h3⟩ := RelL.last c
      exact ⟨v :: ws, x, rfl, .cons a b h1, h2, h3⟩
theorem AtL.last {d : PyData} : ∀ {vs : List V} {ds : List PyData}, AtL R vs (ds ++ [d]) → ∃ ws v, vs = ws ++ [v] ∧ AtL R ws ds ∧ At R v d
  | [], [], g => by cases g
  | [], _ :: _, g => by cases g
  | v :: vs, [], g => by
    cases g with
    | cons a c =>
      cases c
      exact ⟨[], v, rfl, .nil, a⟩
  | v :: vs, e :: ds, g => by
    cases g with
    | cons a c =>
      obtain ⟨ws, x, rfl, h1, h2⟩ := AtL.last c
      exact ⟨v :: ws, x, rfl, .cons a h1, h2⟩
end
theorem cutV_last (xs : List V) (v : V) : cutV (xs ++ [v]) none (some (-1)) = xs := by
  unfold cutV
  rw [HT.sIx_none]
  have e : HT.sIx (xs ++ [v]).length (xs ++ [v]).length (some (-1)) = xs.length := by
    show (if (-1 : Int) < 0 then ((-1 : Int) + ((xs ++ [v]).length : Nat)).toNat else min (-1 : Int).toNat (xs ++ [v]).length) = _
    rw [if_pos (by decide), List.length_append]
    show ((-1 : Int) + ((xs.length + 1 : Nat) : Int)).toNat = _
    omega
  rw [e]
  show ((xs ++ [v]).drop 0).take (xs.length - 0) = xs
  rw [List.drop_zero, Nat.sub_zero, List.take_left']
  rfl
structure Rel (K : PySem.W.Frag) (R : Hp) (S : Stt) (s : LS) (m : Nat) : Prop where
  h : NetRel K R S.h s.now
  g : GL s.now m
  p : RelL K R m S.p s.past
  f : RelL K R m S.f s.fut
theorem Rel.up {K : PySem.W.Frag} {R R' : Hp} {S : Stt} {s : LS} {m : Nat} (r : Rel K R S s m) (k : Same R R') : Rel K R' S s m := ⟨r.h.up k, r.g, r.p.up k, r.f.up k⟩
theorem Rel.mono {K : PySem.W.Frag} {R : Hp} {S : Stt} {s : LS} {m n : Nat} (r : Rel K R S s m) (h : m ≤ n) : Rel K R S s n := ⟨r.h, r.g.mono h, r.p.mono h, r.f.mono h⟩
def LS.un (s : LS) : Option LS := match s.past.getLast? with
  | some x => some ⟨x, s.past.dropLast, s.fut ++ [s.now]⟩
  | none => none
def LS.re (s : LS) : Option LS := match s.fut.getLast? with
  | some x => some ⟨x, s.past ++ [s.now], s.fut.dropLast⟩
  | none => none
def timesL (g : LS → Option LS) : Nat → LS → Option LS
  | 0, s => some s
  | k + 1, s => (timesL g k s).bind g
theorem LS.un_eq {n x : Net} {p f : List Net} : LS.un ⟨n, p ++ [x], f⟩ = some ⟨x, p, f ++ [n]⟩ := by
  unfold LS.un
  rw [List.getLast?_concat, List.dropLast_concat]
theorem LS.re_eq {n x : Net} {p f : List Net} : LS.re ⟨n, p, f ++ [x]⟩ = some ⟨x, p ++ [n], f⟩ := by
  unfold LS.re
  rw [List.getLast?_concat, List.dropLast_concat]
theorem Stt.un_eq {n x : V} {p f : List V} : Stt.un ⟨n, p ++ [x], f⟩ = some ⟨x, p, f ++ [n]⟩ := by
  unfold Stt.un
  rw [List.getLast?_concat, List.dropLast_concat]
theorem Stt.re_eq {n x : V} {p f : List V} : Stt.re ⟨n, p, f ++ [x]⟩ = some ⟨x, p ++ [n], f⟩ := by
  unfold Stt.re
  rw [List.getLast?_concat, List.dropLast_concat]
theorem snoc_of {α : Type} {l : List α} (h : l ≠ []) : ∃ q x, l = q ++ [x] := ⟨l.dropLast, l.getLast h, (List.dropLast_concat_getLast h).symm⟩
theorem Rel.un {K : PySem.W.Frag} {R : Hp} {S : Stt} {s s' : LS} {m : Nat} (r : Rel K R S s m) (h : s.un = some s') : ∃ S', S.un = some S' ∧ Rel K R S' s' m := by
  obtain ⟨n, p, f⟩ := s
  by_cases hp : p = []
  · subst hp; cases h
  obtain ⟨q, x, rfl⟩ := snoc_of hp
  rw [LS.un_eq] at h
  cases h
  obtain ⟨sh, sp, sf⟩ := S
  obtain ⟨ws, v, e, h1, h2, h3⟩ := r.p.last
  have e : sp = ws ++ [v] := e
  subst e
  exact ⟨_, Stt.un_eq, h2, h3, h1, r.f.snoc r.h r.g⟩
theorem Rel.re {K : PySem.W.Frag} {R : Hp} {S : Stt} {s s' : LS} {m : Nat} (r : Rel K R S s m) (h : s.re = some s') : ∃ S', S.re = some S' ∧ Rel K R S' s' m := by
  obtain ⟨n, p, f⟩ := s
  by_cases hp : f = []
  · subst hp; cases h
  obtain ⟨q, x, rfl⟩ := snoc_of hp
  rw [LS.re_eq] at h
  cases h
  obtain ⟨sh, sp, sf⟩ := S
  obtain ⟨ws, v, e, h1, h2, h3⟩ := r.f.last
  have e : sf = ws ++ [v] := e
  subst e
  exact ⟨_, Stt.re_eq, h2, h3, r.p.snoc r.h r.g, h1⟩
theorem Rel.many {K : PySem.W.Frag} {R : Hp} {m : Nat} {g : LS → Option LS} {G : Stt → Option Stt} (step : ∀ (S : Stt) (s s' : LS), Rel K R S s m → g s = some s' → ∃ S', G S = some S' ∧ Rel K R S' s' m) : ∀ {k : Nat} {S : Stt} {s s' : LS}, Rel K R S s m → timesL g k s = some s' → ∃ S', times G k S = some S' ∧ Rel K R S' s' m
  | 0, S, s, s', r, h => by cases h; exact ⟨S, rfl, r⟩
  | k + 1, S, s, s', r, h => by
    have h : (timesL g k s).bind g = some s' := h
    cases h2 : timesL g k s with
    | none => rw [h2] at h; cases h
    | some u =>
      rw [h2] at h
      obtain ⟨U, h3, h4⟩ := Rel.many step r h2
      obtain ⟨S', h5, h6⟩ := step _ _ _ h4 h
      refine ⟨S', ?_, h6⟩
      show (times G k S).bind G = _
      rw [h3]
      exact h5
def spStands (K : PySem.W.Frag) : Sp := fun vs H Q _ => ∃ (R : Hp) (b l a : Addr) (S : Stt) (s : LS) (j m : Nat), vs = [.ref b, .ref a] ∧ Same R H ∧ BookAt K R H b l S j ∧ j ≤ 1000 ∧ StAt R H a s ∧ Rel K R S s m ∧ m ≤ 59 ∧ ∀ (R' H' : Hp), Fx [] R H R' H' → Q (.bl true) H'
def wordV (u : Bool) : V := .str (if u = true then "undo" else "redo")
def backE (u : Bool) : Err := if u = true then .noUndo else .noRedo
def lenL (u : Bool) (s : LS) : Nat := if u = true then s.past.length else s.fut.length
def LS.go (u : Bool) (s : LS) : Option LS := if u = true then s.un else s.re
def spDueB : Sp := fun vs H Q _ => ∃ (R : Hp) (a : Addr) (u : Bool) (v : V) (d : PyData) (s : LS), vs = [.ref a, wordV u, v] ∧ Same R H ∧ StAt R H a s ∧ At R v d ∧ okS d = true ∧ OkR d ∧ s.past.length + s.fut.length ≤ 1000 ∧
  (isBtw d 1 (10 ^ 60) = false → ∀ (R' H' : Hp) (r : V), Fx [] R H R' H' → At R' r (faultD (.range d)) → Q r H') ∧
  (∀ k : Nat, d = .int k → lenL u s < k → ∀ (R' H' : Hp) (r : V), Fx [] R H R' H' → At R' r (faultD (backE u)) → Q r H') ∧
  (∀ k : Nat, d = .int k → 1 ≤ k → k ≤ lenL u s → ∀ (s' : LS) (R' H' : Hp), timesL (LS.go u) k s = some s' → Fx [a] R H R' H' → StAt R' H' a s' → Q .non H')
theorem btw_nat {d : PyData} {h : Int} (hb : isBtw d 1 h = true) : ∃ n : Nat, d = .int n ∧ 1 ≤ n := by
  cases d with
  | int i =>
    have hb : (decide (1 ≤ i) && decide (i ≤ h)) = true := hb
    rw [Bool.and_eq_true, decide_eq_true_iff, decide_eq_true_iff] at hb
    exact ⟨i.toNat, by rw [Int.toNat_of_nonneg (by omega)], by omega⟩
  | _ => simp [isBtw] at hb
theorem okR_counts {a b : Nat} (ha : a ≤ 1000) (hb : b ≤ 1000) : OkR (.list [.int a, .int b, .int 0]) :=
  ((RpL.cons (rp_int (i := a) (by omega) (by omega)) (RpL.cons (rp_int (i := b) (by omega) (by omega)) (RpL.cons (rp_int (i := 0) (by decide) (by decide)) RpL.nil))).lst).ok
section
variable {P : Program} {w : World} {K : PySem.W.Frag} {mg : Str → Option Value} {base : Heap}
theorem ok_lstands (PF : PP P) (Z : Tz w K mg) : FnG P w K mg base CX0 5 (a_lstands K) (f_lstands K) P_lstands (spStands K) := by
  have T := Z.t
  refine FunD.okG T.d_lstands sc_lstands (fun vs H Q E h => by obtain ⟨_, _, _, _, _, _, _, _, rfl, _⟩ := h; rfl) (fun cdv A outer s H vs Q E hr hG h => ?_)
  have hu := hu_of hr
  have hu2 := hr.units
  have hu3 : (A.deeper (envOfC "_law_stands" (defScope st_lstands) s.heap.objs.size (a_lstands K) cdv)).units + 65 < cLine := by have := hr.un; omega
  have nd := sc_lstands.nd
  have hsz := sizeLine_eq
  refine ⟨_, PSs.nox (pss_cons (ps_if (pt_not (pt_val (pe_callG hG (ok_lshows PF Z) (hr.mono (by decide)) (by rfl) T.g_lshows T.k_lshows T.b_lshows .nil pass0 (pa_cons (pe_prop (pv 0) T.clB T.p_B_network (ok_B_network T) (hr.mono (by decide)) T.b_B_network .nil pass0 rfl) (pa_cons (pe_dget hu (pv 1) pe_str (fun _ _ => rfl)) pa_nil)))))
      (pss_one (ps_ret pe_bl))
      pss_nil)
    (pss_cons (ps_set (i := 2) nd rfl (Or.inl rfl) (pe_lst (pa_cons (pe_callB call_len_seq (by rfl) T.f_len boot_len (pa_cons (pe_dget hu (pv 1) pe_str (fun _ _ => rfl)) pa_nil)) (pa_cons (pe_callB call_len_seq (by rfl) T.f_len boot_len (pa_cons (pe_dget hu (pv 1) pe_str (fun _ _ => rfl)) pa_nil)) (pa_cons (pe_dget hu (pv 1) pe_str (fun _ _ => rfl)) pa_nil)))))
    (pss_one (ps_ret (pe_cmpR op_eq (pe_callB (call_reprD Z hG hu3) (by rfl) T.f_repr boot_repr (pa_cons (pe_lst (pa_cons (pe_prop (pv 0) T.clB T.p_B_undoable (ok_B_undoable T) (hr.mono (by decide)) T.b_B_undoable .nil pass0 rfl) (pa_cons (pe_prop (pv 0) T.clB T.p_B_redoable (ok_B_redoable T) (hr.mono (by decide)) T.b_B_redoable .nil pass0 rfl) (pa_cons (pe_prop (pv 0) T.clB T.p_B_depth (ok_B_depth T) (hr.mono (by decide)) T.b_B_depth .nil pass0 rfl) pa_nil)))) pa_nil)) (pe_callB (call_reprD Z hG hu3) (by rfl) T.f_repr boot_repr (pa_cons (pv 2) pa_nil)) (nomark _)))))), ?_⟩
  obtain ⟨R, b, l, a, S, s, j, m, rfl, k, hb, hj, hS, hrel, hm, q⟩ := h
  have hb1000 : BookAt K R H b l S 1000 := by
    obtain ⟨dx, n, xs, ds, h1, h2, h3, h4, h5⟩ := hb.ob
    exact ⟨hb.rl, dx, n, xs, ds, h1, h2, h3, by omega, h5⟩
  have hlen := hb1000.len
  have lp := hrel.p.length
  have lf := hrel.f.length
  obtain ⟨dx, n, xs, ds, h1, h2, h3, h4, h5⟩ := hb.ob
  obtain ⟨nv, pv_, fv, s1, s2, s3, s4⟩ := hS.ob
  refine ⟨_, rfl, b, dx, _, rfl, k _ _ h1, R, b, l, S, rfl, k, hb1000, fun R1 H1 f1 => ?_⟩
  have s1' := f1.kp _ _ s1 (by simp)
  refine ⟨_, rfl, a, _, rfl, dgetS s1' (stK_now _ _ _), R1, S.h, nv, s.now, m, rfl, f1.rh, hrel.h.up f1.rr, s2.up f1.rr, hrel.g, hm, fun R2 H2 f2 => ⟨_, rfl, ?_⟩⟩
  refine iteB (fun _ => ?_) (fun h => absurd h (by decide))
  have f12 := f1.trans f2
  have s1'' := f12.kp _ _ s1 (by simp)
  obtain ⟨pa, pvs, rfl, p1, p2, p3⟩ := (s3.up f12.rr).isL K f12.rh
  obtain ⟨fa, fvs, rfl, g1, g2, g3⟩ := (s4.up f12.rr).isL K f12.rh
  have pl := p2.length
  have fl := g2.length
  rw [List.length_map] at pl fl
  refine ⟨_, rfl, a, _, rfl, dgetS s1'' (stK_past _ _ _), pa, _, rfl, .inl p3, _, rfl, a, _, rfl, dgetS s1'' (stK_fut _ _ _), fa, _, rfl, .inl g3, _, rfl, a, _, rfl, dgetS s1'' (stK_dep _ _ _), by show 3 ≤ sizeLine; omega, fun c hc => ?_⟩
  have okc := okR_counts (a := s.past.length) (b := s.fut.length) (by omega) (by omega)
  obtain ⟨R3, f3, t3, m3⟩ := nw_lst f12.rh (xs := [.int (pvs.length : Nat), .int (fvs.length : Nat), .int 0]) (.cons (.int _) (.cons (.int _) (.cons (.int _) .nil))) hc
  have f13 := f12.trans f3
  rw [pl, fl] at t3
  refine ⟨_, rfl, b, dx, _, rfl, f13.rh _ _ (f13.rr _ _ h1), R3, b, l, S, rfl, f13.rh, hb1000.up f13 (by simp), fun R4 H4 f4 => ?_⟩
  have f14 := f13.trans f4
  refine ⟨_, rfl, b, dx, _, rfl, f14.rh _ _ (f14.rr _ _ h1), R4, b, l, S, rfl, f14.rh, hb1000.up f14 (by simp), fun R5 H5 f5 => ?_⟩
  have f15 := f14.trans f5
  refine ⟨_, rfl, b, dx, _, rfl, f15.rh _ _ (f15.rr _ _ h1), R5, b, l, S, rfl, f15.rh, hb1000.up f15 (by simp), fun R6 H6 f6 => ?_⟩
  have f16 := f15.trans f6
  refine ⟨by show 3 ≤ sizeLine; omega, fun e he => ?_⟩
  obtain ⟨R7, f7, t7, m7⟩ := nw_lst f16.rh (xs := [.int (S.p.length : Nat), .int (S.f.length : Nat), .int 0]) (.cons (.int _) (.cons (.int _) (.cons (.int _) .nil))) he
  rw [lp, lf] at t7
  have t3' := t3.up ((f4.rr.trans f5.rr).trans (f6.rr.trans f7.rr))
  refine ⟨R7, _, _, rfl, f7.rh, t7, okc, _, rfl, R7, _, _, rfl, f7.rh, t3', okc, rfl, ?_⟩
  rw [decide_eq_true rfl]
  exact q R7 _ (f16.trans f7)
theorem ok_ldue_back (PF : PP P) (Z : Tz w K mg) : FnG P w K mg base CX0 2 (a_ldue_back K) (f_ldue_back K) P_ldue_back spDueB := by
  have T := Z.t
  refine FunD.okG T.d_ldue_back sc_ldue_back (fun vs H Q E h => by obtain ⟨_, _, _, _, _, _, rfl, _⟩ := h; rfl) (fun cdv A outer s H vs Q E hr hG h => ?_)
  have hu := hu_of hr
  have hu2 := hr.units
  have hu3 : (A.deeper (envOfC "_law_due_back" (defScope st_ldue_back) s.heap.objs.size (a_ldue_back K) cdv)).units + 65 < cLine := by have := hr.un; omega
  have nd := sc_ldue_back.nd
  have hsz := sizeLine_eq
  refine ⟨_, PSs.nox (pss_cons (ps_if (pt_cmpR op_gt (pe_dget hu (pv 0) pe_str (fun _ _ => rfl)) pe_int (nomark _))
      (pss_one (ps_ret (pe_tup (pa_cons pe_str (pa_cons pe_str pa_nil)))))
      pss_nil)
    (pss_cons (ps_if (pt_not (pt_val (pe_call (ok_lis_between T) (hr.mono (by decide)) (by rfl) T.g_lis_between T.k_lis_between T.b_lis_between .nil pass0 (pa_cons (pv 2) (pa_cons pe_int (pa_cons (pe_op op_pow pe_int pe_int) pa_nil))))))
      (pss_one (ps_ret (pe_tup (pa_cons pe_str (pa_cons (pe_callB (call_reprD Z hG hu3) (by rfl) T.f_repr boot_repr (pa_cons (pv 2) pa_nil)) pa_nil)))))
      pss_nil)
    (pss_cons (ps_asg (pe_ifExp (pt_cmpR op_eq (pv 1) pe_str (nomark _)) (pe_tup (pa_cons pe_str (pa_cons pe_str pa_nil))) (pe_tup (pa_cons pe_str (pa_cons pe_str pa_nil)))) (pg_tup rfl (pgs_cons (pg_name (i := 3) nd rfl (Or.inl rfl)) (pgs_cons (pg_name (i := 4) nd rfl (Or.inl rfl)) pgs_nil))))
    (pss_cons (ps_if (pt_cmpR op_lt (pe_callB call_len_seq (by rfl) T.f_len boot_len (pa_cons (pe_dget hu (pv 0) (pv 3) (fun _ _ => rfl)) pa_nil)) (pv 2) (nomark _))
      (pss_one (ps_ret (pe_tup (pa_cons (pe_op op_add_str pe_str (pv 1)) (pa_cons pe_str pa_nil)))))
      pss_nil)
    (pss_cons (ps_for PassesOwn.never rfl (pi_range1 (by rfl) T.f_range (pa_cons (pv 2) pa_nil)) (pg_name (i := 5) nd rfl (Or.inl rfl))
      (pss_cons (ps_dput hu (pv 0) (pv 4) (pe_op op_cat (pe_dget hu (pv 0) (pv 4) (fun _ _ => rfl)) (pe_lst (pa_cons (pe_dget hu (pv 0) pe_str (fun _ _ => rfl)) pa_nil))) rfl)
      (pss_cons (ps_dput hu (pv 0) pe_str (pe_ix ix_list (pe_dget hu (pv 0) (pv 3) (fun _ _ => rfl)) (pe_un un_neg pe_int) (fun _ _ => rfl)) rfl)
      (pss_one (ps_dput hu (pv 0) (pv 3) (pe_slice sl_list (pe_dget hu (pv 0) (pv 3) (fun _ _ => rfl)) po_none (po_some (pe_un un_neg pe_int))) rfl)))))
    (pss_one (ps_ret pe_non))))))), ?_⟩
  obtain ⟨R, a, u, v, d, s, rfl, k, hS, hv, od, rd, hlen, q1, q2, q3⟩ := h
  obtain ⟨nv, pv_, fv, s1, s2, s3, s4⟩ := hS.ob
  have ra := hS.fr
  refine ⟨_, rfl, a, _, rfl, dgetS s1 (stK_dep _ _ _), _, _, rfl, rfl, _, rfl, ?_⟩
  refine iteB (fun _ => ?_) (fun h => absurd h (by decide))
  have big : (10 : Int) ^ (60 : Int).toNat = 10 ^ 60 := rfl
  refine ⟨_, rfl, _, _, rfl, rfl, ⟨by decide, by decide, by decide⟩, R, v, d, 1, 10 ^ 60, rfl, k, hv, od, fun R1 H1 f1 => ⟨_, rfl, ?_⟩⟩
  refine iteB (fun hb => ?_) (fun hb => ?_)
  rotate_left
  · have hb : isBtw d 1 (10 ^ 60) = false := by
      have h : (!isBtw d 1 (10 ^ 60)) = true := hb
      simpa using h
    refine ⟨_, rfl, R1, v, d, rfl, f1.rh, hv.up f1.rr, rd, by show 2 ≤ sizeLine; omega, fun t ht => ?_⟩
    obtain ⟨R2, f2, t2, m2⟩ := nw_tup f1.rh (.cons (.str "range") (.cons (.str d.shown) .nil)) ht
    exact q1 hb R2 _ _ (f1.trans f2) t2
  have hb : isBtw d 1 (10 ^ 60) = true := by
    have h : (!isBtw d 1 (10 ^ 60)) = false := hb
    simpa using h
  obtain ⟨n, rfl, hn1⟩ := btw_nat hb
  cases hv
  have s11 := f1.kp _ _ s1 (by simp)
  have ra1 := f1.nr ra s1
  have s31 := s3.up f1.rr
  have s41 := s4.up f1.rr
  cases u with
  | true =>
    refine ⟨_, rfl, rfl, _, rfl, ?_⟩
    refine iteB (fun h => absurd h (by show ¬ decide (V.str "undo" = V.str "undo") = false; decide)) (fun _ => ?_)
    refine ⟨by show 2 ≤ sizeLine; omega, fun t ht => ?_⟩
    have f2 := f1.newH (o := .tup [.str "past", .str "future"]) ht
    refine ⟨t, _, rfl, SqT.of upd_same, rfl, _, _, rfl, _, _, rfl, rfl, ?_⟩
    generalize upd H1 t (.tup [.str "past", .str "future"]) = H2 at f2 ⊢
    have s12 := f2.kp _ _ s1 (by simp)
    obtain ⟨sa, svs, esa, p1, p2, p3⟩ := s31.isL K f2.rh
    subst esa
    have pl := p2.length
    rw [List.length_map] at pl
    refine ⟨_, rfl, _, rfl, a, _, rfl, dgetS s12 (stK_past _ _ _), sa, svs, rfl, .inl p3, _, rfl, _, _, rfl, rfl, _, rfl, ?_⟩
    refine iteB (fun hlt => ?_) (fun hlt => ?_)
    rotate_left
    · have hlt : ((svs.length : Nat) : Int) < (n : Int) := of_decide_eq_true hlt
      refine ⟨_, rfl, _, _, rfl, rfl, by show 3 + 4 ≤ sizeLine; omega, by show 2 ≤ sizeLine; omega, fun t ht => ?_⟩
      obtain ⟨R3, f3, t3, m3⟩ := nw_tup f2.rh (.cons (.str "no undo") (.cons (.str "") .nil)) ht
      exact q2 n rfl (by show s.past.length < n; omega) R3 _ _ (f2.trans f3) t3
    have hlt : ¬ ((svs.length : Nat) : Int) < (n : Int) := of_decide_eq_false hlt
    have hle : n ≤ s.past.length := by omega
    refine ⟨_, rfl, _, rfl, by omega, by omega, for_range (n := n) (fun i σ H' => ∃ (R' : Hp) (x : Option V) (s' : LS), σ = [some (.ref a), some (.str "undo"), some (.int n), some (.str "past"), some (.str "future"), x] ∧ Fx [a] R H R' H' ∧ StAt R' H' a s' ∧ timesL (LS.go true) i s = some s' ∧ s'.past.length = s.past.length - i ∧ s'.past.length + s'.fut.length ≤ 1000) ⟨R1, none, s, rfl, f2.s0, hS.up f2 (by simp), rfl, by omega, by omega⟩ ?_ ?_⟩
    · rintro i σ H' hi ⟨R', x, ⟨snow, so, ot⟩, rfl, f, hS', htm, hl', hsum⟩
      have hne : so ≠ [] := fun z => by
        rw [z] at hl'
        have hl' : 0 = s.past.length - i := hl'
        omega
      obtain ⟨q, y, rfl⟩ := snoc_of hne
      have hl' : (q ++ [y]).length = s.past.length - i := hl'
      rw [List.length_append] at hl'
      have hl' : q.length + 1 = s.past.length - i := hl'
      have hsum : (q ++ [y]).length + ot.length ≤ 1000 := hsum
      rw [List.length_append] at hsum
      have hsum : q.length + 1 + ot.length ≤ 1000 := hsum
      obtain ⟨nv2, sv2, ov2, z1, z2, z3, z4⟩ := hS'.ob
      have ra' := hS'.fr
      obtain ⟨oa, ovs, rfl, o1, o2, o3⟩ := z4.isL K f.rh
      have ol := o2.length
      rw [List.length_map] at ol
      have ol : ovs.length = ot.length := ol
      refine ⟨_, rfl, ?_⟩
      refine ⟨_, rfl, a, _, rfl, dgetS z1 (stK_fut _ _ _), _, rfl, a, _, rfl, dgetS z1 (stK_now _ _ _), by show 1 ≤ sizeLine; omega, fun x1 hx1 => ?_⟩
      obtain ⟨R2, g2, t2, m2⟩ := nw_lst f.rh (.cons z2 .nil) hx1
      obtain ⟨_, xs1, e, w1, w2, _⟩ := t2.isL K g2.rh
      cases e
      have lx : _ = 1 := w2.length
      refine ⟨oa, x1, _, _, rfl, rfl, g2.rh _ _ (m2 _ _ o1), g2.rh _ _ w1, by omega, fun y1 hy1 => ?_⟩
      obtain ⟨R3, g3, t3, m3⟩ := nw_lst g2.rh ((o2.up m2).app w2) hy1
      have g23 := g2.trans g3
      have z13 := g23.kp _ _ z1 (by simp)
      have ra3 := g23.nr ra' z1
      have f4 := (f.trans (g23.s0 (M := [a]))).put (o := .dK (stK nv2 sv2 (.ref y1))) ra3 (.inl (by simp))
      refine ⟨_, rfl, _, rfl, a, _, rfl, dputS z13 (stK_len _ _ _) (stK_pfut _ _ _ _), ?_⟩
      have e4 : upd (upd (upd H' x1 (.lst [nv2])) y1 (.lst (ovs ++ xs1))) a (.dK (stK nv2 sv2 (.ref y1))) a = some (.dK (stK nv2 sv2 (.ref y1))) := upd_same
      generalize upd (upd (upd H' x1 (.lst [nv2])) y1 (.lst (ovs ++ xs1))) a (.dK (stK nv2 sv2 (.ref y1))) = H4 at f4 e4 ⊢
      have z33 := z3.up g23.rr
      obtain ⟨sb, svs2, rfl, b1, b2, b3⟩ := z33.isL K f4.rh
      have b2' : AtL R3 svs2 (q.map Net.d ++ [y.d]) := by
        have b2 : AtL R3 svs2 ((q ++ [y]).map Net.d) := b2
        rw [List.map_append] at b2
        exact b2
      obtain ⟨ws, yv, rfl, b4, b5⟩ := b2'.last
      refine ⟨_, rfl, _, rfl, a, _, rfl, dgetS e4 (stK_past _ _ _), _, rfl, sb, _, _, yv, rfl, rfl, b3, atI_last ws yv, _, rfl, a, _, rfl, dputS e4 (stK_len _ _ _) (stK_pnow _ _ _ _), ?_⟩
      have f5 := f4.put (o := .dK (stK yv (.ref sb) (.ref y1))) ra3 (.inl (by simp))
      have e5 : upd H4 a (.dK (stK yv (.ref sb) (.ref y1))) a = some (.dK (stK yv (.ref sb) (.ref y1))) := upd_same
      generalize upd H4 a (.dK (stK yv (.ref sb) (.ref y1))) = H5 at f5 e5 ⊢
      refine ⟨_, rfl, _, rfl, a, _, rfl, dgetS e5 (stK_past _ _ _), _, rfl, _, rfl, sb, _, rfl, SqL.of (f5.rh _ _ b1), fun p hp => ?_⟩
      rw [cutV_last]
      obtain ⟨R6, g6, t6, m6⟩ := nw_lst f5.rh b4 hp
      have e6 := g6.kp _ _ e5 (by simp)
      have ra6 := g6.nr ra3 e5
      refine ⟨_, rfl, _, rfl, a, _, rfl, dputS e6 (stK_len _ _ _) (stK_ppast _ _ _ _), ?_⟩
      have f6 := (f5.trans (g6.s0 (M := [a]))).put (o := .dK (stK yv (.ref p) (.ref y1))) ra6 (.inl (by simp))
      have at1 : At R6 (.ref p) (.list (q.map Net.d)) := t6
      have at2 : At R6 (.ref y1) (.list ((ot ++ [snow]).map Net.d)) := by
        rw [List.map_append]
        exact t3.up m6
      refine ⟨R6, _, ⟨y, q, ot ++ [snow]⟩, rfl, f6, ⟨ra6, _, _, _, upd_same, b5.up m6, at1, at2⟩, ?_, ?_, ?_⟩
      · show (timesL _ i s).bind _ = _
        rw [htm]
        show LS.un _ = _
        exact LS.un_eq
      · show q.length = _
        omega
      · show q.length + (ot ++ [snow]).length ≤ 1000
        rw [List.length_append]
        show q.length + (ot.length + 1) ≤ 1000
        omega
    · rintro σ H' ⟨R', x, s', rfl, f, hS', htm, _⟩
      exact q3 n rfl (by omega) hle s' R' H' htm f hS'
  | false =>
    refine ⟨_, rfl, rfl, _, rfl, ?_⟩
    refine iteB (fun _ => ?_) (fun h => absurd h (by show ¬ decide (V.str "redo" = V.str "undo") = true; decide))
    refine ⟨by show 2 ≤ sizeLine; omega, fun t ht => ?_⟩
    have f2 := f1.newH (o := .tup [.str "future", .str "past"]) ht
    refine ⟨t, _, rfl, SqT.of upd_same, rfl, _, _, rfl, _, _, rfl, rfl, ?_⟩
    generalize upd H1 t (.tup [.str "future", .str "past"]) = H2 at f2 ⊢
    have s12 := f2.kp _ _ s1 (by simp)
    obtain ⟨sa, svs, esa, p1, p2, p3⟩ := s41.isL K f2.rh
    subst esa
    have pl := p2.length
    rw [List.length_map] at pl
    refine ⟨_, rfl, _, rfl, a, _, rfl, dgetS s12 (stK_fut _ _ _), sa, svs, rfl, .inl p3, _, rfl, _, _, rfl, rfl, _, rfl, ?_⟩
    refine iteB (fun hlt => ?_) (fun hlt => ?_)
    rotate_left
    · have hlt : ((svs.length : Nat) : Int) < (n : Int) := of_decide_eq_true hlt
      refine ⟨_, rfl, _, _, rfl, rfl, by show 3 + 4 ≤ sizeLine; omega, by show 2 ≤ sizeLine; omega, fun t ht => ?_⟩
      obtain ⟨R3, f3, t3, m3⟩ := nw_tup f2.rh (.cons (.str "no redo") (.cons (.str "") .nil)) ht
      exact q2 n rfl (by show s.fut.length < n; omega) R3 _ _ (f2.trans f3) t3
    have hlt : ¬ ((svs.length : Nat) : Int) < (n : Int) := of_decide_eq_false hlt
    have hle : n ≤ s.fut.length := by omega
    refine ⟨_, rfl, _, rfl, by omega, by omega, for_range (n := n) (fun i σ H' => ∃ (R' : Hp) (x : Option V) (s' : LS), σ = [some (.ref a), some (.str "redo"), some (.int n), some (.str "future"), some (.str "past"), x] ∧ Fx [a] R H R' H' ∧ StAt R' H' a s' ∧ timesL (LS.go false) i s = some s' ∧ s'.fut.length = s.fut.length - i ∧ s'.fut.length + s'.past.length ≤ 1000) ⟨R1, none, s, rfl, f2.s0, hS.up f2 (by simp), rfl, by omega, by omega⟩ ?_ ?_⟩
    · rintro i σ H' hi ⟨R', x, ⟨snow, ot, so⟩, rfl, f, hS', htm, hl', hsum⟩
      have hne : so ≠ [] := fun z => by
        rw [z] at hl'
        have hl' : 0 = s.fut.length - i := hl'
        omega
      obtain ⟨q, y, rfl⟩ := snoc_of hne
      have hl' : (q ++ [y]).length = s.fut.length - i := hl'
      rw [List.length_append] at hl'
      have hl' : q.length + 1 = s.fut.length - i := hl'
      have hsum : (q ++ [y]).length + ot.length ≤ 1000 := hsum
      rw [List.length_append] at hsum
      have hsum : q.length + 1 + ot.length ≤ 1000 := hsum
      obtain ⟨nv2, ov2, sv2, z1, z2, z4, z3⟩ := hS'.ob
      have ra' := hS'.fr
      obtain ⟨oa, ovs, rfl, o1, o2, o3⟩ := z4.isL K f.rh
      have ol := o2.length
      rw [List.length_map] at ol
      have ol : ovs.length = ot.length := ol
      refine ⟨_, rfl, ?_⟩
      refine ⟨_, rfl, a, _, rfl, dgetS z1 (stK_past _ _ _), _, rfl, a, _, rfl, dgetS z1 (stK_now _ _ _), by show 1 ≤ sizeLine; omega, fun x1 hx1 => ?_⟩
      obtain ⟨R2, g2, t2, m2⟩ := nw_lst f.rh (.cons z2 .nil) hx1
      obtain ⟨_, xs1, e, w1, w2, _⟩ := t2.isL K g2.rh
      cases e
      have lx : _ = 1 := w2.length
      refine ⟨oa, x1, _, _, rfl, rfl, g2.rh _ _ (m2 _ _ o1), g2.rh _ _ w1, by omega, fun y1 hy1 => ?_⟩
      obtain ⟨R3, g3, t3, m3⟩ := nw_lst g2.rh ((o2.up m2).app w2) hy1
      have g23 := g2.trans g3
      have z13 := g23.kp _ _ z1 (by simp)
      have ra3 := g23.nr ra' z1
      have f4 := (f.trans (g23.s0 (M := [a]))).put (o := .dK (stK nv2 (.ref y1) sv2)) ra3 (.inl (by simp))
      refine ⟨_, rfl, _, rfl, a, _, rfl, dputS z13 (stK_len _ _ _) (stK_ppast _ _ _ _), ?_⟩
      have e4 : upd (upd (upd H' x1 (.lst [nv2])) y1 (.lst (ovs ++ xs1))) a (.dK (stK nv2 (.ref y1) sv2)) a = some (.dK (stK nv2 (.ref y1) sv2)) := upd_same
      generalize upd (upd (upd H' x1 (.lst [nv2])) y1 (.lst (ovs ++ xs1))) a (.dK (stK nv2 (.ref y1) sv2)) = H4 at f4 e4 ⊢
      have z33 := z3.up g23.rr
      obtain ⟨sb, svs2, rfl, b1, b2, b3⟩ := z33.isL K f4.rh
      have b2' : AtL R3 svs2 (q.map Net.d ++ [y.d]) := by
        have b2 : AtL R3 svs2 ((q ++ [y]).map Net.d) := b2
        rw [List.map_append] at b2
        exact b2
      obtain ⟨ws, yv, rfl, b4, b5⟩ := b2'.last
      refine ⟨_, rfl, _, rfl, a, _, rfl, dgetS e4 (stK_fut _ _ _), _, rfl, sb, _, _, yv, rfl, rfl, b3, atI_last ws yv, _, rfl, a, _, rfl, dputS e4 (stK_len _ _ _) (stK_pnow _ _ _ _), ?_⟩
      have f5 := f4.put (o := .dK (stK yv (.ref y1) (.ref sb))) ra3 (.inl (by simp))
      have e5 : upd H4 a (.dK (stK yv (.ref y1) (.ref sb))) a = some (.dK (stK yv (.ref y1) (.ref sb))) := upd_same
      generalize upd H4 a (.dK (stK yv (.ref y1) (.ref sb))) = H5 at f5 e5 ⊢
      refine ⟨_, rfl, _, rfl, a, _, rfl, dgetS e5 (stK_fut _ _ _), _, rfl, _, rfl, sb, _, rfl, SqL.of (f5.rh _ _ b1), fun p hp => ?_⟩
      rw [cutV_last]
      obtain ⟨R6, g6, t6, m6⟩ := nw_lst f5.rh b4 hp
      have e6 := g6.kp _ _ e5 (by simp)
      have ra6 := g6.nr ra3 e5
      refine ⟨_, rfl, _, rfl, a, _, rfl, dputS e6 (stK_len _ _ _) (stK_pfut _ _ _ _), ?_⟩
      have f6 := (f5.trans (g6.s0 (M := [a]))).put (o := .dK (stK yv (.ref y1) (.ref p))) ra6 (.inl (by simp))
      have at1 : At R6 (.ref p) (.list (q.map Net.d)) := t6
      have at2 : At R6 (.ref y1) (.list ((ot ++ [snow]).map Net.d)) := by
        rw [List.map_append]
        exact t3.up m6
      refine ⟨R6, _, ⟨y, ot ++ [snow], q⟩, rfl, f6, ⟨ra6, _, _, _, upd_same, b5.up m6, at2, at1⟩, ?_, ?_, ?_⟩
      · show (timesL _ i s).bind _ = _
        rw [htm]
        show LS.re _ = _
        exact LS.re_eq
      · show q.length = _
        omega
      · show q.length + (ot ++ [snow]).length ≤ 1000
        rw [List.length_append]
        show q.length + (ot.length + 1) ≤ 1000
        omega
    · rintro σ H' ⟨R', x, s', rfl, f, hS', htm, _⟩
      exact q3 n rfl (by omega) hle s' R' H' htm f hS'
end
end Ld
/-! Gt: back. -/
namespace Ld
open PySem PySem.Spec L2 PyProof.Rows
def lenS (u : Bool) (S : Stt) : Nat := if u = true then S.p.length else S.f.length
def Stt.go (u : Bool) (S : Stt) : Option Stt := if u = true then S.un else S.re
theorem times_go (u : Bool) (S : Stt) : ∀ k, times (Stt.go u) k S = times (if u = true then Stt.un else Stt.re) k S := by
  cases u <;> exact fun k => rfl
def spBack (K : PySem.W.Frag) : Sp := fun vs H Q E => ∃ (R : Hp) (b l : Addr) (S : Stt) (m : Nat) (u : Bool) (v : V) (d : PyData) (way : Int), vs = [.ref b, wordV u, v, .int way] ∧ Same R H ∧ BookAt K R H b l S m ∧ m < 1000 ∧ At R v d ∧ okS d = true ∧ OkR d ∧ (way = 0 → d.shown = "1" → d = .int 1) ∧
  (badC d = true → ER K [] R H E (.range d)) ∧ (∀ k : Nat, d = .int k → 1 ≤ k → lenS u S < k → ER K [] R H E (backE u)) ∧
  (∀ k : Nat, d = .int k → 1 ≤ k → k ≤ lenS u S → ∀ S' R' H', times (Stt.go u) k S = some S' → Fx [l] R H R' H' → BookAt K R' H' b l S' (m + 1) → Q .non H')
section
variable {P : Program} {w : World} {K : PySem.W.Frag} {mg : Str → Option Value} {base : Heap}
theorem ok_lback (PF : PP P) (Z : Tz w K mg) : FnG P w K mg base (L2N.CX P w) 7 (a_lback K) (f_lback K) P_lback (spBack K) := by
  have T := Z.t
  refine FunD.okG T.d_lback sc_lback (fun vs H Q E h => by obtain ⟨_, _, _, _, _, _, _, _, _, rfl, _⟩ := h; rfl) (fun cdv A outer s H vs Q E hr hG h => ?_)
  have hu := hu_of hr
  have hu2 := hr.units
  have hu3 : (A.deeper (envOfC "_law_back" (defScope st_lback) s.heap.objs.size (a_lback K) cdv)).units + 65 < cLine := by have := hr.un; omega
  have nd := sc_lback.nd
  have hsz := sizeLine_eq
  obtain ⟨uds, du0, bu0⟩ := u0 T
  obtain ⟨rds, dr0, br0⟩ := r0 T
  refine ⟨_, (pss_cons (ps_if (PW.pt (pw_and (pt_cmpR op_eq (pv 3) pe_int (nomark _)) (pw_and1 (pt_cmpR op_eq (pe_callB (call_reprD Z hG hu3) (by rfl) T.f_repr boot_repr (pa_cons (pv 2) pa_nil)) pe_str (nomark _)))))
      (pss_one (ps_ret (pe_ifExp (pt_cmpR op_eq (pv 1) pe_str (nomark _)) (pe_meth0 (pv 0) T.clB T.m_B_undo (ok_B_undo PF Z) (hr.mono (by decide)) bu0 du0 (L2N.passes_call (W := fun cls d _ H => E cls d H) (L2N.takes_of rfl rfl rfl rfl) (fun _ _ _ _ h => h))) (pe_meth0 (pv 0) T.clB T.m_B_redo (ok_B_redo PF Z) (hr.mono (by decide)) br0 dr0 (L2N.passes_call (W := fun cls d _ H => E cls d H) (L2N.takes_of rfl rfl rfl rfl) (fun _ _ _ _ h => h))))))
      pss_nil)
    (pss_cons (ps_if (pt_cmpR op_eq (pv 3) pe_int (nomark _))
      (pss_one (ps_ret (pe_ifExp (pt_cmpR op_eq (pv 1) pe_str (nomark _)) (pe_meth (pv 0) T.clB T.m_B_undo (ok_B_undo PF Z) (hr.mono (by decide)) (u1 T) .nil (L2N.passes_call (W := fun cls d _ H => E cls d H) (L2N.takes_of rfl rfl rfl rfl) (fun _ _ _ _ h => h)) (pa_cons (pv 2) pa_nil)) (pe_meth (pv 0) T.clB T.m_B_redo (ok_B_redo PF Z) (hr.mono (by decide)) (r1 T) .nil (L2N.passes_call (W := fun cls d _ H => E cls d H) (L2N.takes_of rfl rfl rfl rfl) (fun _ _ _ _ h => h)) (pa_cons (pv 2) pa_nil)))))
      pss_nil)
    (pss_one (ps_ret (pe_ifExp (pt_cmpR op_eq (pv 1) pe_str (nomark _)) (pe_methK0 (pv 0) T.clB T.m_B_undo (ok_B_undo PF Z) (hr.mono (by decide)) (uK T) (L2N.passes_call (W := fun cls d _ H => E cls d H) (L2N.takes_of rfl rfl rfl rfl) (fun _ _ _ _ h => h)) (pk_cons (pv 2) pk_nil)) (pe_methK0 (pv 0) T.clB T.m_B_redo (ok_B_redo PF Z) (hr.mono (by decide)) (rK T) (L2N.passes_call (W := fun cls d _ H => E cls d H) (L2N.takes_of rfl rfl rfl rfl) (fun _ _ _ _ h => h)) (pk_cons (pv 2) pk_nil))))))), ?_⟩
  obtain ⟨R, b, l, S, m, u, v, d, way, rfl, k, hb, hm, hv, od, rd, hone, q1, q2, q3⟩ := h
  obtain ⟨dx, n, xs, ds, h1, h2, h3, h4, h5⟩ := hb.ob
  have hob := k _ _ h1
  have call : ∀ v' d', At R v' d' → d' = d → okS d' = true → spU K (if u = true then Stt.un else Stt.re) (fun S => lenS u S) (backE u) [.ref b, v'] H Q E := by
    rintro v' d' hv' rfl od'
    refine ⟨R, b, l, S, m, v', d', rfl, k, hb, hm, hv', od', q1, q2, fun j e h1 h2 S' R' H' ht f hB => q3 j e h1 h2 S' R' H' ?_ f hB⟩
    rw [times_go]
    exact ht
  have plain := call v d hv rfl od
  -- the way to call
  cases u with
  | true =>
    refine ⟨_, rfl, rfl, _, rfl, ?_⟩
    refine iteB (fun hw => ?_) (fun hw => ?_)
    · skip
      refine ⟨_, rfl, rfl, _, rfl, ?_⟩
      refine iteB (fun _ => ?_) (fun _ => ?_)
      · skip
        refine ⟨_, rfl, rfl, _, rfl, ?_⟩
        refine iteB (fun h => absurd h (by show ¬ decide (V.str "undo" = V.str "undo") = false; decide)) (fun _ => ?_)
        exact ⟨_, rfl, b, dx, _, rfl, hob, rfl, _, rfl, rfl, plain⟩
      · skip
        refine ⟨_, rfl, rfl, _, rfl, ?_⟩
        refine iteB (fun h => absurd h (by show ¬ decide (V.str "undo" = V.str "undo") = false; decide)) (fun _ => ?_)
        exact ⟨_, rfl, b, dx, _, rfl, hob, rfl, _, rfl, plain⟩
    · have hw : way = 0 := V.int.inj (of_decide_eq_true hw)
      refine ⟨_, rfl, R, v, d, rfl, k, hv, rd, rfl, _, rfl, ?_⟩
      refine iteB (fun hs => ?_) (fun hs => ?_)
      · skip
        refine ⟨_, rfl, rfl, _, rfl, ?_⟩
        refine iteB (fun _ => ?_) (fun _ => ?_)
        · skip
          refine ⟨_, rfl, rfl, _, rfl, ?_⟩
          refine iteB (fun h => absurd h (by show ¬ decide (V.str "undo" = V.str "undo") = false; decide)) (fun _ => ?_)
          exact ⟨_, rfl, b, dx, _, rfl, hob, rfl, _, rfl, rfl, plain⟩
        · skip
          refine ⟨_, rfl, rfl, _, rfl, ?_⟩
          refine iteB (fun h => absurd h (by show ¬ decide (V.str "undo" = V.str "undo") = false; decide)) (fun _ => ?_)
          exact ⟨_, rfl, b, dx, _, rfl, hob, rfl, _, rfl, plain⟩
      · have hs : d.shown = "1" := V.str.inj (of_decide_eq_true hs)
        have hd := hone hw hs
        refine ⟨_, rfl, rfl, _, rfl, ?_⟩
        refine iteB (fun h => absurd h (by show ¬ decide (V.str "undo" = V.str "undo") = false; decide)) (fun _ => ?_)
        exact ⟨_, rfl, b, dx, _, rfl, hob, rfl, call (.int 1) (.int 1) (.int 1) hd.symm rfl⟩
  | false =>
    refine ⟨_, rfl, rfl, _, rfl, ?_⟩
    refine iteB (fun hw => ?_) (fun hw => ?_)
    · skip
      refine ⟨_, rfl, rfl, _, rfl, ?_⟩
      refine iteB (fun _ => ?_) (fun _ => ?_)
      · skip
        refine ⟨_, rfl, rfl, _, rfl, ?_⟩
        refine iteB (fun _ => ?_) (fun h => absurd h (by show ¬ decide (V.str "redo" = V.str "undo") = true; decide))
        exact ⟨_, rfl, b, dx, _, rfl, hob, rfl, _, rfl, rfl, plain⟩
      · skip
        refine ⟨_, rfl, rfl, _, rfl, ?_⟩
        refine iteB (fun _ => ?_) (fun h => absurd h (by show ¬ decide (V.str "redo" = V.str "undo") = true; decide))
        exact ⟨_, rfl, b, dx, _, rfl, hob, rfl, _, rfl, plain⟩
    · have hw : way = 0 := V.int.inj (of_decide_eq_true hw)
      refine ⟨_, rfl, R, v, d, rfl, k, hv, rd, rfl, _, rfl, ?_⟩
      refine iteB (fun hs => ?_) (fun hs => ?_)
      · skip
        refine ⟨_, rfl, rfl, _, rfl, ?_⟩
        refine iteB (fun _ => ?_) (fun _ => ?_)
        · skip
          refine ⟨_, rfl, rfl, _, rfl, ?_⟩
          refine iteB (fun _ => ?_) (fun h => absurd h (by show ¬ decide (V.str "redo" = V.str "undo") = true; decide))
          exact ⟨_, rfl, b, dx, _, rfl, hob, rfl, _, rfl, rfl, plain⟩
        · skip
          refine ⟨_, rfl, rfl, _, rfl, ?_⟩
          refine iteB (fun _ => ?_) (fun h => absurd h (by show ¬ decide (V.str "redo" = V.str "undo") = true; decide))
          exact ⟨_, rfl, b, dx, _, rfl, hob, rfl, _, rfl, plain⟩
      · have hs : d.shown = "1" := V.str.inj (of_decide_eq_true hs)
        have hd := hone hw hs
        refine ⟨_, rfl, rfl, _, rfl, ?_⟩
        refine iteB (fun _ => ?_) (fun h => absurd h (by show ¬ decide (V.str "redo" = V.str "undo") = true; decide))
        exact ⟨_, rfl, b, dx, _, rfl, hob, rfl, call (.int 1) (.int 1) (.int 1) hd.symm rfl⟩
end
end Ld
/-! Gu: equal replies; what a reply's lambda asks; defs that make lambdas. -/
namespace Ld
open PySem PySem.Spec L2 PyProof.Rows
/-! ### two equal sequences of texts and Nones -/
def plainV : V → Bool
  | .str _ => true
  | .non => true
  | _ => false
def rEqSame (K : PySem.W.Frag) : R2 := fun x y H Q => ∃ (p r : Addr) (xs : List V), x = .ref p ∧ y = .ref r ∧ ((SqT K H p xs ∧ SqT K H r xs) ∨ (SqL K H p xs ∧ SqL K H r xs)) ∧ xs.all plainV = true ∧ Q (.bl true) H
theorem vals_get : ∀ {xs : List V} {us : List Value} {i : Nat} {u : Value}, Vals xs us → us[i]? = some u → ∃ x, xs[i]? = some x ∧ RelV x u
  | [], [], _, _, _, e => by simp at e
  | _ :: _, _ :: _, 0, _, h, e => by
    cases h with
    | cons x y => exact ⟨_, rfl, by simp at e; rw [← e]; exact x⟩
  | _ :: _, _ :: _, i + 1, _, h, e => by
    cases h with
    | cons x y =>
      obtain ⟨d, e1, e2⟩ := vals_get (i := i) y (by simpa using e)
      exact ⟨d, by simpa using e1, e2⟩
section
variable {X : Cx}
theorem op_eqSame (hu : X.A.units + 64 < cLine) : OpR X (compareOp .Eq) (rEqSame X.K) := by
  intro pins s σ H x y v u Q I rx ry h
  obtain ⟨p, r, xs, rfl, rfl, h, hp, q⟩ := h
  obtain rfl : v = Value.ref p := rx
  obtain rfl : u = Value.ref r := ry
  have hu1 : X.A.units < cLine := by omega
  have key : ∀ {its its2 : List Value} {A : Around}, Vals xs its → Vals xs its2 → ∀ j (h1 : j < its.toArray.size) (h2 : j < its2.toArray.size), SeqAt.EqAt A s its.toArray[j] its2.toArray[j] true := by
    intro its its2 A r1 r2 j h1 h2
    have g1 : its[j]? = some its.toArray[j] := by simp
    have g2 : its2[j]? = some its2.toArray[j] := by simp
    obtain ⟨x1, e1, b1⟩ := vals_get r1 g1
    obtain ⟨x2, e2, b2⟩ := vals_get r2 g2
    rw [e1] at e2
    cases e2
    have hx := List.all_eq_true.mp hp _ (List.mem_of_getElem? e1)
    generalize its.toArray[j] = u1 at b1
    generalize its2.toArray[j] = u2 at b2
    cases x1 with
    | str z =>
      obtain ⟨t1, rfl⟩ := b1
      obtain ⟨t2, rfl⟩ := b2
      have h := SeqAt.EqAt.str_str (A := A) (s := s) z t1 z t2
      rw [beq_self_eq_true] at h
      exact h
    | non =>
      cases b1
      cases b2
      exact SeqAt.EqAt.same _
    | _ => cases hx
  have fin : Q (.bl true) H → ∃ v' H', Inv X pins σ H' s ∧ RelV v' (.bool true) ∧ Q v' H' := fun q => ⟨.bl true, H, I, rfl, q⟩
  rcases h with ⟨h1, h2⟩ | ⟨h1, h2⟩
  · obtain ⟨its, r1, pl1, _⟩ := I.tuple h1
    obtain ⟨its2, r2, pl2, _⟩ := I.tuple h2
    have hl : its.length = its2.length := by rw [← r1.length, ← r2.length]
    refine SeqAt.RcAt.tuples (e := fun _ => true) pl1 pl2 hu1 (key r1 r2) X.prog X.w _ _ ?_
    have e : ((List.range (min its.toArray.size its2.toArray.size)).all (fun _ => true) && its.toArray.size == its2.toArray.size) = true := by
      simp [hl]
    rw [e]
    exact fin q
  · obtain ⟨its, r1, pl1, _⟩ := I.list h1
    obtain ⟨its2, r2, pl2, _⟩ := I.list h2
    have hl : its.length = its2.length := by rw [← r1.length, ← r2.length]
    refine SeqAt.RcAt.lists (e := fun _ => true) pl1.isList pl2.isList (by simp [hl]) hu1 (key r1 r2) X.prog X.w _ _ ?_
    have e : ((List.range its.toArray.size).all (fun _ => true)) = true := by simp
    rw [e]
    exact fin q
end
/-! ### a def that makes lambdas: its code object is known -/
theorem FunD.okGC {P : Program} {w : World} {K : PySem.W.Frag} {mg : Str → Option Value} {base : Heap} {CX : CXT} {k : Nat} {fd : FuncData} {ps : List Str} {sp : Sp} {N : List Str} {x qual : Str} {params : Arguments} {body : List Stmt} {scope : Scope} {dvs : List V} {kws : List (Str × V)} (p : He.Defn) (F : FunD K x qual params body scope dvs kws (He.fAd K p) fd) (S : FnScope N ps scope) (len : ∀ vs H Q E, sp vs H Q E → vs.length = ps.length)
    (hbody : ∀ (A : Around) (outer : List Env) (s : Shared) (H : Hp) (vs : List V) (Q : VK) (E : XK), Room k (A.deeper (envOfC qual scope s.heap.objs.size (He.fAd K p) (.ref (He.cT K p).1))) → A.guards = some [] → sp vs H Q E →
      ∃ t, PSs (cxOf CX P w K mg base N qual scope (He.fAd K p) (.ref (He.cT K p).1) A outer s H E) body t ∧ t { nx := fun _ H' => Q .non H', rt := Q } (start N vs) H) : FnG P w K mg base CX (k + 1) (He.fAd K p) fd ps sp := by
  obtain ⟨oc, od, dV, kV, doc, pm, an, cdv, ct, osl, rfl, lk, hcd, _, _⟩ := F.ex
  obtain ⟨c, rfl⟩ := He.codeIn_ref hcd
  have e : (He.cT K p).1 = c := He.codeOf_eq lk rfl
  rw [e] at hbody
  exact ⟨len, fun A outer s H args us vs Q E hr hg e0 hb r hsp => LamX.run_ofS lk hcd S hr e0 hb r (len _ _ _ _ hsp) fun hr' => hbody A outer s H vs Q E hr' hg hsp⟩
/-! ### readings may be weakened -/
def MonoA (t : TA) : Prop := ∀ (σ : L2.St) (H : Hp) (Q Q' : List V → Hp → Prop), t σ H Q → (∀ vs H, Q vs H → Q' vs H) → t σ H Q'
def MonoT (t : TE) : Prop := ∀ (σ : L2.St) (H : Hp) (Q Q' : VK), t σ H Q → (∀ v H, Q v H → Q' v H) → t σ H Q'
def MonoS (sp : Sp) : Prop := ∀ (vs : List V) (H : Hp) (Q Q' : VK) (E E' : XK), sp vs H Q E → (∀ v H, Q v H → Q' v H) → (∀ cls d H, E cls d H → E' cls d H) → sp vs H Q' E'
theorem mono_var (i : Nat) : MonoT (tVar i) := fun σ H Q Q' h k => by
  obtain ⟨v, e, h⟩ := h
  exact ⟨v, e, k v H h⟩
theorem mono_c (v : V) : MonoT (tC v) := fun σ H Q Q' h k => k v H h
theorem mono_nil : MonoA tNil := fun σ H Q Q' h k => k [] H h
theorem mono_cons {t : TE} {ts : TA} (h1 : MonoT t) (h2 : MonoA ts) : MonoA (tCons t ts) := fun σ H Q Q' h k => h1 σ H _ _ h fun v H1 h => h2 σ H1 _ _ h fun vs H2 h => k _ _ h
theorem mono_call {sp : Sp} {t : TA} (h1 : MonoS sp) (h2 : MonoA t) : MonoE (fun E => tCall sp [] E t) := fun E E' σ H Q Q' h he hq => h2 σ H _ _ h fun vs H1 h => h1 _ _ _ _ _ _ h hq he
theorem ER.mono {K : PySem.W.Frag} {M : List Addr} {R H : Hp} {E E' : XK} {e : Err} (h : ER K M R H E e) (he : ∀ cls d H, E cls d H → E' cls d H) : ER K M R H E' e := by
  unfold ER at h ⊢
  split at h
  · exact fun R' H' dd v f a b => he _ _ _ (h R' H' dd v f a b)
  · exact fun R' H' f => he _ _ _ (h R' H' f)
theorem mono_make (K : PySem.W.Frag) : MonoS (spMake K) := by
  rintro vs H Q Q' E E' ⟨R, b, l, lv, S, m, cs, L, e0, h1, h2, h3, h4, h5, h6, h7, h8, h9, h10, h11, h12⟩ hq he
  exact ⟨R, b, l, lv, S, m, cs, L, e0, h1, h2, h3, h4, h5, h6, h7, h8, h9, h10, fun e h => (h11 e h).mono he, fun L' h R' H' n f a b => hq _ _ (h12 L' h R' H' n f a b)⟩
theorem mono_back (K : PySem.W.Frag) : MonoS (spBack K) := by
  rintro vs H Q Q' E E' ⟨R, b, l, S, m, u, v, d, way, h1, h2, h3, h4, h5, h6, h7, h8, h9, h10, h11⟩ hq he
  exact ⟨R, b, l, S, m, u, v, d, way, h1, h2, h3, h4, h5, h6, h7, h8, fun h => (h9 h).mono he, fun k h a b => (h10 k h a b).mono he, fun k h a b S' R' H' t f g => hq _ _ (h11 k h a b S' R' H' t f g)⟩
theorem mono_undo (K : PySem.W.Frag) (g : Stt → Option Stt) (len : Stt → Nat) (err : Err) : MonoS (spU K g len err) := by
  rintro vs H Q Q' E E' ⟨R, b, l, S, m, v, d, h1, h2, h3, h4, h5, h6, h7, h8, h9⟩ hq he
  exact ⟨R, b, l, S, m, v, d, h1, h2, h3, h4, h5, h6, fun h => (h7 h).mono he, fun k h a b => (h8 k h a b).mono he, fun k h a b S' R' H' t f g => hq _ _ (h9 k h a b S' R' H' t f g)⟩
/-! ### the reply -/
theorem BookAt.move {K : PySem.W.Frag} {R H R' H' : Hp} {b l : Addr} {S : Stt} {m : Nat} (h : BookAt K R H b l S m) (k : Same R R') (hr : R' l = none) (hl : ∀ o, H l = some o → H' l = some o) : BookAt K R' H' b l S m := by
  obtain ⟨dx, v, xs, ds, h1, h2, h3, h4, h5⟩ := h.ob
  have up : ∀ {vs : List V} {ds : List Deed}, DeedsAt R vs ds → DeedsAt R' vs ds := by
    intro vs ds h
    induction h with
    | nil => exact .nil
    | cons x _ ih =>
      refine .cons ?_ ih
      rename_i d _ _
      cases d with
      | chg n => obtain ⟨t, c, r, e, a, b⟩ := x; exact ⟨t, c, r, e, k _ _ a, k _ _ b⟩
      | undo j => obtain ⟨t, e, a, b⟩ := x; exact ⟨t, e, k _ _ a, b⟩
      | redo j => obtain ⟨t, e, a, b⟩ := x; exact ⟨t, e, k _ _ a, b⟩
  exact ⟨hr, dx, v, xs, ds, k _ _ h1, hl _ h2, up h3, h4, h5⟩
theorem BookAt.mono {K : PySem.W.Frag} {R H : Hp} {b l : Addr} {S : Stt} {m n : Nat} (h : BookAt K R H b l S m) (hm : m ≤ n) : BookAt K R H b l S n := by
  obtain ⟨dx, v, xs, ds, h1, h2, h3, h4, h5⟩ := h.ob
  exact ⟨h.rl, dx, v, xs, ds, h1, h2, h3, Nat.le_trans h4 hm, h5⟩
theorem er_ech {K : PySem.W.Frag} {R H : Hp} {Q : VK} {e : Err} (ok : ∀ f d, e.fd = some (f, d) → OkR d) (q : ∀ R' H' v, Fx [] R H R' H' → At R' v (faultD e) → Q v H') : ER K [] R H (EchR K Q) e := by
  unfold ER
  cases he : e.fd with
  | none =>
    refine fun R' H' f => ⟨R', e, rfl, f.rh, ?_, fun R2 H2 v f2 t => q R2 H2 v (f.trans f2) t⟩
    unfold FieldAt
    rw [he]
  | some p =>
    obtain ⟨f, d⟩ := p
    refine fun R' H' dd v g h1 h2 => ⟨R', e, rfl, g.rh, ?_, fun R2 H2 v f2 t => q R2 H2 v (g.trans f2) t⟩
    unfold FieldAt
    rw [he]
    exact ⟨dd, v, rfl, h1, h2, ok f d he⟩
theorem rep_gen {K : PySem.W.Frag} {tl : XK → Hp → VK → Prop} {R H : Hp} {Q : VK} {b l : Addr} {S : Stt} {m : Nat} {B : Err → Prop} {G : Hp → Stt → Prop} (k : Same R H) (hb : BookAt K R H b l S m) (hG : ∀ R R' S, Same R R' → G R S → G R' S)
    (call : ∀ (R1 H1 : Hp) (E : XK) (Q' : VK), Fx [] R H R1 H1 → (∀ e, B e → ER K [] R1 H1 E e) → (∀ S' R' H', G R' S' → Fx [l] R1 H1 R' H' → BookAt K R' H' b l S' (m + 1) → Q' .non H') → tl E H1 Q')
    (okB : ∀ e, B e → ∀ f d, e.fd = some (f, d) → OkR d) (hE : ∀ e, B e → ∀ R' H' v, Fx [] R H R' H' → At R' v (faultD e) → Q v H')
    (hS : ∀ S' R' H' x, G R' S' → Fx [l] R H R' H' → BookAt K R' H' b l S' (m + 1) → At R' (.ref x) (.list [.none]) → Q (.ref x) H') : TRep K tl H Q := by
  intro x hx
  have f0 := (Fx.refl (M := []) k).newH (o := .lst []) hx
  have rx : R x = none := same_none k hx
  have ex : upd H x (.lst []) x = some (.lst []) := upd_same
  obtain ⟨dx, v, xs, ds, h1, h2, _⟩ := hb.ob
  have nlx : l ≠ x := ne_of_none h2 hx
  refine call R (upd H x (.lst [])) _ _ f0 (fun e he => er_ech (okB e he) fun R' H' v f t => hE e he R' H' v (f0.trans f) t) fun S' R' H' g f hb' => ⟨f.kp _ _ ex (by simp [nlx.symm]), ?_⟩
  have rx' : R' x = none := f.nr rx ex
  have f1 : Fx [l] R H R' H' := f0.s0.trans f
  have f2 : Fx [l] R H R' (upd H' x (.lst [.non])) := f1.put rx' (.inr hx)
  have f3 : Fx [l] R H (upd R' x (.lst [.non])) (upd H' x (.lst [.non])) := f2.freeze upd_same hx
  have kk : Same R' (upd R' x (.lst [.non])) := fun a o e => by rw [upd_ne (fun z => by rw [z, rx'] at e; cases e)]; exact e
  refine hS S' _ _ x (hG _ _ _ kk g) f3 (hb'.move kk ?_ fun o e => ?_) (.lst upd_same (.cons .non .nil))
  · rw [upd_ne nlx]; exact hb'.rl
  · rw [upd_ne nlx]; exact e
end Ld
/-! Gv: errors' values can be told; the end of a move. -/
namespace Ld
open PySem PySem.Spec L2 PyProof.Rows
theorem after_okR {L : Net} {m : Nat} {c : Chg} (g : GL L m) (oc : c.ok) : match after L c with
    | .inl e => ∀ f d, e.fd = some (f, d) → OkR d
    | .inr (a, b) => (∀ d ∈ a, OkR d) ∧ (∀ d ∈ b, OkR d) := by
  have rN := okR_strs g.f.nm
  have rE := okR_edgs g.f.ed
  have rv := fun d (h : d ∈ c.ps) => okR_val (Chg.ok_ps oc d h)
  have one : ∀ {x : PyData} {f : Str} {d : PyData}, OkR x → (some (f, x) : Option (Str × PyData)) = some (f, d) → OkR d := fun h e => by cases e; exact h
  cases c with
  | node d =>
    refine ⟨fun x hx => ?_, rE⟩
    rcases List.mem_append.mp hx with hx | hx
    · exact rN x hx
    · rw [List.mem_singleton.mp hx]; exact rv d List.mem_cons_self
  | edge a b c l =>
    refine ⟨rN, fun x hx => ?_⟩
    rcases List.mem_append.mp hx with hx | hx
    · exact rE x hx
    · rw [List.mem_singleton.mp hx]
      exact okR_chg oc
  | drop d =>
    show match (if inS d L.ns = true then (.inr ((leftN d L.ns).map PyData.str, (leftE (leftN d L.ns) L.es).map Edg.d) : Err ⊕ (List PyData × List PyData)) else .inl (.noNode d)) with
      | .inl e => _
      | .inr (a, b) => _
    split
    · rename_i e he
      split at he
      · cases he
      · cases he
        rintro f x hx
        cases hx
        exact rv d List.mem_cons_self
    · rename_i a b he
      split at he
      · cases he
        have gl := g.f.left d
        exact ⟨okR_strs gl.nm, okR_edgs gl.ed⟩
      · cases he
  | cut d =>
    show match (if inS d (L.es.map Edg.n) = true then (.inr (L.ns.map PyData.str, (cutE d L.es).map Edg.d) : Err ⊕ (List PyData × List PyData)) else .inl (.noEdge d)) with
      | .inl e => _
      | .inr (a, b) => _
    split
    · rename_i e he
      split at he
      · cases he
      · cases he
        rintro f x hx
        cases hx
        exact rv d List.mem_cons_self
    · rename_i a b he
      split at he
      · cases he
        exact ⟨rN, okR_edgs (g.f.cut d).ed⟩
      · cases he
  | len d l =>
    show match (if inS d (L.es.map Edg.n) = true then (if isLen l = true then (.inr (L.ns.map PyData.str, (L.es.map (Edg.len (strOf d) (intOf l))).map Edg.d) : Err ⊕ (List PyData × List PyData)) else .inl (.length l)) else .inl (.noEdge d)) with
      | .inl e => _
      | .inr (a, b) => _
    split
    · rename_i e he
      split at he
      · split at he
        · cases he
        · cases he
          rintro f x hx
          cases hx
          exact rv l (.tail _ (List.mem_cons_self))
      · cases he
        rintro f x hx
        cases hx
        exact rv d List.mem_cons_self
    · rename_i a b he
      split at he
      · split at he
        · rename_i h1
          cases he
          obtain ⟨i, rfl⟩ := isLen_int h1
          exact ⟨rN, okR_edgs (g.f.len (z := strOf d) h1).ed⟩
        · cases he
      · cases he
theorem due_okR {a b : List PyData} {e : Err} (ha : ∀ d ∈ a, OkR d) (hb : ∀ d ∈ b, OkR d) (h : due a b = some e) : ∀ f d, e.fd = some (f, d) → OkR d := by
  rw [due_of] at h
  cases hw : wnode a with
  | some d =>
    rw [hw] at h
    cases h
    rintro f x hx
    cases hx
    rcases wnode_mem hw with rfl | hm
    · exact okR_unit
    · exact ha d hm
  | none =>
    rw [hw] at h
    simp only at h
    cases hwe : weGo (namL a) [] b with
    | some d =>
      rw [hwe] at h
      cases h
      rintro f x hx
      cases hx
      exact hb d (weGo_mem hwe)
    | none =>
      rw [hwe] at h
      simp only at h
      split at h
      · cases h
      · cases h
        rintro f x hx
        cases hx
        exact (rp_int (i := 10) (by decide) (by decide)).ok
theorem oneL_okR {L : Net} {m : Nat} {c : Chg} {e : Err} (g : GL L m) (oc : c.ok) (h : oneL L c = .inl e) : ∀ f d, e.fd = some (f, d) → OkR d := by
  have k := after_okR g oc
  unfold oneL at h
  split at h
  · rename_i e' he
    rw [he] at k
    cases h
    exact k
  · rename_i a b he
    rw [he] at k
    split at h
    · rename_i e' hd
      cases h
      exact due_okR k.1 k.2 hd
    · cases h
theorem foldL_okR : ∀ {cs : List Chg} {L : Net} {m : Nat} {e : Err}, GL L m → (∀ c ∈ cs, c.ok) → foldL L cs = .inl e → ∀ f d, e.fd = some (f, d) → OkR d
  | [], _, _, _, _, _, h => by cases h
  | c :: r, L, m, e, g, oc, h => by
    have h : (match oneL L c with
      | .inl e => (.inl e : Err ⊕ Net)
      | .inr L2 => foldL L2 r) = .inl e := h
    cases h1 : oneL L c with
    | inl e' =>
      rw [h1] at h
      cases h
      exact oneL_okR g (oc c List.mem_cons_self) h1
    | inr L2 =>
      rw [h1] at h
      exact foldL_okR (oneL_gl' g h1) (fun x hx => oc x (List.mem_cons_of_mem _ hx)) h
/-! ### the end of a move -/
theorem at_two {R : Hp} {v : V} {a b : Str} (h : At R v (.tuple [.str a, .str b])) : ∃ t, v = .ref t ∧ R t = some (.tup [.str a, .str b]) := by
  cases h with
  | tup e x =>
    obtain ⟨va, vb, rfl, h1, h2⟩ := x.two
    cases h1
    cases h2
    exact ⟨_, rfl, e⟩
theorem tail_ok {K : PySem.W.Frag} {P : Addr} {qn : Str} {t : XK → TE} {σ : L2.St} {R H : Hp} {Q : VK} {b l a : Addr} {S : Stt} {s : LS} {m g : Nat} {B : Err → Prop} {G : Hp → Stt → Prop} {dv : V} {oe : Option Err}
    (k : Same R H) (h1 : σ[1]? = some (some (.ref b))) (h2 : σ[2]? = some (some (.ref a))) (h5 : σ[5]? = some (some dv)) (hT : TabR R H P qn) (hb : BookAt K R H b l S m) (hm : m < 1000) (hS : StAt R H a s) (hPl : l ≠ P) (hPa : a ≠ P) (hla : a ≠ l)
    (hd : At R dv (dueD oe)) (hg : g ≤ 59) (hG : ∀ R R' S, Same R R' → G R S → G R' S)
    (call : ∀ (R1 H1 : Hp) (E : XK) (Q' : VK), Fx [P] R H R1 H1 → (∀ e, B e → ER K [] R1 H1 E e) → (∀ S' R' H', G R' S' → Fx [l] R1 H1 R' H' → BookAt K R' H' b l S' (m + 1) → Q' .non H') → t E σ H1 Q')
    (okB : ∀ e, B e → ∀ f d, e.fd = some (f, d) → OkR d) (hB : ∀ e, B e → oe = some e ∧ Rel K R S s g) (hGo : ∀ R' S', Same R R' → G R' S' → oe = none ∧ Rel K R' S' s g)
    (q : ∀ S' R' H', Fx [l, P] R H R' H' → BookAt K R' H' b l S' (m + 1) → StAt R' H' a s → Rel K R' S' s g → TabR R' H' P qn → Q (.bl true) H') :
    tAndV (tOp (rEqSame K) (tLamN K P qn t) (tOrT K (tVar 5) (tLst (tCons (tC .non) tNil)))) (tCall (spStands K) [] E0 (tCons (tVar 1) (tCons (tVar 2) tNil))) σ H Q := by
  refine ⟨R, k, hT, fun R1 H1 f1 hT1 => ?_⟩
  have hb1 := hb.up f1 (by simp [hPl])
  have hS1 := hS.up f1 (by simp [hPa])
  refine rep_gen (B := B) (G := G) f1.rh hb1 hG (fun R2 H2 E Q' f2 e2 s2 => call R2 H2 E Q' (f1.trans f2.s0) e2 s2) okB ?_ ?_
  · intro e he R2 H2 v f2 hv
    obtain ⟨rfl, hrel⟩ := hB e he
    have f12 : Fx [P] R H R2 H2 := f1.trans f2.s0
    obtain ⟨t1, rfl, e1⟩ := at_two hv
    obtain ⟨t2, rfl, e2⟩ := at_two hd
    have e2' := f12.rr _ _ e2
    refine ⟨_, h5, true, .inr (.inl ⟨_, SqT.of (f12.rh _ _ e2'), rfl⟩), ?_⟩
    refine ⟨t1, t2, _, rfl, rfl, .inl ⟨SqT.of (f12.rh _ _ e1), SqT.of (f12.rh _ _ e2')⟩, rfl, true, rfl, ?_⟩
    have hb2 := hb1.up f2 (by simp)
    refine ⟨_, h1, _, h2, R2, b, l, a, S, s, m, g, rfl, f12.rh, hb2, by omega, hS1.up f2 (by simp), hrel.up f12.rr, hg, fun R3 H3 f3 => ?_⟩
    exact q S R3 H3 ((f12.trans f3.s0).sub (by simp)) ((hb2.up f3 (by simp)).mono (Nat.le_succ _)) ((hS1.up f2 (by simp)).up f3 (by simp)) (hrel.up (f12.trans f3.s0).rr) ((hT1.up f2 (by simp)).up f3 (by simp))
  · intro S' R2 H2 x gS f2 hb2 hx
    have f12 : Fx [l, P] R H R2 H2 := (f1.sub (by simp)).trans (f2.sub (by simp))
    obtain ⟨rfl, hrel⟩ := hGo R2 S' f12.rr gS
    cases hd
    refine ⟨_, h5, false, rfl, ?_⟩
    refine ⟨by rw [sizeLine_eq]; decide, fun y hy => ?_⟩
    have f3 : Fx [] R2 H2 R2 (upd H2 y (.lst [.non])) := (Fx.refl f12.rh).newH hy
    obtain ⟨xs, rfl', ex⟩ : ∃ xs, xs = [V.non] ∧ R2 x = some (.lst xs) := by
      cases hx with
      | lst e a =>
        cases a with
        | cons a1 a2 =>
          cases a1
          cases a2
          exact ⟨_, rfl, e⟩
    subst rfl'
    refine ⟨x, y, _, rfl, rfl, .inr ⟨SqL.of (f3.rh _ _ ex), SqL.of upd_same⟩, rfl, true, rfl, ?_⟩
    have hS2 := (hS1.up f2 (by simp [hla])).up f3 (by simp)
    have hb3 := hb2.up f3 (by simp)
    refine ⟨_, h1, _, h2, R2, b, l, a, S', s, m + 1, g, rfl, f3.rh, hb3, by omega, hS2, hrel, hg, fun R4 H4 f4 => ?_⟩
    have hT2 := ((hT1.up f2 (by simp [hPl.symm])).up f3 (by simp)).up f4 (by simp)
    exact q S' R4 H4 ((f12.trans f3.s0).trans f4.s0) (hb3.up f4 (by simp)) (hS2.up f4 (by simp)) (hrel.up f4.rr) hT2
end Ld
set_option maxHeartbeats 1000000
/-! Gw: moved. -/
namespace Ld
open PySem PySem.Spec L2 PyProof.Rows
abbrev mvP : He.Defn := ("_law_moved", none)
abbrev mvQ : Str := (("_law_moved" : Str) ++ ".<locals>.") ++ "<lambda>"
theorem lamQ_cx {CX : CXT} {P : Program} {w : World} {K : PySem.W.Frag} {mg : Str → Option Value} {base : Heap} {N : List Str} {qual : Str} {scope : Scope} {f : Addr} {cdv : Value} {A : Around} {outer : List Env} {s : Shared} {H : Hp} {E : XK} : lamQ (cxOf CX P w K mg base N qual scope f cdv A outer s H E).nox = (qual ++ ".<locals>.") ++ "<lambda>" := rfl
def spMoved (K : PySem.W.Frag) : Sp := fun vs H Q _ => ∃ (R : Hp) (p : Addr) (u : Nat) (b l a : Addr) (pv_ : V) (pool : List Str) (S : Stt) (s : LS) (m g : Nat), vs = [.ref p, .ref b, .ref a, pv_] ∧ Same R H ∧ PenAt R H p u ∧ u + 300 ≤ lim ∧ BookAt K R H b l S m ∧ m < 900 ∧ StAt R H a s ∧ Rel K R S s g ∧ g + 2 ≤ 59 ∧
  At R pv_ (strsD pool) ∧ (∀ s ∈ pool, isNameS s = true) ∧ 1 ≤ pool.length ∧ pool.length ≤ 100 ∧ TabR R H (He.cT K mvP).2 mvQ ∧
  ∀ (u' : Nat) (S' : Stt) (s' : LS) (R' H' : Hp), Fx [p, l, a, (He.cT K mvP).2] R H R' H' → PenAt R' H' p u' → u' ≤ u + 60 → BookAt K R' H' b l S' (m + 1) → StAt R' H' a s' → Rel K R' S' s' (g + 2) → TabR R' H' (He.cT K mvP).2 mvQ → Q (.bl true) H'
theorem ne_obj {H : Hp} {x y : Addr} {o u : HO} (h1 : H x = some o) (h2 : H y = some u) (hne : o ≠ u) : x ≠ y := fun e => by
  rw [e, h2] at h1
  exact hne (Option.some.inj h1).symm
theorem good_of {L : Net} {m : Nat} (g : GL L m) (hm : m ≤ 100) : Good L := ⟨g.f.nm, g.f.nd, List.length_pos_iff.mpr g.ne, g.f.nl, g.f.ed, g.f.en, Nat.le_trans g.el hm, g.ft⟩

def mdL : List PyData := [.int ((10 : Int) ^ (9 : Int).toNat), .int 0, .int (-1), .bool true, .none, .str "1"]
def mdV : List V := [.int ((10 : Int) ^ (9 : Int).toNat), .int 0, .int (-1), .bl true, .non, .str "1"]
theorem at_md (R : Hp) : AtL R mdV mdL := .cons (.int _) (.cons (.int _) (.cons (.int _) (.cons (.bl _) (.cons .non (.cons (.str _) .nil)))))
/-- what may be asked of undo and redo -/
def MD (d : PyData) : Prop := d ∈ mdL ∨ ∃ n : Nat, d = .int n ∧ 1 ≤ n ∧ n ≤ 1001
structure MdOk (d : PyData) : Prop where
  s : okS d = true
  r : OkR d
  one : d.shown = "1" → d = .int 1
  b : isBtw d 1 (10 ^ 60) = !badC d
theorem md_ok {d : PyData} (h : MD d) : MdOk d := by
  have one : ∀ {i : Int}, (i = 1 ∨ (PyData.shown (.int i) == "1") = false) → PyData.shown (.int i) = "1" → PyData.int i = .int 1 := fun h e => by
    rcases h with rfl | h
    · rfl
    · rw [e] at h
      rw [beq_self_eq_true] at h
      cases h
  rcases h with h | ⟨n, rfl, h1, h2⟩
  · simp only [mdL, List.mem_cons, List.not_mem_nil, or_false] at h
    rcases h with rfl | rfl | rfl | rfl | rfl | rfl
    · exact ⟨rfl, (rp_int (by decide) (by decide)).ok, one (.inr (by decide +kernel)), by decide +kernel⟩
    · exact ⟨rfl, (rp_int (by decide) (by decide)).ok, one (.inr (by decide +kernel)), by decide +kernel⟩
    · exact ⟨rfl, (rp_int (by decide) (by decide)).ok, one (.inr (by decide +kernel)), by decide +kernel⟩
    · exact ⟨rfl, (rp_bool true).ok, fun h => absurd h (by decide +kernel), rfl⟩
    · exact ⟨rfl, rp_none.ok, fun h => absurd h (by decide +kernel), rfl⟩
    · exact ⟨by decide +kernel, ⟨rfl, by decide, by rw [sizeLine_eq]; decide +kernel⟩, fun h => absurd h (by decide +kernel), rfl⟩
  · refine ⟨rfl, (rp_int (by omega) (by omega)).ok, one ?_, ?_⟩
    · have key : ((List.range 1002).all fun k => decide (k = 1) || !(PyData.shown (.int ((k : Nat) : Int)) == "1")) = true := by decide +kernel
      have := List.all_eq_true.mp key n (List.mem_range.mpr (by omega))
      rw [Bool.or_eq_true, decide_eq_true_iff] at this
      rcases this with h | h
      · exact .inl (by omega)
      · exact .inr (by simpa using h)
    · show (decide (1 ≤ (n : Int)) && decide ((n : Int) ≤ 10 ^ 60)) = !decide ((n : Int) < 1)
      rw [decide_eq_true (show (1 : Int) ≤ n by omega), decide_eq_true (show (n : Int) ≤ 10 ^ 60 by omega), decide_eq_false (show ¬ (n : Int) < 1 by omega)]
      rfl
theorem Rel.go {K : PySem.W.Frag} {R : Hp} {m : Nat} (u : Bool) : ∀ (S : Stt) (s s' : LS), Rel K R S s m → s.go u = some s' → ∃ S', S.go u = some S' ∧ Rel K R S' s' m := by
  cases u with
  | true => exact fun S s s' r h => r.un h
  | false => exact fun S s s' r h => r.re h
theorem Rel.len {K : PySem.W.Frag} {R : Hp} {S : Stt} {s : LS} {m : Nat} (r : Rel K R S s m) (u : Bool) : lenS u S = lenL u s := by
  cases u with
  | true => exact r.p.length
  | false => exact r.f.length
theorem far_ok {K : PySem.W.Frag} {σ : L2.St} {R H : Hp} {Q : VK} {a : Addr} {s : LS} {u : Bool} (k : Same R H) (hS : StAt R H a s) (h7 : σ[7]? = some (some (wordV u))) (h2 : σ[2]? = some (some (.ref a))) (q : Q (.int (lenL u s : Nat)) H) :
    tIf (tTest (tOp rEq (tVar 7) (tC (.str "undo"))))
      (tCB (fun xs H1 Q => ∃ (p : Addr) (ys : List V), xs = [.ref p] ∧ (SqL K H1 p ys ∨ SqT K H1 p ys) ∧ Q (.int ys.length) H1) (tCons (tDGet (tVar 2) (tC (.str "past"))) tNil))
      (tCB (fun xs H1 Q => ∃ (p : Addr) (ys : List V), xs = [.ref p] ∧ (SqL K H1 p ys ∨ SqT K H1 p ys) ∧ Q (.int ys.length) H1) (tCons (tDGet (tVar 2) (tC (.str "future"))) tNil)) σ H Q := by
  obtain ⟨nv, pv_, fv, s1, s2, s3, s4⟩ := hS.ob
  cases u with
  | true =>
    obtain ⟨pa, pvs, rfl, p1, p2, p3⟩ := s3.isL K k
    have pl := p2.length
    rw [List.length_map] at pl
    refine ⟨_, h7, rfl, _, rfl, ?_⟩
    refine iteB (fun h => absurd h (by show ¬ decide (V.str "undo" = V.str "undo") = false; decide)) (fun _ => ?_)
    refine ⟨_, h2, a, _, rfl, dgetS s1 (stK_past _ _ _), pa, _, rfl, .inl p3, ?_⟩
    rw [pl]
    exact q
  | false =>
    obtain ⟨pa, pvs, rfl, p1, p2, p3⟩ := s4.isL K k
    have pl := p2.length
    rw [List.length_map] at pl
    refine ⟨_, h7, rfl, _, rfl, ?_⟩
    refine iteB (fun _ => ?_) (fun h => absurd h (by show ¬ decide (V.str "redo" = V.str "undo") = true; decide))
    refine ⟨_, h2, a, _, rfl, dgetS s1 (stK_fut _ _ _), pa, _, rfl, .inl p3, ?_⟩
    rw [pl]
    exact q
section
variable {P : Program} {w : World} {K : PySem.W.Frag} {mg : Str → Option Value} {base : Heap}
theorem ok_lmoved (PF : PP P) (Z : Tz w K mg) (TB : LamX.TabB base mg (He.cT K mvP).1 (He.cT K mvP).2) : FnG P w K mg base CX0 16 (a_lmoved K) (f_lmoved K) P_lmoved (spMoved K) := by
  have T := Z.t
  refine FunD.okGC mvP T.d_lmoved sc_lmoved (fun vs H Q E h => by obtain ⟨_, _, _, _, _, _, _, _, _, _, _, _, rfl, _⟩ := h; rfl) (fun A outer s H vs Q E hr hG h => ?_)
  have hu := hu_of hr
  have hu2 := hr.units
  have nd := sc_lmoved.nd
  have hsz := sizeLine_eq
  refine ⟨_, PSs.nox (pss_cons (ps_if (pt_cmpR op_lt (pe_call (ok_ldraw T) (hr.mono (by decide)) (by rfl) T.g_ldraw T.k_ldraw T.b_ldraw .nil pass0 (pa_cons (pv 0) (pa_cons pe_int pa_nil))) pe_int (nomark _))
      (pss_cons (ps_set (i := 4) nd rfl (Or.inr rfl) (pe_lc (own := [("_law_k", 11)]) (g := (gName 11)) (tt := tYes) (by rfl) nd (pi_range1 (by rfl) T.f_range (pa_cons (pe_call (ok_lpick T) (hr.mono (by decide)) (by rfl) T.g_lpick T.k_lpick T.b_lpick .nil pass0 (pa_cons (pv 0) (pa_cons (pe_lst (pa_cons pe_int (pa_cons pe_int (pa_cons pe_int (pa_cons pe_int (pa_cons pe_int (pa_cons pe_int pa_nil))))))) pa_nil))) pa_nil)) (blkOk_by (N := N_lmoved) (sc := defScope st_lmoved) (by decide +kernel)) (fun _ _ _ _ _ => (pg_name (i := 11) nd rfl (Or.inl rfl))) (fun _ _ _ _ _ => pts_nil) (fun _ _ _ _ _ => (pe_call (ok_lchange T) (hr.mono (by decide)) (by rfl) T.g_lchange T.k_lchange T.b_lchange .nil pass0 (pa_cons (pv 0) (pa_cons (pe_dget hu (pv 2) pe_str (fun _ _ => rfl)) (pa_cons (pv 3) pa_nil)))))))
      (pss_cons (ps_asg (pe_callG hG (ok_lchanged PF Z) (hr.mono (by decide)) (by rfl) T.g_lchanged T.k_lchanged T.b_lchanged .nil pass0 (pa_cons (pe_dget hu (pv 2) pe_str (fun _ _ => rfl)) (pa_cons (pv 4) pa_nil))) (pg_tup rfl (pgs_cons (pg_name (i := 5) nd rfl (Or.inl rfl)) (pgs_cons (pg_name (i := 6) nd rfl (Or.inl rfl)) pgs_nil))))
      (pss_cons (ps_if (pt_cmpR op_isN (pv 5) pe_non (nomark _))
        (pss_one (ps_expr (pe_call (ok_lstep T) (hr.mono (by decide)) (by rfl) T.g_lstep T.k_lstep T.b_lstep .nil pass0 (pa_cons (pv 2) (pa_cons (pv 6) pa_nil)))))
        pss_nil)
      (pss_one (ps_ret (pe_and (pe_cmpR (op_eqSame hu2) (pe_lamN (k := 12) PF Z hG (by rfl) TB (by rfl) hr (LamX.lamS_by (sc := defScope st_lmoved) (by decide +kernel)) (by rfl) (fun _ _ _ _ _ => rfl) (fun A outer s H E f c hA hr2 => (pe_call (ok_lmake PF Z) (hr2.mono (by decide)) (by rfl) T.g_lmake T.k_lmake T.b_lmake .nil (L2N.passes_call (W := fun cls d _ H => E cls d H) (L2N.takes_of rfl rfl rfl rfl) (fun _ _ _ _ h => h)) (pa_cons (pv 1) (pa_cons (pv 4) pa_nil)))) (mono_call (mono_make K) (mono_cons (mono_var 1) (mono_cons (mono_var 4) mono_nil)))) (pe_orT (pv 5) (pe_one (pe_lst (pa_cons pe_non pa_nil)))) (nomark _)) (pe_one (pe_callG hG (ok_lstands PF Z) (hr.mono (by decide)) (by rfl) T.g_lstands T.k_lstands T.b_lstands .nil pass0 (pa_cons (pv 1) (pa_cons (pv 2) pa_nil))))))))))
      pss_nil)
    (pss_cons (ps_asg (pe_tup (pa_cons (pe_call (ok_lpick T) (hr.mono (by decide)) (by rfl) T.g_lpick T.k_lpick T.b_lpick .nil pass0 (pa_cons (pv 0) (pa_cons (pe_lst (pa_cons pe_str (pa_cons pe_str (pa_cons pe_str pa_nil)))) pa_nil))) (pa_cons (pe_call (ok_ldraw T) (hr.mono (by decide)) (by rfl) T.g_ldraw T.k_ldraw T.b_ldraw .nil pass0 (pa_cons (pv 0) (pa_cons pe_int pa_nil))) pa_nil))) (pg_tup rfl (pgs_cons (pg_name (i := 7) nd rfl (Or.inr rfl)) (pgs_cons (pg_name (i := 8) nd rfl (Or.inr rfl)) pgs_nil))))
    (pss_cons (ps_set (i := 9) nd rfl (Or.inl rfl) (pe_ifExp (pt_cmpR op_eq (pv 7) pe_str (nomark _)) (pe_callB call_len_seq (by rfl) T.f_len boot_len (pa_cons (pe_dget hu (pv 2) pe_str (fun _ _ => rfl)) pa_nil)) (pe_callB call_len_seq (by rfl) T.f_len boot_len (pa_cons (pe_dget hu (pv 2) pe_str (fun _ _ => rfl)) pa_nil))))
    (pss_cons (ps_set (i := 10) nd rfl (Or.inr rfl) (pe_call (ok_lpick T) (hr.mono (by decide)) (by rfl) T.g_lpick T.k_lpick T.b_lpick .nil pass0 (pa_cons (pv 0) (pa_cons (pe_lst (pa_cons pe_int (pa_cons pe_int (pa_cons pe_int (pa_cons pe_int (pa_cons (pe_callB (call_max2 rfl) (by rfl) T.f_max boot_max (pa_cons pe_int (pa_cons (pv 9) pa_nil))) (pa_cons (pe_op op_add (pv 9) pe_int) (pa_cons (pe_call (ok_lpick T) (hr.mono (by decide)) (by rfl) T.g_lpick T.k_lpick T.b_lpick .nil pass0 (pa_cons (pv 0) (pa_cons (pe_lst (pa_cons (pe_op op_pow pe_int pe_int) (pa_cons pe_int (pa_cons (pe_un un_neg pe_int) (pa_cons pe_bl (pa_cons pe_non (pa_cons pe_str pa_nil))))))) pa_nil))) pa_nil)))))))) pa_nil))))
    (pss_cons (ps_set (i := 5) nd rfl (Or.inl rfl) (pe_callG hG (ok_ldue_back PF Z) (hr.mono (by decide)) (by rfl) T.g_ldue_back T.k_ldue_back T.b_ldue_back .nil pass0 (pa_cons (pv 2) (pa_cons (pv 7) (pa_cons (pv 10) pa_nil)))))
    (pss_one (ps_ret (pe_and (pe_cmpR (op_eqSame hu2) (pe_lamN (k := 12) PF Z hG (by rfl) TB (by rfl) hr (LamX.lamS_by (sc := defScope st_lmoved) (by decide +kernel)) (by rfl) (fun _ _ _ _ _ => rfl) (fun A outer s H E f c hA hr2 => (pe_callG hA (ok_lback PF Z) (hr2.mono (by decide)) (by rfl) T.g_lback T.k_lback T.b_lback .nil (L2N.passes_call (W := fun cls d _ H => E cls d H) (L2N.takes_of rfl rfl rfl rfl) (fun _ _ _ _ h => h)) (pa_cons (pv 1) (pa_cons (pv 7) (pa_cons (pv 10) (pa_cons (pv 8) pa_nil)))))) (mono_call (mono_back K) (mono_cons (mono_var 1) (mono_cons (mono_var 7) (mono_cons (mono_var 10) (mono_cons (mono_var 8) mono_nil)))))) (pe_orT (pv 5) (pe_one (pe_lst (pa_cons pe_non pa_nil)))) (nomark _)) (pe_one (pe_callG hG (ok_lstands PF Z) (hr.mono (by decide)) (by rfl) T.g_lstands T.k_lstands T.b_lstands .nil pass0 (pa_cons (pv 1) (pa_cons (pv 2) pa_nil)))))))))))), ?_⟩
  rw [lamQ_cx]
  obtain ⟨R, p, u, b, l, a, pv_, pool, S, s, m, g, rfl, k, hp, hu0, hb, hm, hS, hrel, hg, hpo, gpo, hpl, hpl2, hT, q⟩ := h
  have hu0 : u + 300 ≤ 1000000000 := hu0
  obtain ⟨pc, pcs, pl0, ep, _, _⟩ := hp.ob
  obtain ⟨bdx, bn, bxs, bds, b1, b2, b3, b4, b5⟩ := hb.ob
  obtain ⟨nv, pv2, fv, s1, s2, s3, s4⟩ := hS.ob
  obtain ⟨tps, t1, _⟩ := hT.ob
  have npl : p ≠ l := ne_obj ep b2 (by simp [penO])
  have npa : p ≠ a := ne_obj ep s1 (by simp [penO, stK])
  have npP : p ≠ (He.cT K mvP).2 := ne_obj ep t1 (by simp [penO])
  have nla : l ≠ a := ne_obj b2 s1 (by simp)
  have nlP : l ≠ (He.cT K mvP).2 := ne_obj b2 t1 (by simp)
  have naP : a ≠ (He.cT K mvP).2 := ne_obj s1 t1 (by simp)
  have hblen := hb.len
  have rp_ := hrel.p.length
  have rf_ := hrel.f.length
  refine ⟨_, rfl, R, p, u, 8, rfl, k, hp, by decide, by decide, by show u ≤ 1000000000; omega, fun j u1 H1 j0 j1 hu1 hp1 f1 => ?_⟩
  refine ⟨_, _, rfl, rfl, _, rfl, ?_⟩
  refine iteB (fun hj => ?_) (fun hj => ?_)
  · -- undo, redo
    refine ⟨_, rfl, by show 3 ≤ sizeLine; omega, fun L hL => ?_⟩
    have f2 := f1.newH (o := .lst [.str "undo", .str "undo", .str "redo"]) hL
    have hp2 := hp1.new (o := .lst [.str "undo", .str "undo", .str "redo"]) hL
    refine .inl ⟨R, p, u1, L, _, rfl, f2.rh, hp2, upd_same, by simp, by simp, by show u1 ≤ 1000000000; omega, fun jn x u2 H2 hx hu2 hp2 f3 => ?_⟩
    have f3 := f2.trans f3
    obtain ⟨uu, rfl⟩ : ∃ uu, x = wordV uu := by
      have hm := List.mem_of_getElem? hx
      simp only [List.mem_cons, List.not_mem_nil, or_false] at hm
      rcases hm with rfl | rfl | rfl
      · exact ⟨true, rfl⟩
      · exact ⟨true, rfl⟩
      · exact ⟨false, rfl⟩
    refine ⟨_, rfl, R, p, u2, 3, rfl, f3.rh, hp2, by decide, by decide, by show u2 ≤ 1000000000; omega, fun way u3 H3 w0 w1 hu3 hp3 f4 => ?_⟩
    have f4 := f3.trans f4
    refine ⟨by show 2 ≤ sizeLine; omega, fun t ht => ?_⟩
    have f5 := f4.newH (o := .tup [wordV uu, .int way]) ht
    have hp5 := hp3.new (o := .tup [wordV uu, .int way]) ht
    refine ⟨t, _, rfl, SqT.of upd_same, rfl, _, _, rfl, _, _, rfl, rfl, ?_⟩
    generalize upd H3 t (.tup [wordV uu, .int way]) = H5 at f5 hp5 ⊢
    have hS5 := hS.up f5 (by simp [npa.symm])
    refine far_ok (s := s) (u := uu) f5.rh hS5 rfl rfl ?_
    have hlen : lenL uu s ≤ 900 := by
      cases uu with
      | true => show s.past.length ≤ 900; omega
      | false => show s.fut.length ≤ 900; omega
    generalize hfar : lenL uu s = far at hlen
    -- how many
    refine ⟨_, rfl, _, rfl, _, _, rfl, _, rfl, _, _, rfl, rfl, _, rfl, _, _, rfl, rfl, ⟨by decide, by decide, by decide⟩, _, rfl, by show 6 ≤ sizeLine; omega, fun ll1 hL1 => ?_⟩
    have f6 := f5.newH (o := .lst mdV) hL1
    have hp6 := hp5.new (o := .lst mdV) hL1
    refine .inl ⟨R, p, u3, ll1, mdV, rfl, f6.rh, hp6, upd_same, by simp [mdV], by simp [mdV], by show u3 ≤ 1000000000; omega, fun jn1 x1 u4 H6 hx1 hu4 hp7 f7 => ?_⟩
    have f7 := f6.trans f7
    obtain ⟨d1, hd1, at1⟩ := (at_md R).get hx1
    have md1 : MD d1 := .inl (List.mem_of_getElem? hd1)
    refine ⟨by show 7 ≤ sizeLine; omega, fun ll2 hL2 => ?_⟩
    have hmax : ∃ mx : Nat, V.int (if (far : Int) > 1 then (far : Int) else 1) = .int mx ∧ 1 ≤ mx ∧ mx ≤ 901 := by
      split
      · exact ⟨far, rfl, by omega, by omega⟩
      · exact ⟨1, rfl, by omega, by omega⟩
    obtain ⟨mx, hmx, mx1, mx2⟩ := hmax
    have hplus : V.int ((far : Int) + 1) = .int ((far + 1 : Nat) : Int) := rfl
    have f8 := f7.newH (o := .lst [.int 1, .int 1, .int 1, .int 2, .int (if (far : Int) > 1 then (far : Int) else 1), .int ((far : Int) + 1), x1]) hL2
    have hp8 := hp7.new (o := .lst [.int 1, .int 1, .int 1, .int 2, .int (if (far : Int) > 1 then (far : Int) else 1), .int ((far : Int) + 1), x1]) hL2
    refine .inl ⟨R, p, u4, ll2, _, rfl, f8.rh, hp8, upd_same, by simp, by simp, by show u4 ≤ 1000000000; omega, fun jn2 x2 u5 H8 hx2 hu5 hp9 f9 => ?_⟩
    have f9 := f8.trans f9
    obtain ⟨d, md, at2⟩ : ∃ d, MD d ∧ At R x2 d := by
      have hm := List.mem_of_getElem? hx2
      simp only [List.mem_cons, List.not_mem_nil, or_false] at hm
      rcases hm with rfl | rfl | rfl | rfl | rfl | rfl | rfl
      · exact ⟨_, .inr ⟨1, rfl, by omega, by omega⟩, .int _⟩
      · exact ⟨_, .inr ⟨1, rfl, by omega, by omega⟩, .int _⟩
      · exact ⟨_, .inr ⟨1, rfl, by omega, by omega⟩, .int _⟩
      · exact ⟨_, .inr ⟨2, rfl, by omega, by omega⟩, .int _⟩
      · rw [hmx]
        exact ⟨_, .inr ⟨mx, rfl, by omega, by omega⟩, .int _⟩
      · exact ⟨_, .inr ⟨far + 1, rfl, by omega, by omega⟩, .int _⟩
      · exact ⟨d1, md1, at1⟩
    have mo := md_ok md
    clear md md1 at1 hd1 hx2 hx1 hmx
    have hS9 := hS.up f9 (by simp [npa.symm])
    have hb9 := hb.up f9 (by simp [npl.symm])
    have hT9 := hT.up f9 (by simp [npP.symm])
    -- what is due
    have fin : ∀ (u' : Nat) (R2 H2 : Hp) (s' : LS) (σ : L2.St) (dv : V) (oe : Option Err) (B : Err → Prop) (G : Hp → Stt → Prop), Fx [a] R H8 R2 H2 → StAt R2 H2 a s' → σ[1]? = some (some (.ref b)) → σ[2]? = some (some (.ref a)) → σ[5]? = some (some dv) → σ[7]? = some (some (wordV uu)) → σ[10]? = some (some x2) → σ[8]? = some (some (.int way)) → At R2 dv (dueD oe) →
        (∀ R R' S, Same R R' → G R S → G R' S) → (∀ e, B e → ∀ f d, e.fd = some (f, d) → OkR d) → (∀ e, B e → oe = some e ∧ Rel K R2 S s' (g + 2)) → (∀ R' S', Same R2 R' → G R' S' → oe = none ∧ Rel K R' S' s' (g + 2)) →
        (badC d = true → B (.range d)) → (∀ n : Nat, d = .int n → 1 ≤ n → lenS uu S < n → B (backE uu)) → (∀ n : Nat, d = .int n → 1 ≤ n → n ≤ lenS uu S → ∀ S' R', times (Stt.go uu) n S = some S' → G R' S') →
        tAndV (tOp (rEqSame K) (tLamN K (He.cT K mvP).2 mvQ fun E => tCall (spBack K) [] E (tCons (tVar 1) (tCons (tVar 7) (tCons (tVar 10) (tCons (tVar 8) tNil))))) (tOrT K (tVar 5) (tLst (tCons (tC .non) tNil)))) (tCall (spStands K) [] E0 (tCons (tVar 1) (tCons (tVar 2) tNil))) σ H2 Q := by
      intro u' R2 H2 s' σ dv oe B G f hS' h1 h2 h5 h7 h10 h8 hd hG okB hB hGo q1 q2 q3
      have hb' := hb9.up f (by simp [nla])
      have hT' := hT9.up f (by simp [naP.symm])
      refine tail_ok (g := g + 2) (B := B) (G := G) f.rh h1 h2 h5 hT' hb' (by omega) hS' nlP naP nla.symm hd hg hG (fun R1 H1 E Q' f1 e2 s2' => ?_) okB hB hGo (fun S' R' H' f' hB' hS'' hrel' hT'' => ?_)
      · refine ⟨_, h1, _, h7, _, h10, _, h8, R1, b, l, S, m, uu, x2, d, way, rfl, f1.rh, hb'.up f1 (by simp [nlP]), by omega, (at2.up f.rr).up f1.rr, mo.s, mo.r, fun _ h => mo.one h, fun h => e2 _ (q1 h), fun n h a1 a2 => e2 _ (q2 n h a1 a2), fun n h a1 a2 S' R' H' ht hf hB => s2' S' R' H' (q3 n h a1 a2 S' R' ht) hf hB⟩
      · have ff : Fx [p, l, a, (He.cT K mvP).2] R H R' H' := (f9.sub (by simp)).trans ((f.sub (by simp)).trans (f'.sub (by simp)))
        exact q u5 S' s' R' H' ff ((hp9.up f (by simp [npa])).up f' (by simp [npl, npP])) (by omega) hB' hS'' hrel' hT''
    have hls : lenS uu S = far := by rw [hrel.len uu, hfar]
    refine ⟨_, rfl, _, rfl, _, rfl, R, a, uu, x2, d, s, rfl, f9.rh, hS9, at2, mo.s, mo.r, by omega, fun hbt R2 H2 r f2 t2 => ?_, fun n hn hlt R2 H2 r f2 t2 => ?_, fun n hn h1 hle s' R2 H2 hts f2 hS2 => ?_⟩
    · have hbad : badC d = true := by have := mo.b; rw [hbt] at this; cases h : badC d with
        | true => rfl
        | false => rw [h] at this; cases this
      refine fin u5 R2 H2 s [some (.ref p), some (.ref b), some (.ref a), some pv_, none, some r, none, some (wordV uu), some (.int way), some (.int (far : Nat)), some x2, none] r (some (.range d)) (fun e => e = .range d) (fun _ _ => False) f2.s0 (hS9.up f2 (by simp)) rfl rfl rfl rfl rfl rfl t2 (fun _ _ _ _ h => h) (fun e he f x hx => ?_) (fun e he => ⟨by rw [he], (hrel.up (f9.rr.trans f2.rr)).mono (by omega)⟩) (fun _ _ _ h => h.elim) (fun _ => rfl) (fun n hn h1 => ?_) (fun n hn h1 => ?_)
      · subst he
        cases hx
        exact mo.r
      · subst hn
        have : decide ((n : Int) < 1) = true := hbad
        rw [decide_eq_true_iff] at this
        omega
      · subst hn
        have : decide ((n : Int) < 1) = true := hbad
        rw [decide_eq_true_iff] at this
        omega
    · subst hn
      have hgood : badC (.int (n : Int)) = false := decide_eq_false (by rw [hfar] at hlt; omega)
      refine fin u5 R2 H2 s [some (.ref p), some (.ref b), some (.ref a), some pv_, none, some r, none, some (wordV uu), some (.int way), some (.int (far : Nat)), some x2, none] r (some (backE uu)) (fun e => e = backE uu) (fun _ _ => False) f2.s0 (hS9.up f2 (by simp)) rfl rfl rfl rfl rfl rfl t2 (fun _ _ _ _ h => h) (fun e he f x hx => ?_) (fun e he => ⟨by rw [he], (hrel.up (f9.rr.trans f2.rr)).mono (by omega)⟩) (fun _ _ _ h => h.elim) (fun h => ?_) (fun _ _ _ _ => rfl) (fun n' hn' h1 h2 => ?_)
      · subst he
        cases uu <;> cases hx
      · rw [hgood] at h; cases h
      · have : n' = n := by injection hn' with h; omega
        subst this
        rw [hls] at h2
        rw [hfar] at hlt
        omega
    · subst hn
      have hgood : badC (.int (n : Int)) = false := decide_eq_false (by omega)
      have rel2 := (hrel.up f9.rr).up f2.rr
      obtain ⟨S2, ht2, hr2⟩ := Rel.many (g := LS.go uu) (G := Stt.go uu) (Rel.go uu) rel2 hts
      refine fin u5 R2 H2 s' [some (.ref p), some (.ref b), some (.ref a), some pv_, none, some .non, none, some (wordV uu), some (.int way), some (.int (far : Nat)), some x2, none] .non none (fun _ => False) (fun _ S' => times (Stt.go uu) n S = some S') f2 hS2 rfl rfl rfl rfl rfl rfl .non (fun _ _ _ _ h => h) (fun e he => he.elim) (fun e he => he.elim) (fun R' S' kk h => ⟨rfl, ?_⟩) (fun h => ?_) (fun n' hn' h1' h2' => ?_) (fun n' hn' h1' h2' S' R' ht => ?_)
      · rw [ht2] at h
        cases h
        exact (hr2.up kk).mono (by omega)
      · rw [hgood] at h; cases h
      · have : n' = n := by injection hn' with h; omega
        subst this
        rw [hls] at h2'
        rw [hfar] at hle
        omega
      · have : n' = n := by injection hn' with h; omega
        subst this
        exact ht
  · -- changes
    refine ⟨_, rfl, by show 6 ≤ sizeLine; omega, fun lp hlp => ?_⟩
    have f2 := f1.newH (o := .lst [.int 1, .int 1, .int 1, .int 1, .int 2, .int 0]) hlp
    have hp2 := hp1.new (o := .lst [.int 1, .int 1, .int 1, .int 1, .int 2, .int 0]) hlp
    refine .inl ⟨R, p, u1, lp, _, rfl, f2.rh, hp2, upd_same, by simp, by simp, by show u1 ≤ 1000000000; omega, fun jn x u3 H3 hx hu3 hp3 f3 => ?_⟩
    have f3 := f2.trans f3
    obtain ⟨n, rfl, hn⟩ : ∃ n : Nat, x = .int n ∧ n ≤ 2 := by
      have hm := List.mem_of_getElem? hx
      simp only [List.mem_cons, List.not_mem_nil, or_false] at hm
      rcases hm with rfl | rfl | rfl | rfl | rfl | rfl
      · exact ⟨1, rfl, by omega⟩
      · exact ⟨1, rfl, by omega⟩
      · exact ⟨1, rfl, by omega⟩
      · exact ⟨1, rfl, by omega⟩
      · exact ⟨2, rfl, by omega⟩
      · exact ⟨0, rfl, by omega⟩
    have hS3 := hS.up f3 (by simp [npa.symm])
    have s13 := f3.kp _ _ s1 (by simp [npa.symm])
    refine ⟨(n : Int), rfl, by omega, by omega, fun D hD => ?_⟩
    have npD : p ≠ D := hp3.ne0 hD
    refine lc_any walk_range [p] (fun i ds R' H' => ∃ (cs : List Chg) (u' : Nat), ds = cs.map Chg.d ∧ cs.length = i ∧ (∀ c ∈ cs, c.ok) ∧ PenAt R' H' p u' ∧ u' ≤ u3 + 20 * i) f3.rh hD (by simp [npD.symm]) (fun i ds R' H' hi ⟨cs, u', e1, e2, _⟩ => ?_) ⟨[], u3, rfl, rfl, by simp, hp3.new hD, by omega⟩ (fun _ _ _ _ _ => trivial) ?_ ?_ ?_
    · rw [e1, List.length_map, e2, hsz]
      have : ((n : Nat) : Int).toNat = n := rfl
      omega
    · rintro i ds R2 H2 l2 r ⟨cs, u', e1, e2, e3, e4, e5⟩
      exact ⟨cs, u', e1, e2, e3, e4.put npD, e5⟩
    · rintro i x R2 H2 H2' vs ds Cy Cn hi f r hv at_ ⟨cs, u', e1, e2, e3, e4, e5⟩ ⟨rfl, rfl⟩ ky kn
      have hi : i < n := hi
      refine ⟨rfl, iteT (B := Cn H2') ?_⟩
      have sa := f.kp _ _ s13 (by simp [npa.symm])
      refine ⟨_, rfl, _, rfl, a, _, rfl, dgetS sa (stK_now _ _ _), _, rfl, R2, p, u', nv, pv_, s.now, pool, rfl, f.rh, e4, (s2.up f3.rr).up f.rr, (hpo.up f3.rr).up f.rr, good_of hrel.g (by omega), gpo, hpl, hpl2, by show u' + 100 ≤ 1000000000; omega, fun c v u4 R4 H4 okc hv4 hu4 hp4 f4 => ky R4 H4 v c.d f4 hv4 ⟨cs ++ [c], u4, by rw [e1, List.map_append]; rfl, by rw [List.length_append, e2]; rfl, fun c' hc' => ?_, hp4, by omega⟩⟩
      rcases List.mem_append.mp hc' with h | h
      · exact e3 c' h
      · rw [List.mem_singleton.mp h]; exact okc
    rintro R4 H4 vs ds f4 r hv ac ⟨cs, u4, rfl, hcl, okc, hp4, hu4⟩
    have hcl : cs.length = n := hcl
    have f5 := f4.freeze hv hD
    have m5 : Same R4 (upd R4 D (.lst vs)) := fun a o e => by rw [upd_ne (fun z => by rw [z, r] at e; cases e)]; exact e
    have hp5 := hp4.still (o := .lst vs) npD r
    have eD : (upd R4 D (.lst vs)) D = some (.lst vs) := upd_same
    generalize upd R4 D (.lst vs) = R5 at f5 m5 hp5 eD
    have tD : At R5 (.ref D) (.list (cs.map Chg.d)) := .lst eD (ac.up m5)
    have F5 := f3.trans f5
    have hS5 := hS.up F5 (by simp [npa.symm])
    have sa5 := F5.kp _ _ s1 (by simp [npa.symm])
    have hu4 : u4 ≤ u3 + 20 * n := hu4
    refine ⟨_, rfl, a, _, rfl, dgetS sa5 (stK_now _ _ _), _, rfl, R5, nv, .ref D, s.now, cs, g, rfl, F5.rh, s2.up F5.rr, tD, okc, hrel.g, by omega, fun R6 H6 rv nd6 f6 t6 hnd => ?_⟩
    have F6 := F5.trans (f6.s0 (M := [p]))
    have hp6 := hp5.up0 f6
    have hS6 := hS.up F6 (by simp [npa.symm])
    have hb6 := hb.up F6 (by simp [npl.symm])
    have hT6 := hT.up F6 (by simp [npP.symm])
    have tD6 := tD.up f6.rr
    have rel6 := hrel.up F6.rr
    obtain ⟨ra, rvs, rfl, r1, r2, r3⟩ := t6.isT K F6.rh
    obtain ⟨dv, lv, rfl, hdv, hlv⟩ := r2.two
    refine ⟨ra, _, rfl, r3, rfl, _, _, rfl, _, _, rfl, rfl, ?_⟩
    refine ⟨_, rfl, rfl, _, rfl, ?_⟩
    have hGm : ∀ (R R' : Hp) (S' : Stt), Same R R' → (∃ L' n', foldL s.now cs = .inr L' ∧ S' = ⟨n', S.p ++ [S.h], []⟩ ∧ NetRel K R n' L') → ∃ L' n', foldL s.now cs = .inr L' ∧ S' = ⟨n', S.p ++ [S.h], []⟩ ∧ NetRel K R' n' L' := fun R R' S' kk ⟨L', n', h1, h2, h3⟩ => ⟨L', n', h1, h2, h3.up kk⟩
    have fin : ∀ (R7 H7 : Hp) (s' : LS) (σ : L2.St) (dv : V) (oe : Option Err), Fx [a] R6 H6 R7 H7 → StAt R7 H7 a s' → σ[1]? = some (some (.ref b)) → σ[2]? = some (some (.ref a)) → σ[5]? = some (some dv) → σ[4]? = some (some (.ref D)) → At R7 dv (dueD oe) →
        (∀ e, foldL s.now cs = .inl e → oe = some e ∧ Rel K R7 S s' (g + 2)) → (∀ R' S', Same R7 R' → (∃ L' n', foldL s.now cs = .inr L' ∧ S' = ⟨n', S.p ++ [S.h], []⟩ ∧ NetRel K R' n' L') → oe = none ∧ Rel K R' S' s' (g + 2)) →
        tAndV (tOp (rEqSame K) (tLamN K (He.cT K mvP).2 mvQ fun E => tCall (spMake K) [] E (tCons (tVar 1) (tCons (tVar 4) tNil))) (tOrT K (tVar 5) (tLst (tCons (tC .non) tNil)))) (tCall (spStands K) [] E0 (tCons (tVar 1) (tCons (tVar 2) tNil))) σ H7 Q := by
      intro R7 H7 s' σ dv oe f hS' h1 h2 h5 h4 hd hB hGo
      have hb' := hb6.up f (by simp [nla])
      have hT' := hT6.up f (by simp [naP.symm])
      refine tail_ok (g := g + 2) (B := fun e => foldL s.now cs = .inl e) (G := fun R' S' => ∃ L' n', foldL s.now cs = .inr L' ∧ S' = ⟨n', S.p ++ [S.h], []⟩ ∧ NetRel K R' n' L') f.rh h1 h2 h5 hT' hb' (by omega) hS' nlP naP nla.symm hd hg hGm (fun R1 H1 E Q' f1 e2 s2' => ?_) (fun e he => foldL_okR hrel.g okc he) hB hGo (fun S' R' H' f' hB' hS'' hrel' hT'' => ?_)
      · refine ⟨_, h1, _, h4, R1, b, l, .ref D, S, m, cs, s.now, g, rfl, f1.rh, hb'.up f1 (by simp [nlP]), by omega, (tD6.up f.rr).up f1.rr, okc, by omega, (rel6.h.up f.rr).up f1.rr, rel6.g, by omega, fun e he => e2 _ he, fun L' hL' R' H' n' hf hn' hB => s2' _ R' H' ⟨L', n', hL', rfl, hn'⟩ hf hB⟩
      · have ff : Fx [p, l, a, (He.cT K mvP).2] R H R' H' := (F6.sub (by simp)).trans ((f.sub (by simp)).trans (f'.sub (by simp)))
        exact q u4 S' s' R' H' ff ((hp6.up f (by simp [npa])).up f' (by simp [npl, npP])) (by omega) hB' hS'' hrel' hT''
    cases hfo : foldL s.now cs with
    | inl e =>
      rw [hfo] at hdv
      obtain ⟨td, rfl, _⟩ := at_two hdv
      refine iteB (fun _ => ?_) (fun h => absurd h (by simp))
      refine fin R6 H6 s [some (.ref p), some (.ref b), some (.ref a), some pv_, some (.ref D), some (.ref td), some lv, none, none, none, none, none] (.ref td) (some e) (Fx.refl F6.rh) hS6 rfl rfl rfl rfl hdv (fun e' he' => ?_) (fun R' S' _ ⟨L', n', h1, _⟩ => ?_)
      · rw [hfo] at he'
        cases he'
        exact ⟨rfl, rel6.mono (by omega)⟩
      · rw [hfo] at h1
        cases h1
    | inr L' =>
      rw [hfo] at hdv
      cases hdv
      rw [hnd L' hfo] at hlv
      refine iteB (fun h => absurd h (by decide)) (fun _ => ?_)
      refine ⟨_, rfl, _, rfl, R6, a, lv, L', s, rfl, F6.rh, hS6, hlv, by omega, fun R7 H7 f7 hS7 => ?_⟩
      have gL := foldL_gl hrel.g hfo
      refine fin R7 H7 _ [some (.ref p), some (.ref b), some (.ref a), some pv_, some (.ref D), some .non, some lv, none, none, none, none, none] .non none f7 hS7 rfl rfl rfl rfl .non (fun e' he' => ?_) (fun R' S' kk ⟨L2, n', h1, h2, h3⟩ => ⟨rfl, ?_⟩)
      · rw [hfo] at he'
        cases he'
      · rw [hfo] at h1
        cases h1
        subst h2
        have r7 := (rel6.up f7.rr).up kk
        exact ⟨h3, gL.mono (by omega), (r7.p.snoc r7.h r7.g).mono (by omega), .nil⟩
end
end Ld
/-! Gx: all_back. -/
namespace Ld
open PySem PySem.Spec L2 PyProof.Rows
theorem passN0 {X : Cx} {P : Program} {w : World} : Passes (L2N.CX P w) X (fun _ _ _ => False) := fun pins σ H s e s' I h => by
  obtain ⟨a, B, H', cls, d, ea, fl, hok, ub, na, os, ag, he⟩ := h
  exact he.elim
theorem okR_one : OkR (.int 1) := (rp_int (by decide) (by decide)).ok
theorem un_cnt {s s' : LS} (h : s.un = some s') : s'.past.length < s.past.length ∧ s'.past.length + s'.fut.length = s.past.length + s.fut.length := by
  obtain ⟨n, p, f⟩ := s
  by_cases hp : p = []
  · subst hp; cases h
  obtain ⟨q, x, rfl⟩ := snoc_of hp
  rw [LS.un_eq] at h
  cases h
  show q.length < (q ++ [x]).length ∧ q.length + (f ++ [n]).length = (q ++ [x]).length + f.length
  rw [List.length_append, List.length_append]
  simp only [List.length_cons, List.length_nil]
  omega
theorem re_cnt {s s' : LS} (h : s.re = some s') : s'.fut.length < s.fut.length ∧ s'.past.length + s'.fut.length = s.past.length + s.fut.length := by
  obtain ⟨n, p, f⟩ := s
  by_cases hp : f = []
  · subst hp; cases h
  obtain ⟨q, x, rfl⟩ := snoc_of hp
  rw [LS.re_eq] at h
  cases h
  show q.length < (q ++ [x]).length ∧ (p ++ [n]).length + q.length = p.length + (q ++ [x]).length
  rw [List.length_append, List.length_append]
  simp only [List.length_cons, List.length_nil]
  omega
def spAllBack (K : PySem.W.Frag) : Sp := fun vs H Q _ => ∃ (R : Hp) (b l a : Addr) (S : Stt) (s : LS) (j g : Nat), vs = [.ref b, .ref a] ∧ Same R H ∧ BookAt K R H b l S j ∧ j ≤ 100 ∧ StAt R H a s ∧ Rel K R S s g ∧ g ≤ 59 ∧
  ∀ (S' : Stt) (s' : LS) (j' : Nat) (R' H' : Hp), Fx [l, a] R H R' H' → BookAt K R' H' b l S' j' → j' ≤ 700 → StAt R' H' a s' → Rel K R' S' s' g → s'.fut = [] → Q (.bl true) H'
section
variable {P : Program} {w : World} {K : PySem.W.Frag} {mg : Str → Option Value} {base : Heap}
theorem ok_lall_back (PF : PP P) (Z : Tz w K mg) : FnG P w K mg base CX0 7 (a_lall_back K) (f_lall_back K) P_lall_back (spAllBack K) := by
  have T := Z.t
  refine FunD.okG T.d_lall_back sc_lall_back (fun vs H Q E h => by obtain ⟨_, _, _, _, _, _, _, _, rfl, _⟩ := h; rfl) (fun cdv A outer s H vs Q E hr hG h => ?_)
  have hu := hu_of hr
  have hu2 := hr.units
  have nd := sc_lall_back.nd
  have hsz := sizeLine_eq
  obtain ⟨uds, du0, bu0⟩ := u0 T
  obtain ⟨rds, dr0, br0⟩ := r0 T
  refine ⟨_, PSs.nox (pss_cons (ps_while PassesOwn.never (pt_cmpR (op_neL0 hu2) (pe_dget hu (pv 1) pe_str (fun _ _ => rfl)) (pe_lst pa_nil) (nomark _))
      (pss_one (ps_if (PW.pt (pw_or (pt_cmpR op_notN (pe_callG hG (ok_ldue_back PF Z) (hr.mono (by decide)) (by rfl) T.g_ldue_back T.k_ldue_back T.b_ldue_back .nil pass0 (pa_cons (pv 1) (pa_cons pe_str (pa_cons pe_int pa_nil)))) pe_non (nomark _)) (pw_or (pt_cmpR op_notN (pe_meth0 (pv 0) T.clB T.m_B_undo (ok_B_undo PF Z) (hr.mono (by decide)) bu0 du0 passN0) pe_non (nomark _)) (pw_or1 (pt_not (pt_val (pe_callG hG (ok_lstands PF Z) (hr.mono (by decide)) (by rfl) T.g_lstands T.k_lstands T.b_lstands .nil pass0 (pa_cons (pv 0) (pa_cons (pv 1) pa_nil)))))))))
        (pss_one (ps_ret pe_bl))
        pss_nil)))
    (pss_cons (ps_while PassesOwn.never (pt_cmpR (op_neL0 hu2) (pe_dget hu (pv 1) pe_str (fun _ _ => rfl)) (pe_lst pa_nil) (nomark _))
      (pss_one (ps_if (PW.pt (pw_or (pt_cmpR op_notN (pe_callG hG (ok_ldue_back PF Z) (hr.mono (by decide)) (by rfl) T.g_ldue_back T.k_ldue_back T.b_ldue_back .nil pass0 (pa_cons (pv 1) (pa_cons pe_str (pa_cons pe_int pa_nil)))) pe_non (nomark _)) (pw_or (pt_cmpR op_notN (pe_meth0 (pv 0) T.clB T.m_B_redo (ok_B_redo PF Z) (hr.mono (by decide)) br0 dr0 passN0) pe_non (nomark _)) (pw_or1 (pt_not (pt_val (pe_callG hG (ok_lstands PF Z) (hr.mono (by decide)) (by rfl) T.g_lstands T.k_lstands T.b_lstands .nil pass0 (pa_cons (pv 0) (pa_cons (pv 1) pa_nil)))))))))
        (pss_one (ps_ret pe_bl))
        pss_nil)))
    (pss_one (ps_ret pe_bl)))), ?_⟩
  obtain ⟨R, b, l, a, S, s, j, g, rfl, k, hb, hj, hS, hrel, hg, q⟩ := h
  have hblen0 := hb.len
  have lp0 := hrel.p.length
  have lf0 := hrel.f.length
  refine ⟨fun c σ H' => ∃ (R' : Hp) (S : Stt) (s : LS) (j : Nat), σ = [some (.ref b), some (.ref a)] ∧ Fx [l, a] R H R' H' ∧ BookAt K R' H' b l S j ∧ StAt R' H' a s ∧ Rel K R' S s g ∧ s.past.length + s.fut.length ≤ 150 ∧ j + s.past.length ≤ 400 ∧ c = s.past.length, ⟨_, R, S, s, j, rfl, Fx.refl k, hb, hS, hrel, by omega, by omega, rfl⟩, ?_⟩
  rintro c σ H1 ⟨R1, S, s, j, rfl, f1, hb, hS, hrel, hlen, hj, rfl⟩
  obtain ⟨nv, pv_, fv, s1, s2, s3, s4⟩ := hS.ob
  obtain ⟨dx, n, xs, ds, b1, b2, b3, b4, b5⟩ := hb.ob
  have nla : l ≠ a := fun e => by rw [e, s1] at b2; cases b2
  obtain ⟨pa, pvs, epa, p1, p2, p3⟩ := s3.isL K f1.rh
  subst epa
  have pl := p2.length
  rw [List.length_map] at pl
  have lS := hrel.p.length
  have hblen := hb.len
  refine ⟨_, rfl, a, _, rfl, dgetS s1 (stK_past _ _ _), Nat.zero_le _, fun z hz => ?_⟩
  have f2 : Fx [] R1 H1 R1 (upd H1 z (.lst [])) := (Fx.refl f1.rh).newH hz
  refine ⟨pa, z, pvs, rfl, rfl, SqL.of (f2.rh _ _ p1), SqL.of upd_same, _, rfl, ?_⟩
  generalize upd H1 z (.lst []) = H2 at f2 ⊢
  have hb2 := hb.up f2 (by simp)
  have hS2 := hS.up f2 (by simp)
  refine iteB (fun he => ?_) (fun he => ?_)
  rotate_left
  · have hne : 1 ≤ s.past.length := by
      cases pvs with
      | nil => cases he
      | cons x r => simp only [List.length_cons] at pl; omega
    refine ⟨fun σ' H' => ∃ (R' : Hp) (S' : Stt) (s' : LS) (j' : Nat), σ' = [some (.ref b), some (.ref a)] ∧ Fx [l, a] R H R' H' ∧ BookAt K R' H' b l S' j' ∧ StAt R' H' a s' ∧ Rel K R' S' s' g ∧ s'.past.length + s'.fut.length ≤ 150 ∧ j' + s'.past.length ≤ 400 ∧ s'.past.length < s.past.length, fun σ' H' ⟨R', S', s', j', e1, e2, e3, e4, e5, e6, e7, e8⟩ => ⟨s'.past.length, e8, R', S', s', j', e1, e2, e3, e4, e5, e6, e7, rfl⟩, ?_⟩
    refine ⟨_, rfl, R1, a, true, .int 1, .int 1, s, rfl, f2.rh, hS2, .int 1, rfl, okR_one, by omega, fun h => absurd h (by decide), fun k hk hlt => ?_, fun k hk h1 hle s' R3 H3 hts f3 hS3 => ?_⟩
    · have : k = 1 := by injection hk with h; omega
      subst this
      have hlt : s.past.length < 1 := hlt
      omega
    have hk1 : k = 1 := by injection hk with h; omega
    subst hk1
    have hun : s.un = some s' := hts
    have rel3 := (hrel.up f2.rr).up f3.rr
    obtain ⟨S', hSu, hrel'⟩ := rel3.un hun
    have hb3 := hb2.up f3 (by simp [nla])
    obtain ⟨dx3, n3, xs3, ds3, c1, c2, _⟩ := hb3.ob
    have hls : s'.past.length < s.past.length ∧ s'.past.length + s'.fut.length = s.past.length + s.fut.length := un_cnt hun
    refine ⟨rfl, _, rfl, iteF ?_⟩
    refine ⟨_, rfl, b, dx3, _, rfl, f3.rh _ _ c1, rfl, R3, b, l, S, j, .int 1, .int 1, rfl, f3.rh, hb3, by omega, .int 1, rfl, fun h => absurd h (by decide), fun k hk h1 hlt => ?_, fun k hk h1 hle S2 R4 H4 ht f4 hb4 => ?_⟩
    · have : k = 1 := by injection hk with h; omega
      subst this
      have hlt : S.p.length < 1 := hlt
      omega
    have hk1 : k = 1 := by injection hk with h; omega
    subst hk1
    have ht : S.un = some S2 := ht
    rw [hSu] at ht
    cases ht
    have hS4 := hS3.up f4 (by simp [nla.symm])
    have rel4 := hrel'.up f4.rr
    refine ⟨rfl, _, rfl, iteF ?_⟩
    refine ⟨_, rfl, _, rfl, R4, b, l, a, S', s', j + 1, g, rfl, f4.rh, hb4, by omega, hS4, rel4, hg, fun R5 H5 f5 => ⟨_, rfl, ?_⟩⟩
    refine iteF ?_
    have ff : Fx [l, a] R H R5 H5 := f1.trans ((f2.sub (by simp)).trans ((f3.sub (by simp)).trans ((f4.sub (by simp)).trans (f5.sub (by simp)))))
    exact ⟨R5, S', s', j + 1, rfl, ff, hb4.up f5 (by simp), hS4.up f5 (by simp), rel4.up f5.rr, by omega, by omega, hls.1⟩
  have hp0 : s.past.length = 0 := by
    cases pvs with
    | nil => simp only [List.length_nil] at pl; omega
    | cons x r => cases he
  have ff := f1.trans (f2.sub (M' := [l, a]) (by simp))
  clear s1 s2 s3 s4 b1 b2 b3 b4 b5 p1 p2 p3 pl lS hblen nla
  have hj2 : j ≤ 400 := by omega
  have rel2 := hrel.up f2.rr
  refine ⟨fun c σ H' => ∃ (R' : Hp) (S : Stt) (s : LS) (j : Nat), σ = [some (.ref b), some (.ref a)] ∧ Fx [l, a] R H R' H' ∧ BookAt K R' H' b l S j ∧ StAt R' H' a s ∧ Rel K R' S s g ∧ s.past.length + s.fut.length ≤ 150 ∧ j + s.fut.length ≤ 700 ∧ c = s.fut.length, ⟨_, R1, S, s, j, rfl, ff, hb2, hS2, rel2, by omega, by omega, rfl⟩, ?_⟩
  rintro c σ H1 ⟨R1, S, s, j, rfl, f1, hb, hS, hrel, hlen, hj, rfl⟩
  obtain ⟨nv, pv_, fv, s1, s2, s3, s4⟩ := hS.ob
  obtain ⟨dx, n, xs, ds, b1, b2, b3, b4, b5⟩ := hb.ob
  have nla : l ≠ a := fun e => by rw [e, s1] at b2; cases b2
  obtain ⟨pa, pvs, epa, p1, p2, p3⟩ := s4.isL K f1.rh
  subst epa
  have pl := p2.length
  rw [List.length_map] at pl
  have lS := hrel.f.length
  have hblen := hb.len
  refine ⟨_, rfl, a, _, rfl, dgetS s1 (stK_fut _ _ _), Nat.zero_le _, fun z hz => ?_⟩
  have f2 : Fx [] R1 H1 R1 (upd H1 z (.lst [])) := (Fx.refl f1.rh).newH hz
  refine ⟨pa, z, pvs, rfl, rfl, SqL.of (f2.rh _ _ p1), SqL.of upd_same, _, rfl, ?_⟩
  generalize upd H1 z (.lst []) = H2 at f2 ⊢
  have hb2 := hb.up f2 (by simp)
  have hS2 := hS.up f2 (by simp)
  refine iteB (fun he => ?_) (fun he => ?_)
  rotate_left
  · have hne : 1 ≤ s.fut.length := by
      cases pvs with
      | nil => cases he
      | cons x r => simp only [List.length_cons] at pl; omega
    refine ⟨fun σ' H' => ∃ (R' : Hp) (S' : Stt) (s' : LS) (j' : Nat), σ' = [some (.ref b), some (.ref a)] ∧ Fx [l, a] R H R' H' ∧ BookAt K R' H' b l S' j' ∧ StAt R' H' a s' ∧ Rel K R' S' s' g ∧ s'.past.length + s'.fut.length ≤ 150 ∧ j' + s'.fut.length ≤ 700 ∧ s'.fut.length < s.fut.length, fun σ' H' ⟨R', S', s', j', e1, e2, e3, e4, e5, e6, e7, e8⟩ => ⟨s'.fut.length, e8, R', S', s', j', e1, e2, e3, e4, e5, e6, e7, rfl⟩, ?_⟩
    refine ⟨_, rfl, R1, a, false, .int 1, .int 1, s, rfl, f2.rh, hS2, .int 1, rfl, okR_one, by omega, fun h => absurd h (by decide), fun k hk hlt => ?_, fun k hk h1 hle s' R3 H3 hts f3 hS3 => ?_⟩
    · have : k = 1 := by injection hk with h; omega
      subst this
      have hlt : s.fut.length < 1 := hlt
      omega
    have hk1 : k = 1 := by injection hk with h; omega
    subst hk1
    have hun : s.re = some s' := hts
    have rel3 := (hrel.up f2.rr).up f3.rr
    obtain ⟨S', hSu, hrel'⟩ := rel3.re hun
    have hb3 := hb2.up f3 (by simp [nla])
    obtain ⟨dx3, n3, xs3, ds3, c1, c2, _⟩ := hb3.ob
    have hls : s'.fut.length < s.fut.length ∧ s'.past.length + s'.fut.length = s.past.length + s.fut.length := re_cnt hun
    refine ⟨rfl, _, rfl, iteF ?_⟩
    refine ⟨_, rfl, b, dx3, _, rfl, f3.rh _ _ c1, rfl, R3, b, l, S, j, .int 1, .int 1, rfl, f3.rh, hb3, by omega, .int 1, rfl, fun h => absurd h (by decide), fun k hk h1 hlt => ?_, fun k hk h1 hle S2 R4 H4 ht f4 hb4 => ?_⟩
    · have : k = 1 := by injection hk with h; omega
      subst this
      have hlt : S.f.length < 1 := hlt
      omega
    have hk1 : k = 1 := by injection hk with h; omega
    subst hk1
    have ht : S.re = some S2 := ht
    rw [hSu] at ht
    cases ht
    have hS4 := hS3.up f4 (by simp [nla.symm])
    have rel4 := hrel'.up f4.rr
    refine ⟨rfl, _, rfl, iteF ?_⟩
    refine ⟨_, rfl, _, rfl, R4, b, l, a, S', s', j + 1, g, rfl, f4.rh, hb4, by omega, hS4, rel4, hg, fun R5 H5 f5 => ⟨_, rfl, ?_⟩⟩
    refine iteF ?_
    have ff : Fx [l, a] R H R5 H5 := f1.trans ((f2.sub (by simp)).trans ((f3.sub (by simp)).trans ((f4.sub (by simp)).trans (f5.sub (by simp)))))
    exact ⟨R5, S', s', j + 1, rfl, ff, hb4.up f5 (by simp), hS4.up f5 (by simp), rel4.up f5.rr, by omega, by omega, hls.1⟩
  have hf0 : s.fut = [] := by
    cases pvs with
    | nil => simp only [List.length_nil] at pl; exact List.length_eq_zero_iff.mp (by omega)
    | cons x r => cases he
  exact q S s j R1 H2 (f1.trans (f2.sub (by simp))) hb2 (by omega) hS2 (hrel.up f2.rr) hf0
end
end Ld
/-! Gy: law. -/
namespace Ld
open PySem PySem.Spec L2 PyProof.Rows
abbrev lwP : He.Defn := ("law", none)
abbrev lwQ : Str := (("law" : Str) ++ ".<locals>.") ++ "<lambda>"
theorem mono_meth {sp : Sp} {C : Addr} {mm : Str} {dvs : List V} {t : TE} {ta : TA} (h1 : MonoS sp) (h2 : MonoT t) (h3 : MonoA ta) : MonoE (fun E => tMeth C mm sp dvs E t ta) := fun E E' σ H Q Q' h he hq => h2 σ H _ _ h fun v H1 ⟨a, dx, fs, e1, e2, e3, h⟩ => ⟨a, dx, fs, e1, e2, e3, h3 _ _ _ _ h fun vs H2 h => h1 _ _ _ _ _ _ h hq he⟩
theorem bB_init {w : World} {K : PySem.W.Frag} {mg : Str → Option Value} (T : Tx w K mg) : Binds K (f_B_init K) P_B_init [] := by
  obtain ⟨ds, r, b⟩ := FunD.binds1 (ps := P_B_init) T.d_B_init 3 1 (by intro h; cases h) rfl (fun _ _ _ _ _ _ _ us its hl hi => match us, hl, its, hi with | [_, _, _], _, [_], _ => ⟨_, rfl, rfl⟩)
  cases r
  exact b
/-- a reply that can only be an error -/
theorem tail_ne {K : PySem.W.Frag} {P : Addr} {qn : Str} {t : XK → TE} {σ : L2.St} {R H : Hp} {Q : VK} (e : Err) (k : Same R H) (hT : TabR R H P qn) (ok : ∀ f d, e.fd = some (f, d) → OkR d)
    (call : ∀ (R1 H1 : Hp) (E : XK) (Q' : VK), Fx [P] R H R1 H1 → ER K [] R1 H1 E e → t E σ H1 Q') (q : ∀ R' H' v, Fx [P] R H R' H' → TabR R' H' P qn → At R' v (faultD e) → Q v H') : tLamN K P qn t σ H Q := by
  refine ⟨R, k, hT, fun R1 H1 f1 hT1 x hx => ?_⟩
  have f0 := (Fx.refl (M := []) f1.rh).newH (o := .lst []) hx
  exact call R1 _ _ _ (f1.trans f0.s0) (er_ech ok fun R' H' v f hv => q R' H' v (f1.trans ((f0.trans f).s0)) (hT1.up (f0.trans f) (by simp)) hv)
theorem eqv_two (a b : Str) : PyData.eqv (.tuple [.str a, .str b]) (.tuple [.str a, .str b]) = true := by
  show ((a == a) && ((b == b) && true)) = true
  rw [beq_self_eq_true, beq_self_eq_true]
  rfl
structure OddOk (d : PyData) : Prop where
  s : okS d = true
  sh : SeqAt.shaped (faultD (.range d)) = true
  b : isBtw d 1 (10 ^ 60) = !badC d
theorem odd_ok {d : PyData} (h : OddV d) : OddOk d := by
  have key : (oddD1 ++ oddD2).all (fun d => okS d && SeqAt.shaped (faultD (.range d)) && (isBtw d 1 (10 ^ 60) == !badC d)) = true := by decide +kernel
  have h := List.all_eq_true.mp key d h
  rw [Bool.and_eq_true, Bool.and_eq_true] at h
  exact ⟨h.1.1, h.1.2, eq_of_beq h.2⟩
theorem okR_odd {d : PyData} (h : OddV d) : OkR d := (rp_odd d h).ok
def spLaw (K : PySem.W.Frag) : Sp := fun vs H Q _ => ∃ (R : Hp) (a : Addr) (ns : List Int), vs = [.ref a] ∧ Same R H ∧ (∀ H', Same R H' → SqL K H' a (ns.map V.int)) ∧ ns.length ≤ 1000 ∧ TabR R H (He.cT K mvP).2 mvQ ∧ TabR R H (He.cT K lwP).2 lwQ ∧ ∀ H', Q (.bl true) H'
section
variable {P : Program} {w : World} {K : PySem.W.Frag} {mg : Str → Option Value} {base : Heap}
theorem ok_llaw (PF : PP P) (Z : Tz w K mg) (hne : (He.cT K mvP).2 ≠ (He.cT K lwP).2) (TB : LamX.TabB base mg (He.cT K mvP).1 (He.cT K mvP).2) (TBl : LamX.TabB base mg (He.cT K lwP).1 (He.cT K lwP).2) : FnG P w K mg base CX0 17 (a_llaw K) (f_llaw K) P_llaw (spLaw K) := by
  have T := Z.t
  refine FunD.okGC lwP T.d_llaw sc_llaw (fun vs H Q E h => by obtain ⟨_, _, _, rfl, _⟩ := h; rfl) (fun A outer s H vs Q E hr hG h => ?_)
  have hu := hu_of hr
  have hu2 := hr.units
  have hu3 : (A.deeper (envOfC "law" (defScope st_llaw) s.heap.objs.size (He.fAd K lwP) (.ref (He.cT K lwP).1))).units + 65 < cLine := by have := hr.un; omega
  have nd := sc_llaw.nd
  have hsz := sizeLine_eq
  obtain ⟨rds, dr0, br0⟩ := r0 T
  refine ⟨_, PSs.nox (pss_cons (ps_set (i := 1) nd rfl (Or.inl rfl) (pe_call (ok_lpen T) (hr.mono (by decide)) (by rfl) T.g_lpen T.k_lpen T.b_lpen .nil pass0 (pa_cons (pv 0) pa_nil)))
    (pss_cons (ps_for PassesOwn.never rfl (pi_range1 (by rfl) T.f_range (pa_cons (pe_op op_add pe_int (pe_callB (call_min2 rfl) (by rfl) T.f_min boot_min (pa_cons pe_int (pa_cons (pe_callB call_len_seq (by rfl) T.f_len boot_len (pa_cons (pv 0) pa_nil)) pa_nil)))) pa_nil)) (pg_name (i := 2) nd rfl (Or.inl rfl))
      (pss_cons (ps_par (i := 3) (j := 4) (by rfl) nd rfl rfl (by decide) rfl rfl (pa_cons (pe_call (ok_lsmall T) (hr.mono (by decide)) (by rfl) T.g_lsmall T.k_lsmall T.b_lsmall .nil pass0 (pa_cons (pv 1) (pa_cons pe_int (pa_cons pe_int (pa_cons pe_int pa_nil))))) (pa_cons (pe_call (ok_lnames T) (hr.mono (by decide)) (by rfl) T.g_lnames T.k_lnames T.b_lnames .nil pass0 (pa_cons (pv 1) (pa_cons pe_int pa_nil))) pa_nil)) (by rfl))
      (pss_cons (ps_asg (pe_tup (pa_cons (pe_make T.mkB (ok_B_init PF Z) (hr.mono (by decide)) (by rfl) T.g_Book (bB_init T) .nil passN0 (pa_cons (pe_ix ix_tup (pv 3) pe_int (fun _ _ => rfl)) (pa_cons (pe_ix ix_tup (pv 3) pe_int (fun _ _ => rfl)) pa_nil))) (pa_cons (pe_call (ok_lstate T) (hr.mono (by decide)) (by rfl) T.g_lstate T.k_lstate T.b_lstate .nil pass0 (pa_cons (pv 3) pa_nil)) pa_nil))) (pg_tup rfl (pgs_cons (pg_name (i := 5) nd rfl (Or.inr rfl)) (pgs_cons (pg_name (i := 6) nd rfl (Or.inl rfl)) pgs_nil))))
      (pss_cons (ps_for PassesOwn.never rfl (pi_range1 (by rfl) T.f_range (pa_cons (pe_op op_add pe_int (pe_call (ok_ldraw T) (hr.mono (by decide)) (by rfl) T.g_ldraw T.k_ldraw T.b_ldraw .nil pass0 (pa_cons (pv 1) (pa_cons pe_int pa_nil)))) pa_nil)) (pg_name (i := 7) nd rfl (Or.inl rfl))
        (pss_one (ps_if (pt_not (pt_val (pe_callG hG (ok_lmoved PF Z TB) (hr.mono (by decide)) (by rfl) T.g_lmoved T.k_lmoved T.b_lmoved .nil pass0 (pa_cons (pv 1) (pa_cons (pv 5) (pa_cons (pv 6) (pa_cons (pv 4) pa_nil)))))))
          (pss_one (ps_ret pe_bl))
          pss_nil)))
      (pss_cons (ps_asg (pe_tup (pa_cons (pe_call (ok_lodd T) (hr.mono (by decide)) (by rfl) T.g_lodd T.k_lodd T.b_lodd .nil pass0 (pa_cons (pv 1) pa_nil)) (pa_cons (pe_call (ok_lpick T) (hr.mono (by decide)) (by rfl) T.g_lpick T.k_lpick T.b_lpick .nil pass0 (pa_cons (pv 1) (pa_cons (pe_lst (pa_cons pe_str (pa_cons pe_str pa_nil))) pa_nil))) pa_nil))) (pg_tup rfl (pgs_cons (pg_name (i := 8) nd rfl (Or.inr rfl)) (pgs_cons (pg_name (i := 9) nd rfl (Or.inr rfl)) pgs_nil))))
      (pss_cut2 (ps_if (pt_not (pt_val (pe_call (ok_lis_between T) (hr.mono (by decide)) (by rfl) T.g_lis_between T.k_lis_between T.b_lis_between .nil pass0 (pa_cons (pv 8) (pa_cons pe_int (pa_cons (pe_op op_pow pe_int pe_int) pa_nil))))))
        (pss_one (ps_if (pt_cmpR (op_neD hu2) (pe_lamN (k := 6) PF Z hG (by rfl) TBl (by rfl) (hr.mono (by decide)) (LamX.lamS_by (sc := defScope st_llaw) (by decide +kernel)) (by rfl) (fun _ _ _ _ _ => rfl) (fun A outer s H E f c hA hr2 => (pe_callG hA (ok_lback PF Z) (hr2.mono (by decide)) (by rfl) T.g_lback T.k_lback T.b_lback .nil (L2N.passes_call (W := fun cls d _ H => E cls d H) (L2N.takes_of rfl rfl rfl rfl) (fun _ _ _ _ h => h)) (pa_cons (pv 5) (pa_cons (pv 9) (pa_cons (pv 8) (pa_cons pe_int pa_nil)))))) (mono_call (mono_back K) (mono_cons (mono_var 5) (mono_cons (mono_var 9) (mono_cons (mono_var 8) (mono_cons (mono_c _) mono_nil)))))) (pe_tup (pa_cons pe_str (pa_cons (pe_callB (call_reprD Z hG hu3) (by rfl) T.f_repr boot_repr (pa_cons (pv 8) pa_nil)) pa_nil))) (nomark _))
          (pss_one (ps_ret pe_bl))
          pss_nil))
        pss_nil)
      (pss_cons (ps_if (pt_not (pt_val (pe_callG hG (ok_lall_back PF Z) (hr.mono (by decide)) (by rfl) T.g_lall_back T.k_lall_back T.b_lall_back .nil pass0 (pa_cons (pv 5) (pa_cons (pv 6) pa_nil)))))
        (pss_one (ps_ret pe_bl))
        pss_nil)
      (pss_one (ps_if (PW.pt (pw_or (pt_cmpR (op_neD hu2) (pe_lamN (k := 5) PF Z hG (by rfl) TBl (by rfl) (hr.mono (by decide)) (LamX.lamS_by (sc := defScope st_llaw) (by decide +kernel)) (by rfl) (fun _ _ _ _ _ => rfl) (fun A outer s H E f c hA hr2 => (pe_meth0 (pv 5) T.clB T.m_B_redo (ok_B_redo PF Z) (hr2.mono (by decide)) br0 dr0 (L2N.passes_call (W := fun cls d _ H => E cls d H) (L2N.takes_of rfl rfl rfl rfl) (fun _ _ _ _ h => h)))) (mono_meth (mono_undo K _ _ _) (mono_var 5) mono_nil)) (pe_tup (pa_cons pe_str (pa_cons pe_str pa_nil))) (nomark _)) (pw_or1 (pt_not (pt_val (pe_callG hG (ok_lstands PF Z) (hr.mono (by decide)) (by rfl) T.g_lstands T.k_lstands T.b_lstands .nil pass0 (pa_cons (pv 5) (pa_cons (pv 6) pa_nil))))))))
        (pss_one (ps_ret pe_bl))
        pss_nil)))))))))
    (pss_one (ps_ret pe_bl)))), ?_⟩
  rw [lamQ_cx]
  obtain ⟨R, sc, ns, rfl, k, hsc, hns, hTm, hTl, q⟩ := h
  obtain ⟨tps, tm1, _⟩ := hTm.ob
  obtain ⟨lps, tl1, _⟩ := hTl.ob
  refine ⟨_, rfl, R, sc, ns, rfl, k, hsc, fun R1 H1 p f1 hpn hp1 => ?_⟩
  have hTm1 := hTm.up f1 (by simp)
  have hTl1 := hTl.up f1 (by simp)
  have sq1 := hsc H1 (f1.rr.trans f1.rh)
  obtain ⟨cnt, hcnt, hc4⟩ : ∃ cnt : Nat, (2 : Int) + (if (((ns.map V.int).length : Nat) : Int) < 2 then (((ns.map V.int).length : Nat) : Int) else 2) = cnt ∧ cnt ≤ 4 := by
    split
    · exact ⟨2 + (ns.map V.int).length, by omega, by omega⟩
    · exact ⟨4, rfl, by omega⟩
  refine ⟨_, rfl, sc, _, rfl, .inl sq1, _, _, rfl, _, _, rfl, rfl, (cnt : Int), congrArg (fun z => [V.int z]) hcnt, by omega, by omega, for_range (n := cnt) (fun i σ H' => ∃ (R' : Hp) (u : Nat) (x2 x3 x4 x5 x6 x7 x8 x9 : Option V), σ = [some (.ref sc), some (.ref p), x2, x3, x4, x5, x6, x7, x8, x9] ∧ Fx [p, (He.cT K mvP).2, (He.cT K lwP).2] R H R' H' ∧ PenAt R' H' p u ∧ u ≤ 3000 * i ∧ TabR R' H' (He.cT K mvP).2 mvQ ∧ TabR R' H' (He.cT K lwP).2 lwQ) ⟨R1, 0, none, none, none, none, none, none, none, none, rfl, f1.s0, hp1, by omega, hTm1, hTl1⟩ ?_ ?_⟩
  rotate_left
  · rintro σ H2 _
    exact q H2
  rintro i0 σ H2 hi ⟨R2, u, x2, x3, x4, x5, x6, x7, x8, x9, rfl, f2, hp2, hu2', hTm2, hTl2⟩
  have hlim : u + 5000 ≤ 1000000000 := by omega
  -- the network, the pool
  refine ⟨_, rfl, R2, p, u, rfl, f2.rh, hp2, by show u + 3000 ≤ 1000000000; omega, fun N u3 R3 H3 v gN ln6 le6 hu3 hp3 f3 hv => ?_⟩
  refine ⟨_, rfl, R3, p, u3, 4, rfl, f3.rh, hp3, by decide, by show u3 + 100 ≤ 1000000000; omega, fun ps u4 R4 H4 nb hpl gps hu4 hp4 f4 hnb => ⟨_, _, rfl, ?_⟩⟩
  have f34 := f3.trans f4
  have hv4 := hv.up f4.rr
  have hpool : At R4 (.ref nb) (strsD ps) := .lst hnb (atL_strs _ _)
  have fine : Fine N.ns N.es := ⟨gN.nm, gN.nd, gN.nl, gN.ed, gN.en⟩
  have gl : GL N 6 := ⟨fine, List.length_pos_iff.mp gN.ne, gN.ft, le6⟩
  have hdue : due (N.ns.map PyData.str) (N.es.map Edg.d) = none := by
    rw [due_fine fine]
    unfold dueG
    rw [if_neg gl.ne, if_pos gl.ft]
  obtain ⟨nt, nvs, rfl, n1, n2, n3⟩ := hv4.isT K f34.rh
  obtain ⟨nvv, evv, rfl, hnv, hev⟩ := n2.two
  -- the book
  refine ⟨_, rfl, nt, _, _, nvv, rfl, rfl, n3, at_of2 (j := 0) rfl rfl, _, rfl, nt, _, _, evv, rfl, rfl, n3, at_of2 (j := 1) rfl rfl, fun b dx hb hdx hbd => ?_⟩
  have f5 : Fx [] R4 H4 R4 (upd (upd H4 dx (.own b)) b (.ins (CB K) dx [])) := ((Fx.refl f34.rh).newH hdx).newH (by rw [upd_ne hbd.symm]; exact hb)
  have rb : R4 b = none := same_none f34.rh hb
  refine ⟨R4, b, dx, nvv, evv, _, _, rfl, f5.rh, upd_same, rb, .inl hnv, okSs_strs gN.nm, by rw [List.length_map]; omega, .inl hev, okSs_edgs gN.ed, by rw [List.length_map]; omega, hdue, fun N' R6 H6 nv l hN' f6 rb6 hb6 hl6 rl6 hl0 aN' => ⟨rfl, ?_⟩⟩
  rw [namL_map, edgs_map] at hN'
  have nbl : b ≠ l := fun e => by rw [e, hl6] at hb6; cases hb6
  have hl4 : H4 l = none := f5.gone hl0
  have f46 : Fx [] R4 H4 (upd R6 b (.ins (CB K) dx [("first", nv), ("deeds", .ref l)])) H6 := (((f5.sub (M' := [b]) (by simp)).trans f6).drop hb).freeze hb6 hb
  have m6 : Same R6 (upd R6 b (.ins (CB K) dx [("first", nv), ("deeds", .ref l)])) := fun a o e => by rw [upd_ne (fun z => by rw [z, rb6] at e; cases e)]; exact e
  have eb : (upd R6 b (.ins (CB K) dx [("first", nv), ("deeds", .ref l)])) b = some (.ins (CB K) dx [("first", nv), ("deeds", .ref l)]) := upd_same
  have rl7 : (upd R6 b (.ins (CB K) dx [("first", nv), ("deeds", .ref l)])) l = none := by rw [upd_ne nbl.symm]; exact rl6
  generalize upd R6 b (.ins (CB K) dx [("first", nv), ("deeds", .ref l)]) = R7 at f46 m6 eb rl7
  have hbook : BookAt K R7 H6 b l ⟨nv, [], []⟩ 0 := ⟨rl7, dx, nv, [], [], eb, hl6, .nil, Nat.le_refl _, rfl⟩
  have hnet : NetRel K R7 nv N := ⟨N', aN'.up m6, hN'⟩
  -- the state
  refine ⟨_, rfl, R7, .ref nt, N, rfl, f46.rh, hv4.up f46.rr, fun R8 H8 a f8 ha hS8 => ⟨by show 2 ≤ sizeLine; omega, fun t ht => ?_⟩⟩
  have f9 := (f46.trans f8).newH (o := .tup [.ref b, .ref a]) ht
  have f89 := f8.newH (o := .tup [.ref b, .ref a]) ht
  refine ⟨t, _, rfl, SqT.of upd_same, rfl, _, _, rfl, _, _, rfl, rfl, ?_⟩
  have n9 : Fx [] R8 H8 R8 (upd H8 t (.tup [.ref b, .ref a])) := (Fx.refl f8.rh).newH ht
  have hS9 := hS8.up n9 (by simp)
  have hb9 := hbook.up f89 (by simp)
  generalize upd H8 t (.tup [.ref b, .ref a]) = H9 at f9 f89 n9 hS9 hb9 ⊢
  have rel9 : Rel K R8 ⟨nv, [], []⟩ ⟨N, [], []⟩ 6 := ⟨hnet.up f8.rr, gl, .nil, .nil⟩
  have ha4 : H4 a = none := f46.gone ha
  have F9 : Fx [p] R2 H2 R8 H9 := f34.trans f9.s0
  have hp9 := hp4.up f9 (by simp)
  have hl2 : H2 l = none := f34.gone hl4
  have ha2 : H2 a = none := f34.gone ha4
  have hTm9 : TabR R8 H9 (He.cT K mvP).2 mvQ := hTm2.up F9 (by
    obtain ⟨tp2, e2, _⟩ := hTm2.ob
    obtain ⟨_, _, _, ep, _⟩ := hp2.ob
    simp only [List.mem_singleton]
    exact fun e => by rw [e, ep] at e2; cases e2)
  have hTl9 : TabR R8 H9 (He.cT K lwP).2 lwQ := hTl2.up F9 (by
    obtain ⟨tp2, e2, _⟩ := hTl2.ob
    obtain ⟨_, _, _, ep, _⟩ := hp2.ob
    simp only [List.mem_singleton]
    exact fun e => by rw [e, ep] at e2; cases e2)
  -- the moves
  refine ⟨_, rfl, R8, p, u4, 21, rfl, f9.rh, hp9, by decide, by decide, by show u4 ≤ 1000000000; omega, fun j u10 H10 j0 j1 hu10 hp10 f10 => ?_⟩
  obtain ⟨jn, rfl⟩ : ∃ jn : Nat, j = jn := ⟨j.toNat, (Int.toNat_of_nonneg j0).symm⟩
  have F10 := F9.trans f10
  have b10 := hb9.up f10 (by
    obtain ⟨_, _, _, ep, _⟩ := hp9.ob
    obtain ⟨_, _, _, _, _, e2, _⟩ := hb9.ob
    simp only [List.mem_singleton]
    exact fun e => by rw [e, ep] at e2; cases e2)
  have S10 := hS9.up f10 (by
    obtain ⟨_, _, _, ep, _⟩ := hp9.ob
    obtain ⟨_, _, _, e2, _⟩ := hS9.ob
    simp only [List.mem_singleton]
    exact fun e => ne_obj e2 ep (by simp [penO, stK]) e)
  have pT : ∀ {R H : Hp} {q : Addr} {qn : Str} {u : Nat}, TabR R H q qn → PenAt R H p u → q ≠ p := fun hT hp => by
    obtain ⟨_, e2, _⟩ := hT.ob
    obtain ⟨_, _, _, ep, _⟩ := hp.ob
    exact fun e => by rw [e, ep] at e2; cases e2
  have Tm10 := hTm9.up f10 (by simp [pT hTm9 hp9])
  have Tl10 := hTl9.up f10 (by simp [pT hTl9 hp9])
  refine ⟨_, _, rfl, rfl, ((4 + jn : Nat) : Int), by rw [Int.natCast_add]; rfl, by omega, by omega, for_range (n := 4 + jn) (fun i σ H' => ∃ (R' : Hp) (S : Stt) (s : LS) (u' : Nat) (y7 : Option V), σ = [some (.ref sc), some (.ref p), some (.int (0 + (i0 : Nat))), some (.ref nt), some (.ref nb), some (.ref b), some (.ref a), y7, x8, x9] ∧ Fx [p, l, a, (He.cT K mvP).2, (He.cT K lwP).2] R2 H2 R' H' ∧ PenAt R' H' p u' ∧ u' ≤ u10 + 60 * i ∧ BookAt K R' H' b l S i ∧ StAt R' H' a s ∧ Rel K R' S s (6 + 2 * i) ∧ At R' (.ref nb) (strsD ps) ∧ TabR R' H' (He.cT K mvP).2 mvQ ∧ TabR R' H' (He.cT K lwP).2 lwQ) ?_ ?_ ?_⟩
  · exact ⟨R8, _, _, u10, x7, rfl, F10.sub (by simp), hp10, by omega, b10, S10, rel9, (hpool.up f46.rr).up f8.rr, Tm10, Tl10⟩
  · rintro i σ H' hi ⟨R', S, s', u', y7, rfl, f, hp, hu, hb, hS, hrel, hpo, hTm, hTl⟩
    obtain ⟨_, _, _, ep, _⟩ := hp.ob
    obtain ⟨_, _, _, _, _, el, _⟩ := hb.ob
    obtain ⟨_, _, _, ea, _⟩ := hS.ob
    obtain ⟨_, et, _⟩ := hTl.ob
    have n1 : (He.cT K lwP).2 ≠ p := ne_obj et ep (by simp [penO])
    have n2 : (He.cT K lwP).2 ≠ l := ne_obj et el (by simp)
    have n3 : (He.cT K lwP).2 ≠ a := ne_obj et ea (by simp)
    refine ⟨_, rfl, _, rfl, _, rfl, _, rfl, R', p, u', b, l, a, .ref nb, ps, S, s', i, 6 + 2 * i, rfl, f.rh, hp, by show u' + 300 ≤ 1000000000; omega, hb, by omega, hS, hrel, by omega, hpo, gps.1, by omega, by omega, hTm, fun v2 S2 s2 R3 H3 f3 hp3 hv3 hb3 hS3 hrel3 hT3 => ⟨_, rfl, ?_⟩⟩
    refine iteB (fun _ => ?_) (fun h => absurd h (by decide))
    have e6 : 6 + 2 * i + 2 = 6 + 2 * (i + 1) := by omega
    have f3 : Fx [p, l, a, (He.cT K mvP).2] R' H' R3 H3 := f3
    rw [e6] at hrel3
    exact ⟨R3, S2, s2, v2, _, rfl, f.trans (f3.sub (by simp)), hp3, by omega, hb3, hS3, hrel3, hpo.up f3.rr, hT3, hTl.up f3 (by simp [n1, n2, n3, hne.symm])⟩
  · rintro σ H' ⟨R', S, s', u', y7, rfl, f, hp, hu, hb, hS, hrel, hpo, hTm, hTl⟩
    obtain ⟨_, _, _, ep, _⟩ := hp.ob
    obtain ⟨_, _, _, _, _, el, _⟩ := hb.ob
    obtain ⟨_, _, _, ea, _⟩ := hS.ob
    obtain ⟨_, et, _⟩ := hTl.ob
    obtain ⟨_, em, _⟩ := hTm.ob
    have n1 : (He.cT K lwP).2 ≠ p := ne_obj et ep (by simp [penO])
    have n2 : (He.cT K lwP).2 ≠ l := ne_obj et el (by simp)
    have n3 : (He.cT K lwP).2 ≠ a := ne_obj et ea (by simp)
    have n4 : (He.cT K mvP).2 ≠ p := ne_obj em ep (by simp [penO])
    have n5 : (He.cT K mvP).2 ≠ l := ne_obj em el (by simp)
    have n6 : (He.cT K mvP).2 ≠ a := ne_obj em ea (by simp)
    have n7 : l ≠ p := ne_obj el ep (by simp [penO])
    have n8 : a ≠ p := ne_obj ea ep (by simp [penO, stK])
    have n9' : a ≠ l := ne_obj ea el (by simp)
    have hjn : jn ≤ 20 := by omega
    -- an odd value, a word
    refine ⟨_, rfl, R', p, u', rfl, f.rh, hp, by show u' + 100 ≤ 1000000000; omega, fun d dv w3 R3 H3 od hdv hw3 hp3 f3 => ?_⟩
    refine ⟨_, rfl, by show 2 ≤ sizeLine; omega, fun ll hll => ?_⟩
    have g3 : Fx [] R3 H3 R3 (upd H3 ll (.lst [.str "undo", .str "redo"])) := (Fx.refl f3.rh).newH hll
    refine .inl ⟨R3, p, w3, ll, _, rfl, g3.rh, hp3.up0 g3, upd_same, by simp, by simp, by show w3 ≤ 1000000000; omega, fun jx x w4 H4 hx hw4 hp4 f4 => ?_⟩
    obtain ⟨uu, rfl⟩ : ∃ uu, x = wordV uu := by
      have hm := List.mem_of_getElem? hx
      simp only [List.mem_cons, List.not_mem_nil, or_false] at hm
      rcases hm with rfl | rfl
      · exact ⟨true, rfl⟩
      · exact ⟨false, rfl⟩
    refine ⟨by show 2 ≤ sizeLine; omega, fun t2 ht2 => ?_⟩
    have g5 := f4.newH (o := .tup [dv, wordV uu]) ht2
    have f35 : Fx [p] R' H' R3 (upd H4 t2 (.tup [dv, wordV uu])) := f3.trans ((g3.s0).trans g5)
    have hp5 := hp4.new (o := .tup [dv, wordV uu]) ht2
    refine ⟨t2, _, rfl, SqT.of upd_same, rfl, _, _, rfl, _, _, rfl, rfl, ?_⟩
    generalize upd H4 t2 (.tup [dv, wordV uu]) = H5 at f35 hp5 ⊢
    have hb5 := hb.up f35 (by simp [n7])
    have hS5 := hS.up f35 (by simp [n8])
    have rel5 := hrel.up f35.rr
    have hTm5 := hTm.up f35 (by simp [n4])
    have hTl5 := hTl.up f35 (by simp [n1])
    have oo := odd_ok od
    refine ⟨fun σ' H' => ∃ R7, σ' = [some (.ref sc), some (.ref p), some (.int (0 + (i0 : Nat))), some (.ref nt), some (.ref nb), some (.ref b), some (.ref a), y7, some dv, some (wordV uu)] ∧ Fx [(He.cT K lwP).2] R3 H5 R7 H' ∧ TabR R7 H' (He.cT K lwP).2 lwQ, ?_, ?_⟩
    · refine ⟨_, rfl, _, _, rfl, rfl, ⟨by decide, by decide, by decide⟩, R3, dv, d, 1, 10 ^ 60, rfl, f35.rh, hdv, oo.s, fun R6 H6 f6 => ⟨_, rfl, ?_⟩⟩
      refine iteB (fun hbt => ?_) (fun hbt => ?_)
      · exact ⟨R6, rfl, f6.s0, hTl5.up f6 (by simp)⟩
      have hbad : badC d = true := by
        have h : (!isBtw d 1 (10 ^ 60)) = true := hbt
        rw [oo.b] at h
        simpa using h
      have hint : ∀ n : Nat, d = .int n → 1 ≤ n → False := fun n hn h1 => by
        subst hn
        have h : decide ((n : Int) < 1) = true := hbad
        rw [decide_eq_true_iff] at h
        omega
      refine tail_ne (.range d) f6.rh (hTl5.up f6 (by simp)) (fun f x h => by cases h; exact okR_odd od) (fun R1 H1 E Q' f1 er => ?_) (fun R7 H7 v f7 hT7 hv => ?_)
      · have hb6 := (hb5.up f6 (by simp)).up f1 (by simp [n2.symm])
        exact ⟨_, rfl, _, rfl, _, rfl, R1, b, l, S, 4 + jn, uu, dv, d, 1, rfl, f1.rh, hb6, by omega, (hdv.up f6.rr).up f1.rr, oo.s, okR_odd od, (fun h => absurd h (by decide)), fun _ => er, fun n hn h1 => (hint n hn h1).elim, fun n hn h1 => (hint n hn h1).elim⟩
      · have hdv7 := (hdv.up f6.rr).up f7.rr
        refine ⟨_, rfl, R7, dv, d, rfl, f7.rh, hdv7, okR_odd od, by show 2 ≤ sizeLine; omega, fun t3 ht3 => ?_⟩
        obtain ⟨R8, f8, t8, m8⟩ := nw_tup f7.rh (.cons (.str "range") (.cons (.str d.shown) .nil)) ht3
        have t8 : At R8 (.ref t3) (faultD (.range d)) := t8
        refine ⟨faultD (.range d), faultD (.range d), At.dp K f8.rh _ _ (hv.up m8) rfl, At.dp K f8.rh _ _ t8 rfl, oo.sh, oo.sh, _, rfl, ?_⟩
        refine iteB (fun _ => ?_) (fun h => absurd h (by rw [show PyData.eqv (faultD (.range d)) (faultD (.range d)) = true from eqv_two _ _]; decide))
        exact ⟨R8, rfl, (f6.s0.trans f7).trans f8.s0, hT7.up f8 (by simp)⟩
    · rintro σ' H7 ⟨R7, rfl, f7, hT7⟩
      have hb7 := hb5.up f7 (by simp [n2.symm])
      have hS7 := hS5.up f7 (by simp [n3.symm])
      have rel7 := rel5.up f7.rr
      have hTm7 := hTm5.up f7 (by simp [hne])
      have hp7 := hp5.up f7 (by simp [n1.symm])
      refine ⟨_, rfl, _, rfl, R7, b, l, a, S, s', 4 + jn, 6 + 2 * (4 + jn), rfl, f7.rh, hb7, by omega, hS7, rel7, by omega, fun S2 s2 j2 R8 H8 f8 hb8 hj8 hS8 rel8 hfut => ⟨_, rfl, ?_⟩⟩
      refine iteB (fun _ => ?_) (fun h => absurd h (by decide))
      have hT8 := hT7.up f8 (by simp [n2, n3])
      have hTm8 := hTm7.up f8 (by simp [n5, n6])
      have hp8 := hp7.up f8 (by simp [n7.symm, n8.symm])
      have hf2 : S2.f.length = 0 := by rw [rel8.f.length, hfut]; rfl
      obtain ⟨bdx, bn, bxs, bds, bb1, _⟩ := hb8.ob
      refine tail_ne .noRedo f8.rh hT8 (fun f x h => by cases h) (fun R1 H1 E Q' f1 er => ?_) (fun R9 H9 v f9 hT9 hv => ?_)
      · have hb9 := hb8.up f1 (by simp [n2.symm])
        exact ⟨_, rfl, b, bdx, _, rfl, f1.rh _ _ (f1.rr _ _ bb1), rfl, R1, b, l, S2, j2, .int 1, .int 1, rfl, f1.rh, hb9, by omega, .int 1, rfl, fun h => absurd h (by decide), fun _ _ _ _ => er, fun n hn h1 hle => (show False by have hle : n ≤ S2.f.length := hle; omega).elim⟩
      · refine ⟨by show 2 ≤ sizeLine; omega, fun t3 ht3 => ?_⟩
        obtain ⟨R10, f10', t10, m10⟩ := nw_tup f9.rh (.cons (.str "no redo") (.cons (.str "") .nil)) ht3
        have t10 : At R10 (.ref t3) (faultD .noRedo) := t10
        refine ⟨faultD .noRedo, faultD .noRedo, At.dp K f10'.rh _ _ (hv.up m10) rfl, At.dp K f10'.rh _ _ t10 rfl, by decide +kernel, by decide +kernel, _, rfl, ?_⟩
        refine iteB (fun _ => ?_) (fun h => absurd h (by rw [show PyData.eqv (faultD .noRedo) (faultD .noRedo) = true from eqv_two _ _]; decide))
        have f810 := f9.trans (f10'.s0 (M := [(He.cT K lwP).2]))
        refine ⟨_, rfl, _, rfl, R10, b, l, a, S2, s2, j2, 6 + 2 * (4 + jn), rfl, f10'.rh, hb8.up f810 (by simp [n2.symm]), by omega, hS8.up f810 (by simp [n3.symm]), rel8.up f810.rr, by omega, fun R11 H11 f11 => ⟨_, rfl, ?_⟩⟩
        refine iteF ?_
        have fe : Fx [(He.cT K lwP).2] R8 H8 R11 H11 := f810.trans f11.s0
        have big : Fx [l, a, p, (He.cT K mvP).2, (He.cT K lwP).2] R2 H2 R11 H11 := (f.sub (by simp)).trans ((f35.sub (by simp)).trans ((f7.sub (by simp)).trans ((f8.sub (by simp)).trans (fe.sub (by simp)))))
        exact ⟨R11, w4, _, _, _, _, _, _, _, _, rfl, f2.trans ((big.drop hl2).drop ha2), hp8.up fe (by simp [n1.symm]), by omega, hTm8.up fe (by simp [hne]), (hT9.up f10' (by simp)).up f11 (by simp)⟩
end
end Ld
set_option maxHeartbeats 2000000
/-! Gz: the law's call by a promise that holds where no guard stands. -/
namespace Ld
open PySem PySem.Spec L2 PyProof.Rows
/-- what is tracked at the law's call: the tables T, and the script where it is not a written object -/
def startH (T : List Addr) (K : PySem.W.Frag) (a : Addr) (sc : Obj) (xs : List V) : Hp := fun b => if b ∈ T then some (.tbl #[]) else if b = a ∧ K.lookup a = none then some (.frz sc (.lst xs)) else none
section
variable {T : List Addr} {K : PySem.W.Frag} {a b : Addr} {sc : Obj} {xs : List V}
theorem startH_T (h : b ∈ T) : startH T K a sc xs b = some (.tbl #[]) := if_pos h
theorem startH_cases : (b ∈ T ∧ startH T K a sc xs b = some (.tbl #[])) ∨ (b ∉ T ∧ b = a ∧ K.lookup a = none ∧ startH T K a sc xs b = some (.frz sc (.lst xs))) ∨ (b ∉ T ∧ (b = a → K.lookup a ≠ none) ∧ startH T K a sc xs b = none) := by
  by_cases h : b ∈ T
  · exact .inl ⟨h, if_pos h⟩
  · by_cases h2 : b = a ∧ K.lookup a = none
    · exact .inr (.inl ⟨h, h2.1, h2.2, (if_neg h).trans (if_pos h2)⟩)
    · exact .inr (.inr ⟨h, fun e z => h2 ⟨e, z⟩, (if_neg h).trans (if_neg h2)⟩)
end
theorem law_callG {P : Program} {w : World} {K : PySem.W.Frag} {mg mb : Str → Option Value} {CX : CXT} {k : Nat} {fa a : Addr} {cs : List (Addr × Addr)} {fd : FuncData} {x : Str} {sp : Sp} {s₀ s₁ : Shared} {vs : List Value} {ns : List Int}
    {q : Program} {loose : List Str} {XP : (Str → Option Value) → Heap → Prop} (G : PySem.W.Ground q loose [] XP w s₀ mg mb s₁.heap) (KX : K.In s₁.heap) (hg : s₁.gens = #[])
    (tabs : ∀ p ∈ cs, s₁.heap.get? p.2 = some { cls := .none, data := .fields #[] } ∧ K.lookup p.2 = none ∧ PySem.W.CodeHd s₁.heap p.1 p.2)
    (ha : s₁.heap.get? a = some { cls := .type "list", data := .seq vs.toArray }) (hi : IntsAre vs ns) (hl : ns.length ≤ sizeLine) (room : Room k callerA)
    (promise : ∀ base : Heap, K.In base → base.Ns mainGlobals mg → (∀ p ∈ cs, LamX.TabB base mg p.1 p.2) → FnG P w K mg base CX k fa fd [x] sp) (binds : ∀ (s : Shared) (u : Value), BindsTo s fd ⟨[u], []⟩ [(x, u)])
    (asks : ∀ H : Hp, (∀ p ∈ cs, H p.2 = some (.tbl #[])) → SqL K H a (ns.map V.int) → sp [.ref a] H (fun v _ => v = .bl true) E0)
    (none_ : ∀ H e s', CX [] H s₁ E0 e s' → False) :
    codeAny (model P w) callerA (.call (.ref fa) ⟨[.ref a], []⟩) (fun r s' => r = .ok (.ret (.bool true)) ∧ OldK s₁.heap s'.heap ∧ s'.os = s₁.os ∧ AllBare s'.gens) s₁ := by
  have hns := G.T.g
  have hT := fun p hp => (tabs p hp).1
  have nT := fun p hp => (tabs p hp).2.1
  have C := fun p hp => (tabs p hp).2.2
  have rv := vals_ints hi
  have lenV := hi.length
  have tab : ∀ b ∈ cs.map (·.2), s₁.heap.get? b = some { cls := .none, data := .fields #[] } := fun b hb => by
    obtain ⟨p, hp, rfl⟩ := List.mem_map.mp hb
    exact hT p hp
  have tabK : ∀ b ∈ cs.map (·.2), K.lookup b = none := fun b hb => by
    obtain ⟨p, hp, rfl⟩ := List.mem_map.mp hb
    exact nT p hp
  have aT : a ∉ cs.map (·.2) := fun z => by
    have q := tab a z
    rw [ha] at q
    exact nomatch (congrArg Obj.data (Option.some.inj q) : Data.seq vs.toArray _ = Data.fields #[])
  generalize hH : startH (cs.map (·.2)) K a { cls := .type "list", data := .seq vs.toArray } (ns.map V.int) = H
  have cases_ := fun b => startH_cases (T := cs.map (·.2)) (K := K) (a := a) (b := b) (sc := { cls := .type "list", data := .seq vs.toArray }) (xs := ns.map V.int)
  rw [hH] at cases_
  have Ht : ∀ p ∈ cs, H p.2 = some (.tbl #[]) := fun p hp => by
    rw [← hH]
    exact startH_T (List.mem_map.mpr ⟨p, hp, rfl⟩)
  have hok : HOk P w H s₁.heap := fun b u e => by
    rcases cases_ b with ⟨h1, h2⟩ | ⟨_, h1, _, h2⟩ | ⟨_, _, h2⟩
    · rw [h2] at e
      cases e
      exact tab b h1
    · rw [h2] at e
      cases e
      subst h1
      exact ⟨ha, by rw [List.length_map]; exact hl, vs, _, rv, ha⟩
    · rw [h2] at e
      cases e
  have hS : SqL K H a (ns.map V.int) := by
    cases hk : K.lookup a with
    | some o =>
      have e := KX a o hk
      rw [ha] at e
      cases e
      exact .inr ⟨_, vs.toArray, _, hk, rfl, rfl, rfl, by rw [List.size_toArray, lenV]; exact hl, by simpa using rv⟩
    | none =>
      rcases cases_ a with ⟨h1, _⟩ | ⟨_, _, _, h2⟩ | ⟨_, h1, _⟩
      · exact absurd h1 aT
      · exact .inl (.inr ⟨_, h2⟩)
      · exact absurd hk (h1 rfl)
  -- what is no list and no table is not tracked
  have free : ∀ {b : Addr} {o : Obj}, s₁.heap.get? b = some o → (∀ xs n, o.data ≠ .seq xs n) → o.data ≠ .fields #[] → H b = none := fun {b o} e n1 n2 => by
    rcases cases_ b with ⟨h1, _⟩ | ⟨_, h1, _⟩ | ⟨_, _, h2⟩
    · rw [tab b h1] at e
      cases e
      exact absurd rfl n2
    · rw [h1, ha] at e
      cases e
      exact absurd rfl (n1 _ _)
    · exact h2
  have still : ∀ {b : Addr} {o : Obj}, s₁.heap.get? b = some o → (∀ xs n, o.data ≠ .seq xs n) → o.data ≠ .fields #[] → (hidT s₁.heap H).get? b = some o := fun e n1 n2 => hidT_get e (free e n1 n2)
  have nsK : ∀ {b : Addr} {m : Str → Option Value}, s₁.heap.Ns b m → (hidT s₁.heap H).Ns b m := fun {b m} ⟨o, es, ep, e, d, r⟩ => ⟨o, es, ep, still e (fun xs n z => by rw [d] at z; cases z) (fun z => by rw [d] at z; cases z), d, r⟩
  have hKb : K.In (hidT s₁.heap H) := fun b o e => hidT_get (KX b o e) (by
    rcases cases_ b with ⟨h1, _⟩ | ⟨_, h1, h2, _⟩ | ⟨_, _, h2⟩
    · rw [tabK b h1] at e
      cases e
    · rw [h1, h2] at e
      cases e
    · exact h2)
  have hM : L2.Mod K mg (hidT s₁.heap H) := ⟨hKb, nsK hns, ⟨mb, nsK G.T.b, G.T.builtins⟩, let ⟨mc, h1, h2⟩ := G.T.nolimit; ⟨mc, nsK h1, h2⟩⟩
  have TB : ∀ p ∈ cs, LamX.TabB (hidT s₁.heap H) mg p.1 p.2 := fun p hp => by
    refine ⟨?_, ?_, fun z => ?_⟩
    · obtain ⟨o, us, file, tf, flags, tg, inF, text, tt, e1, r1, r2, r3, rest⟩ := C p hp
      refine ⟨o, us, file, tf, flags, tg, inF, text, tt, still e1 (fun xs n z => by rw [r2] at z; cases z) (fun z => ?_), r1, r2, r3, rest⟩
      rw [r2] at z
      cases z
      simp at r3
    · obtain ⟨bm, ob, b1, b2, b3, b4, b5, b6⟩ := G.T.bmain
      refine ⟨bm, ob, b1, b2, fun q => ?_, fun q => ?_, still b3 (fun xs n z => by rw [b6] at z; cases z) (fun z => by rw [b6] at z; cases z), b4, b5, b6⟩
      · obtain ⟨o, es, ep, e, hd, _⟩ := hns
        rw [q, e] at b3
        cases b3
        rw [hd] at b6
        cases b6
      · rw [q, hT p hp] at b3
        cases b3
        cases b6
    · obtain ⟨o, es, ep, e, hd, _⟩ := hns
      rw [z, hT p hp] at e
      cases e
      cases hd
  have e0 : Env0 P w K mg (hidT s₁.heap H) callerA [] s₁ H := ⟨rfl, hM, fun b o e => of_hidT e, Nat.le_of_eq (hidT_size _ _), trivial, fun b hb => absurd (show b ∈ ([] : List Addr) from hb) (by simp), hok, .of_eq hg⟩
  refine codeAny_mono ((promise _ hKb (nsK hns) TB).run callerA [] s₁ H ⟨[.ref a], []⟩ [.ref a] [.ref a] _ _ room rfl e0 (binds s₁ (.ref a)) (.cons rfl .nil) (asks H Ht hS)) fun r s' h => ?_
  cases r with
  | error e => exact (none_ H e s' h).elim
  | ok fl =>
    cases fl with
    | next => exact False.elim h
    | brk => exact False.elim h
    | cont => exact False.elim h
    | ret u =>
      obtain ⟨v, H', os, bare, un, hok', r', q⟩ := h
      have q : v = .bl true := q
      subst q
      obtain rfl : u = Value.bool true := r'
      have key : ∀ b o, b ∉ cs.map (·.2) → s₁.heap.get? b = some o → s'.heap.get? b = some o := fun b o nb e => by
        rcases cases_ b with ⟨h1, _⟩ | ⟨_, _, _, h2⟩ | ⟨_, _, h2⟩
        · exact absurd h1 nb
        · obtain ⟨e1, _⟩ := hok b _ h2
          obtain ⟨e2, _⟩ := hok' b _ (un.frzs b _ _ h2)
          rw [e] at e1
          cases e1
          exact e2
        · exact un.keep b o e h2 (by intro z; exact absurd (show b ∈ ([] : List Addr) from z) (by simp)) (by simp)
      have grown : ∀ p ∈ cs, ∃ more : Array Value, s'.heap.get? p.2 = some { cls := .none, data := .fields more } := fun p hp => by
        obtain ⟨more, z⟩ := un.tbls p.2 #[] (Ht p hp)
        exact ⟨_, hok' p.2 _ z⟩
      refine ⟨rfl, ⟨fun b o e => ?_, fun b o e => ?_⟩, os, bare⟩
      · by_cases hb : b ∈ cs.map (·.2)
        · obtain ⟨p, hp, rfl⟩ := List.mem_map.mp hb
          obtain ⟨more, hm⟩ := grown p hp
          rw [hT p hp] at e
          cases e
          exact .inr (.inl ⟨((C p hp).tab (hT p hp)).isCodeTable, rfl, #[], more, rfl, by rw [Array.empty_append]; exact hm⟩)
        · exact .inl (key b o hb e)
      · by_cases hb : b ∈ cs.map (·.2)
        · obtain ⟨p, hp, rfl⟩ := List.mem_map.mp hb
          obtain ⟨more, hm⟩ := grown p hp
          exact ⟨_, hm⟩
        · exact ⟨o, key b o hb e⟩
end Ld
/-! Khe: the runs joined; the law holds. -/
namespace Ld
open PySem PySem.W PySem.Calls PyProof.Rows L2
/-- what the head leaves -/
structure HeadSays (w : World) (h : Heap) (K : PySem.W.Frag) : Prop where
  inn : K.In h
  fns : (defs.map fun d => fnA K (d.ad K)) = defs.map DefA.val
  fnsE : (excs.map fun d => fnE K (aE K d.cls)) = excs.map DefE.val
  all : allB K = true
  forms : ∃ es n, KDict K w (He.ga K "FORMS") es n
  ex2 : exB2 K = true
  ne : (He.cT K mvP).2 ≠ (He.cT K lwP).2
  hd : ∀ p ∈ tfL, PySem.W.codeHdIn K (He.cT K p).1 (He.cT K p).2 = true
  out : ∀ p ∈ tfL, K.lookup (He.cT K p).2 = none
  empty : ∀ p ∈ tfL, h.get? (He.cT K p).2 = some { cls := .none, data := .fields #[] }
theorem tri {α β γ : Type} {a a2 : α} {b b2 : β} {c c2 : γ} (e : (a, b, c) = (a2, b2, c2)) : a = a2 ∧ b = b2 ∧ c = c2 := by
  injection e with e1 e2
  injection e2 with e2 e3
  exact ⟨e1, e2, e3⟩
theorem kOf_in {h : Heap} : (KOf h.get?).In h := He.frT_in
theorem kOf_none {g : Addr → Option Obj} {a : Addr} {o : Obj} (h : g a = some o) (ht : He.emptyTab o = true) : (KOf g).lookup a = none := He.frT_none h ht
theorem headSays_of {w : World} {h : Heap} (e1 : ob1 h.get? = val1 w) (e2 : ob2 h.get? = true) (e3 : ob3 h.get? = true) (e4 : ob4 h.get? = true) : HeadSays w h (KOf h.get?) := by
  have e1 : ob1K h.get? (KOf h.get?) = val1 w := e1
  have e2 : all2 (KOf h.get?) = true := e2
  have e3 : all3 (KOf h.get?) = true := e3
  have e4 : ob4K (KOf h.get?) = true := e4
  have hin : (KOf h.get?).In h := kOf_in
  have hno : ∀ {a : Addr} {o : Obj}, h.get? a = some o → He.emptyTab o = true → (KOf h.get?).lookup a = none := fun q z => kOf_none q z
  generalize KOf h.get? = K at *
  unfold ob1K val1 at e1
  obtain ⟨a1, a2, a3⟩ := tri e1
  injection a1 with a1 a1b
  obtain ⟨g1, g2⟩ := He.ba e2
  obtain ⟨g2, g3⟩ := He.ba g2
  obtain ⟨g4, g5⟩ := He.ba e3
  obtain ⟨x1, x2⟩ := He.ba e4
  have all : allB K = true := by
    unfold allB
    rw [g1, g2, g3, g4, Bool.true_and, Bool.true_and, Bool.true_and, Bool.true_and]
    exact g5
  have key : ∀ p ∈ tfL, PySem.W.codeHdIn K (He.cT K p).1 (He.cT K p).2 = true ∧ ∃ o, h.get? (He.cT K p).2 = some o ∧ He.emptyTab o = true := fun p hp => by
    obtain ⟨h3, h4⟩ := He.ba (List.all_eq_true.mp a2 p hp)
    refine ⟨h3, ?_⟩
    cases q : h.get? (He.cT K p).2 with
    | none => rw [q] at h4; cases h4
    | some o => rw [q] at h4; exact ⟨o, rfl, h4⟩
  refine ⟨hin, a1, a1b, all, He.dicW_ok a3, x1, fun z => ?_, fun p hp => (key p hp).1, fun p hp => ?_, fun p hp => ?_⟩
  · rw [decide_eq_true (show (He.cT K ("_law_moved", none)).2 = (He.cT K ("law", none)).2 from z)] at x2
    cases x2
  · obtain ⟨_, o, q, z⟩ := key p hp
    exact hno q z
  · obtain ⟨_, o, q, z⟩ := key p hp
    rw [q, He.emptyTab_eq z]
abbrev AlA : Type := Al1 × Bool × Bool × Bool
def obsA (g : Addr → Option Obj) : AlA := (ob1 g, ob2 g, ob3 g, ob4 g)
def valA (w : World) : AlA := (val1 w, true, true, true)
theorem says_of {w : World} {h : Heap} (e : obsA h.get? = valA w) : HeadSays w h (KOf h.get?) := by
  unfold obsA valA at e
  injection e with e1 e
  injection e with e2 e
  injection e with e3 e4
  exact headSays_of e1 e2 e3 e4
def hkA : PySem.W.Hook where
  α := AlA
  obs := fun s => obsA s.heap.get?
  val := fun w => valA w
  says := fun w h => ∃ K : PySem.W.Frag, HeadSays w h K
  of := fun _ _ e => ⟨_, says_of e⟩
  keeps := fun _ _ _ ⟨K, c⟩ k => ⟨K, PySem.W.Frag.In.keeps c.inn k, c.fns, c.fnsE, c.all, c.forms, c.ex2, c.ne, c.hd, c.out, fun p hp => k _ _ (c.empty p hp)⟩
def obA (s : PySem.W.SharedT) : AlA := obsA (HandSHeadRun.getT s)
theorem obA_eq (s : PySem.W.SharedT) : obA s = hkA.obs s.abs := by
  have e : HandSHeadRun.getT s = s.abs.heap.get? := funext (HandSHeadRun.getT_eq s)
  unfold obA
  rw [e]
  unfold hkA
  exact Eq.refl _
theorem map_join {α β1 β2 β3 β4 γ δ : Type} {r : Option α} {f1 : α → β1} {f2 : α → β2} {f3 : α → β3} {f4 : α → β4} {l : α → γ} {n : α → δ} {v1 : β1} {v2 : β2} {v3 : β3} {v4 : β4} {vl : γ} {vn : δ}
    (h1 : r.map f1 = some v1) (h2 : r.map f2 = some v2) (h3 : r.map f3 = some v3) (h4 : r.map f4 = some v4) (hs : (r.map fun s => (l s, n s)) = some (vl, vn)) : (r.map fun s => (l s, n s, (f1 s, f2 s, f3 s, f4 s))) = some (vl, vn, (v1, v2, v3, v4)) := by
  cases r with
  | none => cases h1
  | some s =>
    have e1 : f1 s = v1 := Option.some.inj h1
    have e2 : f2 s = v2 := Option.some.inj h2
    have e3 : f3 s = v3 := Option.some.inj h3
    have e4 : f4 s = v4 := Option.some.inj h4
    have es : (l s, n s) = (vl, vn) := Option.some.inj hs
    injection es with e5 e6
    show some (l s, n s, (f1 s, f2 s, f3 s, f4 s)) = _
    rw [e1, e2, e3, e4, e5, e6]
theorem run_join {w : World} (h1 : Gives (fun s => ob1 (HandSHeadRun.getT s)) (val1 w) w) (h2 : Gives (fun s => ob2 (HandSHeadRun.getT s)) true w) (h3 : Gives (fun s => ob3 (HandSHeadRun.getT s)) true w) (h4 : Gives (fun s => ob4 (HandSHeadRun.getT s)) true w)
    (hs : Gives (fun s => (lk0 w s, sn0 s)) (true, openGood vw loose) w) : HandSHeadRun.RunEq RR vw hkA obA 8000 loose w := fun os => map_join (h1 os) (h2 os) (h3 os) (h4 os) (hs os)
theorem runA (w : World) : HandSHeadRun.RunEq RR vw hkA obA 8000 loose w :=
  byRow2 "special-get-raises" (P := fun w => HandSHeadRun.RunEq RR vw hkA obA 8000 loose w) (fun w => run_join (khaF w) (khbF w) (khcF w) (khdF w) (khsF w)) (fun w => run_join (khaT w) (khbT w) (khcT w) (khdT w) (khsT w)) w
end Ld
/-! Kfin: the law holds. -/
namespace Ld
open PySem PySem.W PySem.Spec PyProof.Rows L2
abbrev lawL : PySem.W.OpenLaw := PySem.Challenge.rw_lendroads_k75_whole_undo_and_redo
theorem pp_law : PP lawL.prog := { top := by decide +kernel, fil := by rfl }
theorem tz_of {w : World} {h : Heap} {K : PySem.W.Frag} {mg : Str → Option Value} (c : HeadSays w h K) (G : h.Ns mainGlobals mg) : Tz w K mg :=
  ⟨⟨fun x v e => PySem.W.mg_of c.inn G e, fun x e => PySem.W.mg_none_of c.inn G e, c.fns, c.fnsE, c.all, c.forms⟩, c.ex2⟩
theorem room17 : Room 17 callerA := ⟨rfl, by decide +kernel, by decide +kernel⟩
/-- the law's promise at the call -/
theorem sp_law {K : PySem.W.Frag} (h1 : K.lookup (He.cT K mvP).2 = none) (h2 : K.lookup (He.cT K lwP).2 = none) {H : Hp} {a : Addr} {ns : List Int} (hn : ns.length ≤ 63) (e1 : H (He.cT K mvP).2 = some (.tbl #[])) (e2 : H (He.cT K lwP).2 = some (.tbl #[])) (hS : SqL K H a (ns.map V.int)) :
    spLaw K [.ref a] H (fun v _ => v = .bl true) (fun _ _ _ => False) := by
  have ne : ∀ P : Addr, K.lookup P = none → H P = some (.tbl #[]) → P ≠ a := fun P hk hp e => by
    subst e
    rcases hS with (h | ⟨o, h⟩) | ⟨o, its, n, h, _⟩
    · rw [hp] at h; cases h
    · rw [hp] at h; cases h
    · rw [hk] at h; cases h
  have key : Same (fun b => if b = a then H b else none) H := fun b o e => by
    have e : (if b = a then H b else none) = some o := e
    by_cases q : b = a
    · rw [if_pos q] at e; exact e
    · rw [if_neg q] at e; cases e
  refine ⟨fun b => if b = a then H b else none, a, ns, rfl, key, fun H' k => ?_, by omega, TabR.nil (if_neg (ne _ h1 e1)) e1, TabR.nil (if_neg (ne _ h2 e2)) e2, fun _ => rfl⟩
  rcases hS with (h | ⟨o, h⟩) | h
  · exact .inl (.inl (k _ _ ((if_pos rfl).trans h)))
  · exact .inl (.inr ⟨o, k _ _ ((if_pos rfl).trans h)⟩)
  · exact .inr h
theorem walkL {q : Program} {loose : List Str} {XP : (Str → Option Value) → Heap → Prop} {d : DefRec} (hdf : d.params.defaults = []) (hnm : d.name = "law") :
    PySem.W.WalkO q loose XP hkA.says lawL.row.toRowW d [] (fun f vs => PySem.call f vs) := by
  refine Att.attach_callB (n := 63) rfl hdf fun w s₀ s₁ mg mb fa o pm cd doc a vs ns G Y ho hd hcd hmg hobj hints hlen hbits hg => ?_
  obtain ⟨K, c⟩ := Y
  have Z := tz_of c G.T.g
  have T := Z.t
  rw [hnm, T.g_llaw] at hmg
  obtain rfl : a_llaw K = fa := by
    injection hmg with e
    injection e with e
  have memL : ∀ p ∈ [He.cT K mvP, He.cT K lwP], ∃ r ∈ tfL, p = He.cT K r := fun p hp => by
    rcases List.mem_cons.mp hp with rfl | hp
    · exact ⟨_, List.mem_cons_self, rfl⟩
    · rw [List.mem_singleton.mp hp]
      exact ⟨_, .tail _ List.mem_cons_self, rfl⟩
  have m1 : mvP ∈ tfL := List.mem_cons_self
  have m2 : lwP ∈ tfL := .tail _ List.mem_cons_self
  refine law_callG (K := K) (CX := CX0) (k := 17) (cs := [He.cT K mvP, He.cT K lwP]) (fd := f_llaw K) (x := "_law_script") (sp := spLaw K) G c.inn hg (fun p hp => ?_) hobj hints (by rw [sizeLine_eq]; omega) room17 (fun base hK hN hTB => ?_) (fun s u => ?_) (fun H hH hS => ?_) (fun _ _ _ h => h)
  · obtain ⟨r, hr, rfl⟩ := memL p hp
    exact ⟨c.empty r hr, c.out r hr, PySem.W.codeHd_of_K c.inn (c.hd r hr)⟩
  · exact ok_llaw pp_law Z c.ne (hTB _ List.mem_cons_self) (hTB _ (.tail _ List.mem_cons_self))
  · exact T.d_llaw.bindsA (ps := P_llaw) (fun _ _ _ _ _ _ us hl => match us, hl with | [_], _ => rfl) s [u] rfl
  · exact sp_law (c.out _ m1) (c.out _ m2) hlen (hH _ List.mem_cons_self) (hH _ (.tail _ List.mem_cons_self)) hS
end Ld
open PySem PySem.W PySem.Calls PyProof.Rows
theorem PySem.Challenge.cw_lendroads_k75_whole_undo_and_redo_holds : PySem.Challenge.rw_lendroads_k75_whole_undo_and_redo.Holds := by
  w_on; o_law
  refine HandSHeadRun.head_any (r := OpenLaw.row PySem.Challenge.rw_lendroads_k75_whole_undo_and_redo) (q := Ld.vw) (H := Ld.hkA) (ob := Ld.obA) (M := 8000) (loose := Ld.loose) (kwd := []) Ld.obA_eq (by kernel_rfl) (fun s => by kernel_rfl) Ld.runA (by rfl) (by rfl) (by rfl) (by rfl) (by first | assumption | decide +kernel) (by decide +kernel) ⟨rfl, rfl, rfl, rfl, rfl, by decide +kernel⟩ ?hw ?hc
  case hw => w_witness2
  case hc => exact Ld.walkL rfl rfl
