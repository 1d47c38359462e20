import PyProof.Rows.All
import Wide.All
import OpenK.AllK
import Wide.FinOn
import KE.KStateDown
import HandS.Words
import HandS.WordsExc
import HandS.ExcInit
import HandS.ExcField
import HandS.Head0
import HandS.Head1
import HandS.Head2
import HandS.HeadEnd
import HandS.HeadHook1
import PySem.Challenge.RW_barringrings_k27_whole_path_rules
import HandS.ForMost
import HandS.Zip0
import HandS.Zip
import HandS.SortKw
import KE.GoesEnumKw
import HandS.Walk
import KE.KDictKeyed
import KE.KDictLaw
import KE.DataMinMax
import PyProof.AssignAttr
import HandS.ForExc
import HandS.TryMany
import HandS.Deep
import HandS.TupAny
import HandS.IsInst
import HandS.More
import HandS.SortRule
import HandS.Conv
import HandS.CallRecv
import HandS.WordsDict
import HandS.ExcOwn
section TxtH0
set_option Elab.async false
set_option linter.all false
set_option maxRecDepth 100000
set_option maxHeartbeats 0
/-! the head: the top's run in the kernel, what it leaves as facts (printed by h1.py) -/
namespace RS
open PySem
def top (i : Nat) : Stmt := PySem.Challenge.pw_barringrings_k27_whole_path_rules.main.body.getD i (.Pass ⟨0, 0, 0, 0⟩)
end RS
namespace RSH
open PySem PySem.Spec PyProof.Rows L2 He RS
abbrev Rw : PySem.W.OpenRow := PySem.W.OpenLaw.row PySem.Challenge.rw_barringrings_k27_whole_path_rules
abbrev qv : Program := PySem.W.view Rw.prog [66]
def names0 : List Str := ["_wall", "RingError", "InvalidPuzzle", "InvalidState", "InvalidRules", "IllegalMove", "MAX_RINGS", "MAX_LINKS_PER_RING", "MAX_LINKS", "is_integer", "is_index", "are_positions", "is_link", "is_connected", "first_invalid_link", "is_link_tuple", "is_ring", "check_rings", "ring_sizes", "Puzzle", "check_states", "ring_path", "Distances", "moves_from", "is_move"]
def names1 : List Str := ["moved", "MAX_RULES", "MAX_PARTS", "MAX_DEPTH", "MAX_MOVES", "RuleEffect", "follow_move", "follow_rule", "is_rule", "follow_part", "rule_effects", "check_rules", "follow", "is_reduced", "RuleWriter", "path_rules", "Path", "_law_draw", "_law_random_tree", "_law_positions", "_law_random_rings", "_law_moves", "_law_moved", "_law_whole", "_law_is_state"]
def names2 : List Str := ["_law_follow_part", "_law_is_rule", "_law_check", "_law_equal", "_law_invalid_state", "_law_error", "_law_errors_agree", "_law_undoes", "_law_is_reduced"]
def names : List Str := names0 ++ names1 ++ names2
/-! ### facts beyond the kit's -/
def oexB (K : PySem.W.Frag) (C : Addr) : Bool := (match K.lookup C with
  | some ⟨.type t, _, .cls cd, sl⟩ => decide (t = "type") && (match cd.mro, sl.toList with
    | .ref D :: bm, [_, _, _, _, some (.builtin n), _] => decide (D = C) && (decide (n = "ValueError.__new__") && (!cd.hasDel && (cd.hasDict && PySem.HandSPX.refsVE bm)))
    | _, _ => false)
  | _ => false) && (eqO (PySem.W.findIn K (.ref C) "__setattr__") (some (some (.builtin "object.__setattr__"))) && (decide (PySem.W.subIn K (.ref C) (.type "BaseException") = some true) && (decide (PySem.W.typeIn K (.ref C) = some (.type "type")) && PySem.W.keepIn K (.ref C))))
def baseB (K : PySem.W.Frag) (B : Addr) : Bool := PySem.W.readsIn K B (.type "type") && (eqO (PySem.W.specialIn K (.ref B) "__getattribute__") (some (some (.builtin "type.__getattribute__"))) && (match PySem.W.findCls K (.ref B) (.type "type") "__init__" with
  | some (.val v) => decide (v = .builtin "ValueError.__init__")
  | _ => false))
def tyiB (K : PySem.W.Frag) (C : Addr) : Bool := eqO (PySem.W.findIn K (.ref C) "__class__") (some (some (.builtin "object.__class__"))) && (eqO (PySem.W.specialIn K (.builtin "object.__class__") "__get__") (some (some (.builtin "getset_descriptor.__get__"))) &&
  (decide (PySem.W.takesIn K (.builtin "object.__class__") = some true) && decide (PySem.W.mroIn K C (.type "object") = some true)))
def hkitB (K : PySem.W.Frag) (C : Addr) : Bool := ["NoneType", "tuple", "int", "str"].all fun t => decide (PySem.W.kitOne K (.type t) (.ref C) = some false)
def excB (K : PySem.W.Frag) (C f : Addr) : Bool := oexB K C && (xfB K C && decide (PySem.W.typeIn K (.ref f) = some (.type "function")))
def exB (K : PySem.W.Frag) : Bool := baseB K (ga K "RingError") && (excB K (ga K "InvalidPuzzle") (ma K (ga K "InvalidPuzzle") "__init__") && (excB K (ga K "InvalidState") (ma K (ga K "InvalidState") "__init__") && (tyiB K (ga K "Puzzle") && hkitB K (ga K "Puzzle"))))
/-! ### the facts -/
def fa0 : List Fa := [.free "isinstance", .free "int", .free "bool", .free "tuple", .free "str", .free "list", .free "len", .free "all", .free "zip", .free "enumerate", .free "min", .free "max", .free "sum", .free "sorted", .free "range", .int "MAX_RINGS" 60, .int "MAX_LINKS_PER_RING" 7, .int "MAX_LINKS" 120, .int "MAX_RULES" 20000, .int "MAX_PARTS" 60, .int "MAX_DEPTH" 60, .int "MAX_MOVES" (10 ^ 60), .glo "is_integer", .keep "is_integer", .glo "is_index"]
def fa1 : List Fa := [.keep "is_index", .glo "are_positions", .keep "are_positions", .glo "is_link", .keep "is_link", .glo "is_connected", .keep "is_connected", .glo "first_invalid_link", .keep "first_invalid_link", .glo "is_link_tuple", .keep "is_link_tuple", .glo "is_ring", .keep "is_ring", .glo "check_rings", .keep "check_rings", .glo "ring_sizes", .keep "ring_sizes", .glo "check_states", .keep "check_states", .glo "ring_path", .keep "ring_path", .glo "moves_from", .keep "moves_from", .glo "is_move", .keep "is_move"]
def fa2 : List Fa := [.glo "moved", .keep "moved", .glo "follow_move", .keep "follow_move", .glo "follow_rule", .keep "follow_rule", .glo "is_rule", .keep "is_rule", .glo "follow_part", .keep "follow_part", .glo "rule_effects", .keep "rule_effects", .glo "check_rules", .keep "check_rules", .glo "follow", .keep "follow", .glo "is_reduced", .keep "is_reduced", .glo "path_rules", .keep "path_rules", .glo "_law_draw", .keep "_law_draw", .glo "_law_random_tree", .keep "_law_random_tree", .glo "_law_positions"]
def fa3 : List Fa := [.keep "_law_positions", .glo "_law_random_rings", .keep "_law_random_rings", .glo "_law_moves", .keep "_law_moves", .glo "_law_moved", .keep "_law_moved", .glo "_law_whole", .keep "_law_whole", .glo "_law_is_state", .keep "_law_is_state", .glo "_law_follow_part", .keep "_law_follow_part", .glo "_law_is_rule", .keep "_law_is_rule", .glo "_law_check", .keep "_law_check", .glo "_law_equal", .keep "_law_equal", .glo "_law_invalid_state", .keep "_law_invalid_state", .glo "_law_error", .keep "_law_error", .glo "_law_errors_agree", .keep "_law_errors_agree"]
def fa4 : List Fa := [.glo "_law_undoes", .keep "_law_undoes", .glo "_law_is_reduced", .keep "_law_is_reduced", .glo "law", .keep "law", .glo "Puzzle", .mkr "Puzzle", .cls "Puzzle", .meth "Puzzle" "__init__", .glo "Distances", .mkr "Distances", .cls "Distances", .meth "Distances" "__init__", .glo "RuleEffect", .mkr "RuleEffect", .cls "RuleEffect", .meth "RuleEffect" "__init__", .glo "RuleWriter", .mkr "RuleWriter", .cls "RuleWriter", .meth "RuleWriter" "__init__", .glo "Path", .mkr "Path", .cls "Path"]
def fa5 : List Fa := [.meth "Path" "__init__", .meth "Puzzle" "rings", .meth "Puzzle" "sizes", .meth "Puzzle" "is_state", .meth "Distances" "segments", .meth "Distances" "between", .meth "RuleEffect" "extend", .meth "RuleWriter" "parts_between", .meth "RuleWriter" "write", .meth "Path" "length", .glo "RingError", .glo "InvalidPuzzle", .meth "InvalidPuzzle" "__init__", .glo "InvalidState", .meth "InvalidState" "__init__", .noat "InvalidPuzzle" "ring", .noat "InvalidPuzzle" "link", .noat "InvalidState" "value", .noat "Puzzle" "stored_rings", .noat "Distances" "used_rings", .noat "Distances" "cache", .noat "RuleEffect" "rule_start", .noat "RuleEffect" "rule_end", .noat "RuleEffect" "move_count", .noat "RuleEffect" "depth"]
def fa6 : List Fa := [.noat "RuleEffect" "first_move", .noat "RuleEffect" "last_move", .noat "RuleEffect" "reduced", .noat "RuleWriter" "distances", .noat "RuleWriter" "rules", .noat "RuleWriter" "indices", .noat "Path" "own_puzzle", .noat "Path" "own_start", .noat "Path" "own_end", .noat "Path" "distances", .exm "InvalidState" "InvalidState" true, .exm "InvalidPuzzle" "InvalidState" false, .exm "InvalidPuzzle" "InvalidPuzzle" true]
def fa : List Fa := fa0 ++ fa1 ++ fa2 ++ fa3 ++ fa4 ++ fa5 ++ fa6
def fn0 : List FnD := [⟨("is_integer", none), "is_integer", "is_integer", defArgs (top 11), defBody (top 11), defScope (top 11)⟩, ⟨("is_index", none), "is_index", "is_index", defArgs (top 12), defBody (top 12), defScope (top 12)⟩, ⟨("are_positions", none), "are_positions", "are_positions", defArgs (top 13), defBody (top 13), defScope (top 13)⟩, ⟨("is_link", none), "is_link", "is_link", defArgs (top 14), defBody (top 14), defScope (top 14)⟩, ⟨("is_connected", none), "is_connected", "is_connected", defArgs (top 15), defBody (top 15), defScope (top 15)⟩, ⟨("first_invalid_link", none), "first_invalid_link", "first_invalid_link", defArgs (top 16), defBody (top 16), defScope (top 16)⟩, ⟨("is_link_tuple", none), "is_link_tuple", "is_link_tuple", defArgs (top 17), defBody (top 17), defScope (top 17)⟩, ⟨("is_ring", none), "is_ring", "is_ring", defArgs (top 18), defBody (top 18), defScope (top 18)⟩, ⟨("check_rings", none), "check_rings", "check_rings", defArgs (top 19), defBody (top 19), defScope (top 19)⟩, ⟨("ring_sizes", none), "ring_sizes", "ring_sizes", defArgs (top 20), defBody (top 20), defScope (top 20)⟩]
def fn1 : List FnD := [⟨("check_states", none), "check_states", "check_states", defArgs (top 22), defBody (top 22), defScope (top 22)⟩, ⟨("ring_path", none), "ring_path", "ring_path", defArgs (top 24), defBody (top 24), defScope (top 24)⟩, ⟨("moves_from", none), "moves_from", "moves_from", defArgs (top 27), defBody (top 27), defScope (top 27)⟩, ⟨("is_move", none), "is_move", "is_move", defArgs (top 28), defBody (top 28), defScope (top 28)⟩, ⟨("moved", none), "moved", "moved", defArgs (top 29), defBody (top 29), defScope (top 29)⟩, ⟨("follow_move", none), "follow_move", "follow_move", defArgs (top 36), defBody (top 36), defScope (top 36)⟩, ⟨("follow_rule", none), "follow_rule", "follow_rule", defArgs (top 37), defBody (top 37), defScope (top 37)⟩, ⟨("is_rule", none), "is_rule", "is_rule", defArgs (top 38), defBody (top 38), defScope (top 38)⟩, ⟨("follow_part", none), "follow_part", "follow_part", defArgs (top 39), defBody (top 39), defScope (top 39)⟩, ⟨("rule_effects", none), "rule_effects", "rule_effects", defArgs (top 40), defBody (top 40), defScope (top 40)⟩]
def fn2 : List FnD := [⟨("check_rules", none), "check_rules", "check_rules", defArgs (top 41), defBody (top 41), defScope (top 41)⟩, ⟨("follow", none), "follow", "follow", defArgs (top 42), defBody (top 42), defScope (top 42)⟩, ⟨("is_reduced", none), "is_reduced", "is_reduced", defArgs (top 43), defBody (top 43), defScope (top 43)⟩, ⟨("path_rules", none), "path_rules", "path_rules", defArgs (top 45), defBody (top 45), defScope (top 45)⟩, ⟨("_law_draw", none), "_law_draw", "_law_draw", defArgs (top 49), defBody (top 49), defScope (top 49)⟩, ⟨("_law_random_tree", none), "_law_random_tree", "_law_random_tree", defArgs (top 50), defBody (top 50), defScope (top 50)⟩, ⟨("_law_positions", none), "_law_positions", "_law_positions", defArgs (top 51), defBody (top 51), defScope (top 51)⟩, ⟨("_law_random_rings", none), "_law_random_rings", "_law_random_rings", defArgs (top 52), defBody (top 52), defScope (top 52)⟩, ⟨("_law_moves", none), "_law_moves", "_law_moves", defArgs (top 53), defBody (top 53), defScope (top 53)⟩, ⟨("_law_moved", none), "_law_moved", "_law_moved", defArgs (top 54), defBody (top 54), defScope (top 54)⟩]
def fn3 : List FnD := [⟨("_law_whole", none), "_law_whole", "_law_whole", defArgs (top 55), defBody (top 55), defScope (top 55)⟩, ⟨("_law_is_state", none), "_law_is_state", "_law_is_state", defArgs (top 56), defBody (top 56), defScope (top 56)⟩, ⟨("_law_follow_part", none), "_law_follow_part", "_law_follow_part", defArgs (top 57), defBody (top 57), defScope (top 57)⟩, ⟨("_law_is_rule", none), "_law_is_rule", "_law_is_rule", defArgs (top 58), defBody (top 58), defScope (top 58)⟩, ⟨("_law_check", none), "_law_check", "_law_check", defArgs (top 59), defBody (top 59), defScope (top 59)⟩, ⟨("_law_equal", none), "_law_equal", "_law_equal", defArgs (top 60), defBody (top 60), defScope (top 60)⟩, ⟨("_law_invalid_state", none), "_law_invalid_state", "_law_invalid_state", defArgs (top 61), defBody (top 61), defScope (top 61)⟩, ⟨("_law_error", none), "_law_error", "_law_error", defArgs (top 62), defBody (top 62), defScope (top 62)⟩, ⟨("_law_errors_agree", none), "_law_errors_agree", "_law_errors_agree", defArgs (top 63), defBody (top 63), defScope (top 63)⟩, ⟨("_law_undoes", none), "_law_undoes", "_law_undoes", defArgs (top 64), defBody (top 64), defScope (top 64)⟩]
def fn4 : List FnD := [⟨("_law_is_reduced", none), "_law_is_reduced", "_law_is_reduced", defArgs (top 65), defBody (top 65), defScope (top 65)⟩, ⟨("law", none), "law", "law", defArgs (top 66), defBody (top 66), defScope (top 66)⟩, ⟨("Puzzle", some "__init__"), "__init__", "Puzzle.__init__", defArgs (inClass (top 21) 0), defBody (inClass (top 21) 0), defScope (inClass (top 21) 0)⟩, ⟨("Distances", some "__init__"), "__init__", "Distances.__init__", defArgs (inClass (top 25) 0), defBody (inClass (top 25) 0), defScope (inClass (top 25) 0)⟩, ⟨("RuleEffect", some "__init__"), "__init__", "RuleEffect.__init__", defArgs (inClass (top 35) 0), defBody (inClass (top 35) 0), defScope (inClass (top 35) 0)⟩, ⟨("RuleWriter", some "__init__"), "__init__", "RuleWriter.__init__", defArgs (inClass (top 44) 0), defBody (inClass (top 44) 0), defScope (inClass (top 44) 0)⟩, ⟨("Path", some "__init__"), "__init__", "Path.__init__", defArgs (inClass (top 47) 0), defBody (inClass (top 47) 0), defScope (inClass (top 47) 0)⟩, ⟨("Puzzle", some "rings"), "rings", "Puzzle.rings", defArgs (inClass (top 21) 1), defBody (inClass (top 21) 1), defScope (inClass (top 21) 1)⟩, ⟨("Puzzle", some "sizes"), "sizes", "Puzzle.sizes", defArgs (inClass (top 21) 2), defBody (inClass (top 21) 2), defScope (inClass (top 21) 2)⟩, ⟨("Puzzle", some "is_state"), "is_state", "Puzzle.is_state", defArgs (inClass (top 21) 4), defBody (inClass (top 21) 4), defScope (inClass (top 21) 4)⟩]
def fn5 : List FnD := [⟨("Distances", some "segments"), "segments", "Distances.segments", defArgs (inClass (top 25) 1), defBody (inClass (top 25) 1), defScope (inClass (top 25) 1)⟩, ⟨("Distances", some "between"), "between", "Distances.between", defArgs (inClass (top 25) 2), defBody (inClass (top 25) 2), defScope (inClass (top 25) 2)⟩, ⟨("RuleEffect", some "extend"), "extend", "RuleEffect.extend", defArgs (inClass (top 35) 1), defBody (inClass (top 35) 1), defScope (inClass (top 35) 1)⟩, ⟨("RuleWriter", some "parts_between"), "parts_between", "RuleWriter.parts_between", defArgs (inClass (top 44) 1), defBody (inClass (top 44) 1), defScope (inClass (top 44) 1)⟩, ⟨("RuleWriter", some "write"), "write", "RuleWriter.write", defArgs (inClass (top 44) 2), defBody (inClass (top 44) 2), defScope (inClass (top 44) 2)⟩, ⟨("Path", some "length"), "length", "Path.length", defArgs (inClass (top 47) 1), defBody (inClass (top 47) 1), defScope (inClass (top 47) 1)⟩, ⟨("InvalidPuzzle", some "__init__"), "__init__", "InvalidPuzzle.__init__", defArgs (inClass (top 3) 0), defBody (inClass (top 3) 0), defScope (inClass (top 3) 0)⟩, ⟨("InvalidState", some "__init__"), "__init__", "InvalidState.__init__", defArgs (inClass (top 4) 0), defBody (inClass (top 4) 0), defScope (inClass (top 4) 0)⟩]
def fn : List FnD := fn0 ++ fn1 ++ fn2 ++ fn3 ++ fn4 ++ fn5
abbrev AlH : Type := Al × Bool
def obsH (K : PySem.W.Frag) : AlH := (obsE fa fn K, exB K)
/-! the part of the heap that is looked at: the module's names, the classes' tables, the functions, their codes; each list made whole ahead of its use -/
def frcL {α : Type} : List Addr → (List Addr → α) → α
  | [], k => k []
  | a :: r, k => HandSHeadRun.frNat a fun a => frcL r fun l => k (a :: l)
theorem frcL_eq {α : Type} : ∀ (l : List Addr) (k : List Addr → α), frcL l k = k l
  | [], _ => rfl
  | a :: r, k => by
    show HandSHeadRun.frNat a (fun a => frcL r fun l => k (a :: l)) = _
    rw [HandSHeadRun.frNat_eq, frcL_eq r]
def frcK {α : Type} (g : Addr → Option Obj) : List Addr → (PySem.W.Frag → α) → α
  | [], k => k []
  | a :: r, k => match g a with
    | some o => frcK g r fun l => k ((a, o) :: l)
    | none => frcK g r k
theorem frcK_eq {α : Type} (g : Addr → Option Obj) : ∀ (l : List Addr) (k : PySem.W.Frag → α), frcK g l k = k (frG g l)
  | [], _ => rfl
  | a :: r, k => by
    show (match g a with
      | some o => frcK g r fun l => k ((a, o) :: l)
      | none => frcK g r k) = _
    unfold frG
    rw [List.filterMap_cons]
    cases e : g a with
    | some o => exact frcK_eq g r _
    | none => exact frcK_eq g r _
def inDict (g : Addr → Option Obj) (a : Addr) : List Addr := match g a with
  | some ⟨_, _, .dict es _, _⟩ => es.toList.flatMap fun e => refV e.val
  | _ => []
def below (g : Addr → Option Obj) (a : Addr) : List Addr := match g a with
  | some ⟨_, _, .func fd, _⟩ => refV fd.code
  | some ⟨_, _, .cls cd, _⟩ => [cd.ns]
  | _ => []
def obsHG (g : Addr → Option Obj) : AlH := frcL (inDict g mainGlobals) fun l1 => frcL (l1.flatMap (below g)) fun l2 => frcL (l2.flatMap (inDict g)) fun l3 => frcL (l3.flatMap (below g)) fun l4 => frcK g (mainGlobals :: cStatics :: (l1 ++ (l2 ++ (l3 ++ l4)))) obsH
theorem obsHG_eq (g : Addr → Option Obj) : ∃ as : List Addr, obsHG g = obsH (frG g as) := by
  unfold obsHG
  rw [frcL_eq, frcL_eq, frcL_eq, frcL_eq, frcK_eq]
  exact ⟨_, rfl⟩
def hk : PySem.W.Hook where
  α := AlH
  obs := fun s => obsHG s.heap.get?
  val := fun _ => (valE fn, true)
  says := fun _ h => ∃ K : PySem.W.Frag, K.In h ∧ SaysE fa fn K ∧ exB K = true
  of := fun _ s e => by
    obtain ⟨as, q⟩ := obsHG_eq s.heap.get?
    rw [q] at e
    exact ⟨_, frG_in, congrArg (fun z : AlH => z.1) e, congrArg (fun z : AlH => z.2) e⟩
  keeps := fun _ _ _ ⟨K, hK, c⟩ k => ⟨K, PySem.W.Frag.In.keeps hK k, c⟩
def ob (s : PySem.W.SharedT) : AlH := obsHG (HandSHeadRun.getT s)
theorem ob_eq (s : PySem.W.SharedT) : ob s = hk.obs s.abs := by
  have e : HandSHeadRun.getT s = s.abs.heap.get? := funext (HandSHeadRun.getT_eq s)
  unfold ob
  rw [e]
  rfl
theorem run (w : World) : HandSHeadRun.RunEq Rw qv hk ob 16000 names w := by
  intro os
  kernel_rfl
end RSH
end TxtH0

section TxtG1
set_option Elab.async false
set_option linter.all false
set_option maxRecDepth 100000
set_option maxHeartbeats 2000000
/-! zip(tuple, list, strict=True) -/
namespace RS
open PySem
section
variable {prog : Program} {w : World} {A : Around} {E : Value → Shared → Prop} {s : Shared}
abbrev IsZipS (h : Heap) (z TI TO : Addr) (f0 : Value) : Prop :=
  h.get? z = some { cls := .type "zip", dict := none, data := .fields #[f0, .bool false, .bool true, .ref TI, .ref TO], slots := #[] }

theorem orEnd_tuple_item {it l : Addr} {i : Nat} {items} {x : Value} {Q : Option Value → Shared → Prop} (hit : s.heap.IsTupleIter it l i)
    (hl : s.heap.IsTuple l items) (hx : items[i]? = some x)
    (hQ : ∀ h', h'.IsTupleIter it l (i + 1) → Heap.SameBut it s.heap h' → Q (some x) { s with heap := h' }) :
    wpAny (model prog w) A (Builtin.SmallTypes.nextOrEnd (.ref it)) Q E s := by
  unfold Builtin.SmallTypes.nextOrEnd
  exact wpAny_bind (wpAny_attempt (RZ.nextOf_tuple_item hit hl hx fun h' a b => wpAny_pure (hQ h' a b)))
theorem orEnd_tuple_end {it l : Addr} {i : Nat} {items} {Q : Option Value → Shared → Prop} (hh : A.handled = none)
    (hit : s.heap.IsTupleIter it l i) (hl : s.heap.IsTuple l items) (hx : items[i]? = none)
    (hE : ∀ h', Heap.ExtBut it s.heap h' → Q none { s with heap := h' }) :
    wpAny (model prog w) A (Builtin.SmallTypes.nextOrEnd (.ref it)) Q E s := by
  unfold Builtin.SmallTypes.nextOrEnd
  refine wpAny_bind (wpAny_attempt (RZ.nextOf_tuple_end hh hit hl hx fun h' e hk he => ?_))
  obtain ⟨o, ho, hc⟩ := he
  refine wpAny_bind (wpAny_isInstance (T := "StopIteration") (b := true) ⟨o, ho, hc⟩ isSubtype_stop ?_)
  exact wpAny_pure (hE _ hk)
theorem orEnd_list_item {it l : Addr} {i : Nat} {items} {x : Value} {Q : Option Value → Shared → Prop} (hit : s.heap.IsListIter it l i)
    (hl : s.heap.IsList l items) (hx : items[i]? = some x)
    (hQ : ∀ h', h'.IsListIter it l (i + 1) → Heap.SameBut it s.heap h' → Q (some x) { s with heap := h' }) :
    wpAny (model prog w) A (Builtin.SmallTypes.nextOrEnd (.ref it)) Q E s := by
  unfold Builtin.SmallTypes.nextOrEnd
  exact wpAny_bind (wpAny_attempt (wpAny_nextOf_list_item hit hl hx fun h' a b => wpAny_pure (hQ h' a b)))
theorem orEnd_list_end {it l : Addr} {i : Nat} {items} {Q : Option Value → Shared → Prop} (hh : A.handled = none)
    (hit : s.heap.IsListIter it l i) (hl : s.heap.IsList l items) (hx : items[i]? = none)
    (hE : ∀ h', Heap.ExtBut it s.heap h' → Q none { s with heap := h' }) :
    wpAny (model prog w) A (Builtin.SmallTypes.nextOrEnd (.ref it)) Q E s := by
  unfold Builtin.SmallTypes.nextOrEnd
  refine wpAny_bind (wpAny_attempt (wpAny_nextOf_list_end hh hit hl hx fun h' e hk he => ?_))
  obtain ⟨o, ho, hc⟩ := he
  refine wpAny_bind (wpAny_isInstance (T := "StopIteration") (b := true) ⟨o, ho, hc⟩ isSubtype_stop ?_)
  exact wpAny_pure (hE _ hk)

theorem zipS_next_item {z TI TO i1 i2 l1 l2 : Addr} {k1 k2 : Nat} {xs ys : Array Value} {x y a b : Value} {Q : Value → Shared → Prop} (D : ZipApart z TI TO i1 i2 l1 l2)
    (hz : IsZipS s.heap z TI TO .none) (hTI : IsPair s.heap TI (.ref i1) (.ref i2)) (hTO : IsPair s.heap TO a b)
    (h1 : s.heap.IsTupleIter i1 l1 k1) (h2 : s.heap.IsListIter i2 l2 k2) (hl1 : s.heap.IsTuple l1 xs) (hl2 : s.heap.IsList l2 ys) (hx : xs[k1]? = some x) (hy : ys[k2]? = some y)
    (hQ : ∀ h', IsZipS h' z TI TO (rawInt s.heap.objs.size) → IsPair h' TO x y → h'.IsTupleIter i1 l1 (k1 + 1) → h'.IsListIter i2 l2 (k2 + 1) → IsPair h' s.heap.objs.size x y → h'.objs.size = s.heap.objs.size + 1 →
      (∀ c o, c ≠ z → c ≠ TO → c ≠ i1 → c ≠ i2 → s.heap.get? c = some o → h'.get? c = some o) → Q (.ref s.heap.objs.size) { s with heap := h' }) :
    wpAny (model prog w) A (Builtin.«zip.__next__» ⟨[.ref z], []⟩) (fun fin s' => ∃ v, fin = .done (.ret v) ∧ Q v s') E s := by
  show wpAny _ _ (field (.ref z) 2 >>= _) _ _ _
  refine wpAny_bind (wpAny_field hz rfl (x := .bool true) rfl ?_)
  show wpAny _ _ (field (.ref z) 3 >>= _) _ _ _
  refine wpAny_bind (wpAny_field hz rfl (x := .ref TI) rfl ?_)
  refine wpAny_bind (wpAny_seqItems hTI rfl ?_)
  show wpAny _ _ (Builtin.SmallTypes.ownedTupleIsFree (.ref z) >>= _) _ _ _
  refine wpAny_bind ?_
  unfold Builtin.SmallTypes.ownedTupleIsFree
  refine wpAny_bind (wpAny_field hz rfl (x := .none) rfl (wpAny_pure ?_))
  simp only [if_true]
  refine wpAny_bind (wpAny_rule ?_)
  refine wpAny_bind (wpAny_field hz rfl (x := .ref TO) rfl ?_)
  refine wpAny_bind (wpAny_setField_rec hz (by simp) fun h₁ hz₁ hs₁ => ?_)
  replace hz₁ : IsZipS h₁ z TI TO .ellipsis := hz₁
  refine wpAny_bind ?_
  simp only [List.zipIdx_cons, List.zipIdx_nil, List.forIn_cons, List.forIn_nil]

  refine wpAny_bind (wpAny_bind (wpAny_onRaise ?_))
  show wpAny _ _ (Builtin.SmallTypes.nextOrEnd (.ref i1)) _ _ _
  refine orEnd_tuple_item (h1.extBut hs₁.extBut D.i1z) (hl1.extBut hs₁.extBut D.l1z) hx fun h₂ h1₂ hs₂ => ?_
  have hTO₂ : IsPair h₂ TO a b := hs₂.extBut _ _ D.TOi1 (hs₁.extBut _ _ D.TOz hTO)
  refine wpAny_bind (wpAny_seqItems hTO₂ rfl ?_)
  refine wpAny_bind (wpAny_updateSeq_pair hTO₂ fun h₃ hTO₃ hs₃ => ?_)
  replace hTO₃ : IsPair h₃ TO x b := hTO₃
  refine wpAny_bind (wpAny_letGo (wpAny_pure ?_))

  refine wpAny_bind (wpAny_bind (wpAny_onRaise ?_))
  show wpAny _ _ (Builtin.SmallTypes.nextOrEnd (.ref i2)) _ _ _
  refine orEnd_list_item (((h2.extBut hs₁.extBut D.i2z).extBut hs₂.extBut D.i12.symm).extBut hs₃.extBut D.TOi2.symm)
    (((hl2.extBut hs₁.extBut D.l2z).extBut hs₂.extBut D.l2i1).extBut hs₃.extBut D.l2TO) hy fun h₄ h2₄ hs₄ => ?_
  have hTO₄ : IsPair h₄ TO x b := hs₄.extBut _ _ D.TOi2 hTO₃
  refine wpAny_bind (wpAny_seqItems hTO₄ rfl ?_)
  refine wpAny_bind (wpAny_updateSeq_pair hTO₄ fun h₅ hTO₅ hs₅ => ?_)
  replace hTO₅ : IsPair h₅ TO x y := hTO₅
  refine wpAny_bind (wpAny_letGo (wpAny_pure (wpAny_pure ?_)))

  refine wpAny_bind (wpAny_seqItems hTO₅ rfl ?_)
  refine wpAny_bind (wpAny_newTuple ?_)
  have hsz : h₅.objs.size = s.heap.objs.size := by rw [hs₅.1, hs₄.1, hs₃.1, hs₂.1, hs₁.1]
  have hz₅ : IsZipS h₅ z TI TO .ellipsis := hs₅.extBut _ _ D.TOz.symm (hs₄.extBut _ _ D.i2z.symm (hs₃.extBut _ _ D.TOz.symm (hs₂.extBut _ _ D.i1z.symm hz₁)))
  have hk₅ : ∀ c o, c ≠ z → c ≠ TO → c ≠ i1 → c ≠ i2 → s.heap.get? c = some o → h₅.get? c = some o := fun c o c1 c2 c3 c4 e =>
    hs₅.extBut _ _ c2 (hs₄.extBut _ _ c4 (hs₃.extBut _ _ c2 (hs₂.extBut _ _ c3 (hs₁.extBut _ _ c1 e))))
  have h1₅ : h₅.IsTupleIter i1 l1 (k1 + 1) := ((h1₂.extBut hs₃.extBut D.TOi1.symm).extBut hs₄.extBut D.i12).extBut hs₅.extBut D.TOi1.symm
  have h2₅ : h₅.IsListIter i2 l2 (k2 + 1) := h2₄.extBut hs₅.extBut D.TOi2.symm
  have hzlt : z < h₅.objs.size := Heap.lt_size hz₅
  show wpAny _ _ (Builtin.SmallTypes.ownedTupleHandOut (.ref z) (.ref h₅.objs.size) >>= _) _ _ _
  refine wpAny_bind ?_
  unfold Builtin.SmallTypes.ownedTupleHandOut
  have hz₆ : IsZipS (h₅.push { cls := .type "tuple", data := .seq #[x, y] }) z TI TO .ellipsis := Heap.get?_push_of_some _ hz₅
  refine wpAny_bind (wpAny_setField_rec hz₆ (by simp) fun h₇ hz₇ hs₇ => ?_)
  replace hz₇ : IsZipS h₇ z TI TO (rawInt h₅.objs.size) := hz₇
  refine wpAny_setField_rec hz₇ (by simp) fun h₈ hz₈ hs₈ => ?_
  replace hz₈ : IsZipS h₈ z TI TO (rawInt h₅.objs.size) := hz₈
  have up : ∀ c o, c ≠ z → h₅.get? c = some o → h₈.get? c = some o := fun c o c1 e => hs₈.extBut _ _ c1 (hs₇.extBut _ _ c1 (Heap.get?_push_of_some _ e))
  have hT₈ : IsPair h₈ h₅.objs.size x y := hs₈.extBut _ _ (Nat.ne_of_gt hzlt) (hs₇.extBut _ _ (Nat.ne_of_gt hzlt) (Heap.get?_push_size _ rfl))
  have hz8 : h₈.objs.size = h₅.objs.size + 1 := by rw [hs₈.1, hs₇.1, Heap.size_push]
  rw [hsz] at hz₈ hT₈ hz8
  refine wpAny_pure ⟨_, rfl, ?_⟩
  show Q (.ref h₅.objs.size) _
  rw [hsz]
  exact hQ h₈ hz₈ (up _ _ D.TOz hTO₅) (h1₅.at fun o e => up _ o D.i1z e) (h2₅.at fun o e => up _ o D.i2z e) hT₈ hz8 fun c o c1 c2 c3 c4 e => up c o c1 (hk₅ c o c1 c2 c3 c4 e)

theorem zipS_next_end {z TI TO i1 i2 l1 l2 : Addr} {k1 k2 : Nat} {xs ys : Array Value} {a b : Value} {Q : Fin → Shared → Prop} (hh : A.handled = none) (D : ZipApart z TI TO i1 i2 l1 l2)
    (hz : IsZipS s.heap z TI TO .none) (hTI : IsPair s.heap TI (.ref i1) (.ref i2)) (hTO : IsPair s.heap TO a b)
    (h1 : s.heap.IsTupleIter i1 l1 k1) (h2 : s.heap.IsListIter i2 l2 k2) (hl1 : s.heap.IsTuple l1 xs) (hl2 : s.heap.IsList l2 ys) (hx : xs[k1]? = none) (hy : ys[k2]? = none)
    (hE : ∀ h' e, (∀ c o, c ≠ z → c ≠ TO → c ≠ i1 → c ≠ i2 → s.heap.get? c = some o → h'.get? c = some o) → (∃ o, h'.get? e = some o ∧ o.cls = .type "StopIteration") → E (.ref e) { s with heap := h' }) :
    wpAny (model prog w) A (Builtin.«zip.__next__» ⟨[.ref z], []⟩) Q E s := by
  show wpAny _ _ (field (.ref z) 2 >>= _) _ _ _
  refine wpAny_bind (wpAny_field hz rfl (x := .bool true) rfl ?_)
  show wpAny _ _ (field (.ref z) 3 >>= _) _ _ _
  refine wpAny_bind (wpAny_field hz rfl (x := .ref TI) rfl ?_)
  refine wpAny_bind (wpAny_seqItems hTI rfl ?_)
  show wpAny _ _ (Builtin.SmallTypes.ownedTupleIsFree (.ref z) >>= _) _ _ _
  refine wpAny_bind ?_
  unfold Builtin.SmallTypes.ownedTupleIsFree
  refine wpAny_bind (wpAny_field hz rfl (x := .none) rfl (wpAny_pure ?_))
  simp only [if_true]
  refine wpAny_bind (wpAny_rule ?_)
  refine wpAny_bind (wpAny_field hz rfl (x := .ref TO) rfl ?_)
  refine wpAny_bind (wpAny_setField_rec hz (by simp) fun h₁ hz₁ hs₁ => ?_)
  replace hz₁ : IsZipS h₁ z TI TO .ellipsis := hz₁
  refine wpAny_bind ?_
  simp only [List.zipIdx_cons, List.zipIdx_nil, List.forIn_cons, List.forIn_nil]
  refine wpAny_bind (wpAny_bind (wpAny_onRaise ?_))
  show wpAny _ _ (Builtin.SmallTypes.nextOrEnd (.ref i1)) _ _ _
  refine orEnd_tuple_end hh (h1.extBut hs₁.extBut D.i1z) (hl1.extBut hs₁.extBut D.l1z) hx fun h₂ hs₂ => ?_
  have hz₂ : IsZipS h₂ z TI TO .ellipsis := hs₂ _ _ D.i1z.symm hz₁
  refine wpAny_bind (wpAny_setField_rec hz₂ (by simp) fun h₃ hz₃ hs₃ => ?_)
  have up3 : ∀ c o, c ≠ z → c ≠ i1 → s.heap.get? c = some o → h₃.get? c = some o := fun c o c1 c3 x => hs₃.extBut _ _ c1 (hs₂ _ _ c3 (hs₁.extBut _ _ c1 x))
  refine wpAny_bind ?_
  show wpAny _ _ ((do
    for p in ([(Value.ref i2, 1)] : List (Value × Nat)) do
      if (← Builtin.SmallTypes.nextOrEnd p.1).isSome then
        rule "zip.__next__.longer"; raiseError "ValueError" s!"zip() argument {p.2 + 1} is longer than {_}"
    rule "zip.__next__.all-ended"; Builtin.SmallTypes.stopIteration : Sem PySem.Fin)) _ _ _
  simp only [List.forIn_cons, List.forIn_nil]
  refine wpAny_bind (wpAny_bind (wpAny_bind ?_))
  refine orEnd_list_end hh (h2.at fun o e => up3 _ o D.i2z D.i12.symm e) (hl2.at fun o e => up3 _ o D.l2z D.l2i1 e) hy fun h₄ hs₄ => ?_
  simp only [Option.isSome_none, Bool.false_eq_true, if_false]
  refine wpAny_pure (wpAny_pure (wpAny_bind (wpAny_rule ?_)))
  unfold Builtin.SmallTypes.stopIteration
  show wpAny _ _ (newExc (.type "StopIteration") [] >>= _) _ _ _
  refine wpAny_bind ?_
  simp only [newExc, newTuple]
  refine wpAny_bind (wpAny_newObj_type ?_ (by size_fits))
  refine wpAny_bind (m := firstArgMember _ _) (wpAny_of_eq (a := Value.none) (by first | rfl | (simp only [firstArgMember]; rfl)) ?_)
  refine wpAny_newObj_type ?_ (by size_fits)
  simp only [raiseNew]
  refine wpAny_bind (wpAny_handled ?_)
  first | rw [show A.in1.handled = none from hh] | rw [hh]
  refine wpAny_bind (wpAny_pure (wpAny_throw ?_))
  exact hE _ _ (fun c o c1 c2 c3 c4 e => Heap.get?_push_of_some _ (Heap.get?_push_of_some _ (hs₄ _ _ c4 (up3 _ _ c1 c3 e)))) ⟨_, Heap.get?_push_size _ rfl, rfl⟩
theorem pyNext_zipS_item {z TI TO i1 i2 l1 l2 : Addr} {k1 k2 : Nat} {xs ys : Array Value} {x y a b : Value} {Q : Option Value → Shared → Prop} (D : ZipApart z TI TO i1 i2 l1 l2)
    (hz : IsZipS s.heap z TI TO .none) (hTI : IsPair s.heap TI (.ref i1) (.ref i2)) (hTO : IsPair s.heap TO a b)
    (h1 : s.heap.IsTupleIter i1 l1 k1) (h2 : s.heap.IsListIter i2 l2 k2) (hl1 : s.heap.IsTuple l1 xs) (hl2 : s.heap.IsList l2 ys) (hx : xs[k1]? = some x) (hy : ys[k2]? = some y)
    (hQ : ∀ h', IsZipS h' z TI TO (rawInt s.heap.objs.size) → IsPair h' TO x y → h'.IsTupleIter i1 l1 (k1 + 1) → h'.IsListIter i2 l2 (k2 + 1) → IsPair h' s.heap.objs.size x y → h'.objs.size = s.heap.objs.size + 1 →
      (∀ c o, c ≠ z → c ≠ TO → c ≠ i1 → c ≠ i2 → s.heap.get? c = some o → h'.get? c = some o) → Q (some (.ref s.heap.objs.size)) { s with heap := h' }) :
    wpAny (model prog w) A (pyNext (.ref z)) Q E s := by
  have hT : s.TypeIs (.ref z) "zip" := ⟨_, hz, rfl⟩
  unfold pyNext
  exact wpAny_bind (wpAny_attempt (wpAny_callSpecial?_slot (name := Str.ofString "__next__") hT F.slot_zip_next
    (wpAny_call_entry F.slot_zip_next hT F.entry_zip_next
      (zipS_next_item D hz hTI hTO h1 h2 hl1 hl2 hx hy fun h' a1 a2 a3 a4 a5 a6 a7 => wpAny_pure (hQ h' a1 a2 a3 a4 a5 a6 a7)) (F.args_zip_next_1 _))))
theorem pyNext_zipS_end {z TI TO i1 i2 l1 l2 : Addr} {k1 k2 : Nat} {xs ys : Array Value} {a b : Value} {Q : Option Value → Shared → Prop} (hh : A.handled = none) (D : ZipApart z TI TO i1 i2 l1 l2)
    (hz : IsZipS s.heap z TI TO .none) (hTI : IsPair s.heap TI (.ref i1) (.ref i2)) (hTO : IsPair s.heap TO a b)
    (h1 : s.heap.IsTupleIter i1 l1 k1) (h2 : s.heap.IsListIter i2 l2 k2) (hl1 : s.heap.IsTuple l1 xs) (hl2 : s.heap.IsList l2 ys) (hx : xs[k1]? = none) (hy : ys[k2]? = none)
    (hQ : ∀ h', (∀ c o, c ≠ z → c ≠ TO → c ≠ i1 → c ≠ i2 → s.heap.get? c = some o → h'.get? c = some o) → Q none { s with heap := h' }) : wpAny (model prog w) A (pyNext (.ref z)) Q E s := by
  have hT : s.TypeIs (.ref z) "zip" := ⟨_, hz, rfl⟩
  unfold pyNext
  refine wpAny_bind (wpAny_attempt (wpAny_callSpecial?_slot (name := Str.ofString "__next__") hT F.slot_zip_next
    (wpAny_call_entry F.slot_zip_next hT F.entry_zip_next (zipS_next_end hh D hz hTI hTO h1 h2 hl1 hl2 hx hy fun h' e hk he => ?_) (F.args_zip_next_1 _))))
  obtain ⟨o, ho, hc⟩ := he
  refine wpAny_bind (wpAny_isInstance (T := "StopIteration") (b := true) ⟨o, ho, hc⟩ isSubtype_stop ?_)
  exact wpAny_pure (hQ _ hk)
theorem letGo_zipS {elts : List Expr} {x1} {pos : Pos} {z TI TO T : Addr} {Q : Unit → Shared → Prop} (hz : IsZipS s.heap z TI TO (rawInt T))
    (hQ : ∀ h', IsZipS h' z TI TO .none → Heap.SameBut z s.heap h' → Q () { s with heap := h' }) :
    wpAny (model prog w) A (letOwnedTupleGo (.Tuple elts x1 pos) (.ref z) (.ref T)) Q E s := by
  unfold letOwnedTupleGo
  refine wpAny_bind (wpAny_load hz ?_)
  show wpAny _ _ (if (["enumerate", "zip", "dict_itemiterator", "dict_reverseitemiterator", "odict_iterator", "itertools.zip_longest", "itertools.pairwise"].contains "zip" &&
      (#[rawInt T, .bool false, .bool true, .ref TI, .ref TO] : Array Value)[0]? == some (rawInt T)) = true then _ else _) Q E s
  rw [if_pos (by simp)]
  refine wpAny_bind (wpAny_rule ?_)
  show wpAny _ _ (setField (.ref z) 0 .none) Q E s
  exact wpAny_setField_rec hz (by simp) fun h' hz' hs' => hQ h' hz' hs'
theorem pyIter_zipS {z TI TO : Addr} {f0 : Value} {Q : Value → Shared → Prop} (hz : IsZipS s.heap z TI TO f0) (h : Q (.ref z) s) : wpAny (model prog w) A (pyIter (.ref z)) Q E s := by
  have hT : s.TypeIs (.ref z) "zip" := ⟨_, hz, rfl⟩
  refine wpAny_pyIter_slot hT F.slot_zip_iter (wpAny_call_entry F.slot_zip_iter hT F.entry_zip_iter ?_ (F.args_zip_iter_1 _))
  show wpAny _ _ (ret (.ref z)) _ _ s
  exact wpAny_pure ⟨_, rfl, "zip", _, hT, F.slot_zip_next.lookup, h⟩
end

abbrev zS1 (h : Heap) (l1 : Addr) : Heap := h.push { cls := .type "tuple_iterator", data := .fields #[.ref l1, .int 0 0] }
abbrev zS2 (h : Heap) (l1 l2 : Addr) : Heap := (zS1 h l1).push { cls := .type "list_iterator", data := .fields #[.ref l2, .int 0 0] }
abbrev zS3 (h : Heap) (l1 l2 : Addr) : Heap := (zS2 h l1 l2).push { cls := .type "tuple", data := .seq #[.ref h.objs.size, .ref (zS1 h l1).objs.size] }
abbrev zS4 (h : Heap) (l1 l2 : Addr) : Heap := (zS3 h l1 l2).push { cls := .type "tuple", data := .seq #[.none, .none] }
abbrev zS5 (h : Heap) (l1 l2 : Addr) : Heap := (zS4 h l1 l2).push { cls := .type "zip", data := .fields #[.none, .bool false, .bool true, .ref (zS2 h l1 l2).objs.size, .ref (zS3 h l1 l2).objs.size] }

theorem meets_zipS_new (l1 l2 : Addr) (xs ys : Array Value) :
    Meets (Builtin.«zip.__new__» ⟨[.type "zip", .ref l1, .ref l2], [(Str.ofString "strict", .bool true)]⟩) (fun _ R s => s.heap.IsTuple l1 xs ∧ s.heap.IsList l2 ys ∧
      R (.ok (.ret (.ref (zS4 s.heap l1 l2).objs.size))) { s with heap := zS5 s.heap l1 l2 }) :=
  .of_wp fun prog w A R s h => by
    obtain ⟨hp, g, d, tk, os⟩ := s; obtain ⟨hl1, hl2, h⟩ := h
    have hsub := sub_zip
    have hL1 : Heap.IsTuple (Shared.heap ⟨hp, g, d, tk, os⟩) l1 xs := hl1
    have hL2 : Heap.IsList (Shared.heap ⟨hp.push { cls := .type "tuple_iterator", data := .fields #[.ref l1, .int 0 0] }, g, d, tk, os⟩) l2 ys := Heap.IsList.push hl2 _
    have e1 : (Str.ofString "strict" == ("strict" : Str)) = true := by decide +kernel
    have e2 : (Str.ofString "strict" != ("strict" : Str)) = false := by decide +kernel
    wp_walk using wpAny_pyIter_tuple hL1, wpAny_pyIter_list hL2
    exact ⟨_, rfl, h⟩
theorem typeCall_zipS (a b c : Value) : checkTypeCall "zip" ⟨[a, b], [(Str.ofString "strict", c)]⟩ = pure () := by kernel_rfl
theorem newCall_zipS (a b c : Value) : checkBuiltinCall "zip.__new__" ⟨[.type "zip", a, b], [(Str.ofString "strict", c)]⟩ = pure () := by kernel_rfl
theorem args_initS (obj a b c : Value) : argsOk "object.__init__" ⟨[obj, a, b], [(Str.ofString "strict", c)]⟩ := by
  unfold argsOk; kernel_rfl
section
variable {prog : Program} {w : World} {A : Around} {E : Value → Shared → Prop} {s : Shared}
theorem call_zipS {l1 l2 : Addr} {xs ys : Array Value} {Q : Value → Shared → Prop} (hl1 : s.heap.IsTuple l1 xs) (hl2 : s.heap.IsList l2 ys)
    (h : ∀ h', IsZipS h' (s.heap.objs.size + 4) (s.heap.objs.size + 2) (s.heap.objs.size + 3) .none → IsPair h' (s.heap.objs.size + 2) (.ref s.heap.objs.size) (.ref (s.heap.objs.size + 1)) →
      IsPair h' (s.heap.objs.size + 3) .none .none → h'.IsTupleIter s.heap.objs.size l1 0 → h'.IsListIter (s.heap.objs.size + 1) l2 0 → h'.objs.size = s.heap.objs.size + 5 →
      (∀ c o, s.heap.get? c = some o → h'.get? c = some o) → Q (.ref (s.heap.objs.size + 4)) { s with heap := h' }) :
    wpAny (model prog w) A (call (.type "zip") [.ref l1, .ref l2] [(Str.ofString "strict", .bool true)]) Q E s := by
  refine callType_newKw F.called_zip (by decide) (typeCall_zipS _ _ _) (newCall_zipS _ _ _) (fun obj => args_initS obj _ _ _) F.entry_zip_new
    (meets_zipS_new l1 l2 xs ys) ⟨hl1, hl2, ?_⟩
  have z1 : (zS1 s.heap l1).objs.size = s.heap.objs.size + 1 := Heap.size_push ..
  have z2 : (zS2 s.heap l1 l2).objs.size = s.heap.objs.size + 2 := by rw [Heap.size_push, z1]
  have z3 : (zS3 s.heap l1 l2).objs.size = s.heap.objs.size + 3 := by rw [Heap.size_push, z2]
  have z4 : (zS4 s.heap l1 l2).objs.size = s.heap.objs.size + 4 := by rw [Heap.size_push, z3]
  have z5 : (zS5 s.heap l1 l2).objs.size = s.heap.objs.size + 5 := by rw [Heap.size_push, z4]
  have g5 : (zS5 s.heap l1 l2).get? (zS4 s.heap l1 l2).objs.size = some _ := Heap.get?_push_size _ rfl
  have g4 : (zS5 s.heap l1 l2).get? (zS3 s.heap l1 l2).objs.size = some _ := Heap.get?_push_of_some _ (Heap.get?_push_size _ rfl)
  have g3 : (zS5 s.heap l1 l2).get? (zS2 s.heap l1 l2).objs.size = some _ := Heap.get?_push_of_some _ (Heap.get?_push_of_some _ (Heap.get?_push_size _ rfl))
  have g2 : (zS5 s.heap l1 l2).get? (zS1 s.heap l1).objs.size = some _ := Heap.get?_push_of_some _ (Heap.get?_push_of_some _ (Heap.get?_push_of_some _ (Heap.get?_push_size _ rfl)))
  have g1 : (zS5 s.heap l1 l2).get? s.heap.objs.size = some _ := Heap.get?_push_of_some _ (Heap.get?_push_of_some _ (Heap.get?_push_of_some _ (Heap.get?_push_of_some _ (Heap.get?_push_size _ rfl))))
  show _ ∧ _
  rw [z2, z3, z4] at g5
  rw [z1, z2] at g3
  rw [z3] at g4
  rw [z1] at g2
  rw [z4]
  exact ⟨⟨_, g5, rfl⟩, h _ g5 g3 g4 ⟨_, g1, rfl, rfl⟩ ⟨_, g2, rfl, rfl⟩ z5 fun c o x =>
    Heap.get?_push_of_some _ (Heap.get?_push_of_some _ (Heap.get?_push_of_some _ (Heap.get?_push_of_some _ (Heap.get?_push_of_some _ x))))⟩
end
end RS
end TxtG1

section TxtG2
set_option Elab.async false
set_option linter.all false
set_option maxRecDepth 100000
set_option maxHeartbeats 2000000
/-! zip(tuple, list, strict=True), enumerate(tuple), over the layer -/
namespace RS
open PySem PySem.Spec PyProof.Rows L2 RZ
def ItzS (K : PySem.W.Frag) (a b : Addr) : It :=
  ⟨fun i H => ∃ (xs ys : List V) (x y : V), SqT K H a xs ∧ SqL K H b ys ∧ xs[i]? = some x ∧ ys[i]? = some y,
    fun i H v H' => ∃ T x y, v = .ref T ∧ H T = none ∧ H' = upd H T (.tup [x, y]) ∧ (∀ xs, SqT K H a xs → xs[i]? = some x) ∧ ∀ ys, SqL K H b ys → ys[i]? = some y,
    fun i H => ∃ xs ys : List V, SqT K H a xs ∧ SqL K H b ys ∧ xs.length ≤ i ∧ ys.length ≤ i⟩
theorem turn_zipS {P : Program} {w : World} {K : PySem.W.Frag} {elts : List Expr} {kk : Nat} {tpos : Pos} {a b z TI TO i1 i2 : Addr} (D : ZipApart z TI TO i1 i2 a b) :
    Turn P w K (.Tuple elts kk tpos) (ItzS K a b) [z, TI, TO, i1, i2] z (fun i h => IsZipS h z TI TO .none ∧ IsPair h TI (.ref i1) (.ref i2) ∧ (∃ x y, IsPair h TO x y) ∧ h.IsTupleIter i1 a i ∧ h.IsListIter i2 b i) where
  mem := by simp
  obj := fun i h st c hc => by
    obtain ⟨hz, hTI, ⟨x, y, hTO⟩, ⟨o1, e1, _, d1⟩, ⟨o2, e2, _, d2⟩⟩ := st
    have e' : c = z ∨ c = TI ∨ c = TO ∨ c = i1 ∨ c = i2 := by simpa using hc
    rcases e' with q | q | q | q | q
    · rw [q]; exact ⟨_, hz, fun v q => nomatch q⟩
    · rw [q]; exact ⟨_, hTI, fun v q => nomatch q⟩
    · rw [q]; exact ⟨_, hTO, fun v q => nomatch q⟩
    · rw [q]; exact ⟨o1, e1, fun v q => by rw [d1] at q; cases q⟩
    · rw [q]; exact ⟨o2, e2, fun v q => by rw [d2] at q; cases q⟩
  keep := fun i h h' st k => by
    obtain ⟨hz, hTI, ⟨x, y, hTO⟩, h1, h2⟩ := st
    exact ⟨k z (by simp) _ hz, k TI (by simp) _ hTI, ⟨x, y, k TO (by simp) _ hTO⟩, h1.at fun o q => k i1 (by simp) o q, h2.at fun o q => k i2 (by simp) o q⟩
  item := by
    intro X hP hw hK hc i pins s σ H E I hf st hg
    subst hP hw hK
    obtain ⟨hz, hTI, ⟨x0, y0, hTO⟩, h1, h2⟩ := st
    obtain ⟨xs, ys, x, y, hqx, hqy, hx, hy⟩ := hg
    obtain ⟨its, rv, p, _⟩ := I.tuple hqx
    obtain ⟨its2, rv2, p2, _⟩ := I.list hqy
    obtain ⟨u, hu, ru⟩ := rv.get hx
    obtain ⟨u2, hu2, ru2⟩ := rv2.get hy
    have hzl : z < s.heap.objs.size := Heap.lt_size hz
    refine pyNext_zipS_item D hz hTI hTO h1 h2 p p2.isList (x := u) (y := u2) (by simpa using hu) (by simpa using hu2) fun h' z' TO' h1' h2' hT hsz hk => ?_
    refine ⟨_, rfl, letGo_zipS (s := { s with heap := h' }) z' fun h'' z'' sb => ?_⟩
    have hT2 : h''.get? s.heap.objs.size = some { cls := .type "tuple", data := .seq #[u, u2] } := (sb.2 _ (Nat.ne_of_gt hzl)).trans hT
    have new : ObjOk X.prog X.w (upd H s.heap.objs.size (.tup [x, y])) h'' s.heap.objs.size (.tup [x, y]) :=
      ⟨by show 2 ≤ sizeLine; decide, [u, u2], .cons ru (.cons ru2 .nil), ⟨_, hT2, rfl, _, rfl⟩⟩
    have I1 : Inv X pins σ (upd H s.heap.objs.size (.tup [x, y])) { s with heap := h'' } :=
      I.turnedNew (t' := s.toks) (ch := [z, TI, TO, i1, i2]) (fun c o hb q => (sb.2 c (fun q' => hb (by simp [q']))).trans (hk c o (fun q' => hb (by simp [q'])) (fun q' => hb (by simp [q'])) (fun q' => hb (by simp [q'])) (fun q' => hb (by simp [q'])) q)) hf (Nat.le_refl _) new
    refine ⟨.ref s.heap.objs.size, _, I1, rfl, ⟨_, x, y, rfl, I.hok.fresh (Nat.le_refl _), rfl, fun l hl => by rw [I.tuple_inj hl hqx]; exact hx, fun l hl => by rw [I.list_inj hl hqy]; exact hy⟩, ⟨z'', ?_, ⟨u, u2, ?_⟩, ?_, ?_⟩, fun c hcm => ?_⟩
    · exact (sb.2 _ D.TIz).trans (hk _ _ D.TIz D.TITO D.TIi1 D.TIi2 hTI)
    · exact (sb.2 _ D.TOz).trans TO'
    · exact h1'.at fun o q => (sb.2 _ D.i1z).trans q
    · exact h2'.at fun o q => (sb.2 _ D.i2z).trans q
    · have hlt : c < s.heap.objs.size := by
        have e' : c = z ∨ c = TI ∨ c = TO ∨ c = i1 ∨ c = i2 := by simpa using hcm
        rcases e' with q | q | q | q | q
        · rw [q]; exact hzl
        · rw [q]; exact Heap.lt_size hTI
        · rw [q]; exact Heap.lt_size hTO
        · rw [q]; obtain ⟨_, e1, _⟩ := h1; exact Heap.lt_size e1
        · rw [q]; obtain ⟨_, e2, _⟩ := h2; exact Heap.lt_size e2
      rw [upd_ne (Nat.ne_of_lt hlt)]
      exact (hf c hcm).1
  done := by
    intro X hP hw hK hc i pins s σ H E I hf st hg
    subst hP hw hK
    obtain ⟨hz, hTI, ⟨x0, y0, hTO⟩, h1, h2⟩ := st
    obtain ⟨xs, ys, hqx, hqy, e1, e2⟩ := hg
    obtain ⟨its, rv, p, _⟩ := I.tuple hqx
    obtain ⟨its2, rv2, p2, _⟩ := I.list hqy
    have l1 := rv.length
    have l2 := rv2.length
    exact pyNext_zipS_end (I.ok.hd hc) D hz hTI hTO h1 h2 p p2.isList (by simp; omega) (by simp; omega) fun h' hk => ⟨rfl, I.turnedL (t' := s.toks) (ch := [z, TI, TO, i1, i2]) (fun c o hb q =>
      hk c o (fun q' => hb (by simp [q'])) (fun q' => hb (by simp [q'])) (fun q' => hb (by simp [q'])) (fun q' => hb (by simp [q'])) q) hf⟩
  self := fun A i s Q E st h => pyIter_zipS st.1 h

theorem callWith_type_kwB {M : Model} {A : Around} {E : Value → Shared → Prop} {s : Shared} {pos : Pos} {T : String} {first : List Value} {args : List (Bool × Sem Value)} {keywords : List (Option Str × Sem Value)} {Q : Value → Shared → Prop}
    (hplain : args.any (·.1) = false) (hkw : keywords.any (·.1.isNone) = false)
    (h : wpAny M A (evalArgs (.type T) true args keywords) (fun a s₁ => wpAny M A (call (.type T) (first ++ a.pos) a.kw) Q E s₁) E s) :
    wpAny M A (callWith pos (.type T) first args keywords) Q E s := by
  unfold callWith
  refine wpAny_bind (wpAny_holding (wpAny_mono h (fun a s₁ h₁ => wpAny_bind (wpAny_standAt ?_)) fun _ _ x => x))
  simp only [hplain, hkw, Bool.or_false]
  refine wpAny_bind (wpAny_pure ?_)
  exact wpAny_bind (wpAny_mono h₁ (fun r s₂ hr => wpAny_bind (wpAny_holding (wpAny_point (wpAny_pure hr)))) fun _ _ x => x)
theorem callWith_typeKw {M : Model} {A : Around} {E : Value → Shared → Prop} {s : Shared} {env : Env} {pos : Pos} {T : String} {e : Expr} {rest : List Expr} {kws : List Keyword} {Q : Value → Shared → Prop}
    (h : wpAny M A (spliced (backTo pos (starEach (e :: rest) env))) (fun vs s₁ => wpAny M A (evalAll ((backToKw pos (keywordEach kws env)).map (·.2)))
      (fun kvs s₂ => wpAny M A (call (.type T) vs (((backToKw pos (keywordEach kws env)).filterMap (·.1)).zip kvs)) Q E s₂) E s₁) E s)
    (he : backTo pos (starEach (e :: rest) env) = (false, eval e env) :: backTo pos (starEach rest env) := by rfl)
    (hplain : (backTo pos (starEach (e :: rest) env)).any (·.1) = false := by rfl)
    (hall : (backToKw pos (keywordEach kws env)).all (·.1.isSome) = true := by rfl)
    (hkw : (backToKw pos (keywordEach kws env)).any (·.1.isNone) = false := by rfl) :
    wpAny M A (callWith pos (.type T) [] (backTo pos (starEach (e :: rest) env)) (backToKw pos (keywordEach kws env))) Q E s := by
  refine callWith_type_kwB hplain hkw ?_
  rw [he] at h ⊢
  exact evalArgs_kwB hall h

def iZipS (K : PySem.W.Frag) (ta : TA) : TI := fun σ H R => ta σ H fun vs H1 => ∃ a b xs ys, vs = [.ref a, .ref b] ∧ SqT K H1 a xs ∧ SqL K H1 b ys ∧ R (ItzS K a b) H1
theorem pi_zipS {X : Cx} {e e2 : Expr} {ta : TA} {p pos tpos kp cp : Pos} {j : Nat} {elts : List Expr} {kk : Nat} (hg : Gl X "zip") (hm : X.mg "zip" = none) (ha : PA X [e, e2] ta)
    (he : backTo pos (starEach [e, e2] X.env) = (false, eval e X.env) :: backTo pos (starEach [e2] X.env) := by rfl) (hpl : (backTo pos (starEach [e, e2] X.env)).any (·.1) = false := by rfl) :
    PI X (.Tuple elts kk tpos) (.Call (.Name "zip" p) [e, e2] [⟨some (Str.ofString "strict"), .Constant (.bool true) j cp, kp⟩] pos) (iZipS X.K ta) := by
  refine ⟨fun pins s σ H R I h => ?_⟩
  refine wpAny_Call_Name_kw (ld_blt I hg hm PyProof.Rows.boot_zip ?_)
  refine callWith_typeKw (thn (ha.run pos pins s σ H _ I h) fun us s1 ⟨vs, H1, I1, r1, q1⟩ => ?_) he hpl rfl rfl
  refine thn ((pk_cons (nm := some (Str.ofString "strict")) (kpos := kp) (pe_bl (j := j) (pos := cp)) pk_nil).run pos pins s1 σ H1 (fun zs H2 => zs = [.bl true] ∧ H2 = H1) I1 ⟨rfl, rfl⟩) fun ws s2 ⟨zs, H2, I2, r2, e1, e2⟩ => ?_
  subst e1 e2
  obtain ⟨u, rfl, ru⟩ := vals1 r2
  cases ru
  obtain ⟨a, b, xs, ys, ex, hqx, hqy, q⟩ := q1
  subst ex
  cases r1 with
  | cons r rr =>
    cases rr with
    | cons r' rr =>
      cases rr
      cases r
      cases r'
      have fresh5 : ∀ c, c ∈ [s2.heap.objs.size + 4, s2.heap.objs.size + 2, s2.heap.objs.size + 3, s2.heap.objs.size, s2.heap.objs.size + 1] → FpOk X pins H2 c := fun c hcm => by
        have e' : c = s2.heap.objs.size + 4 ∨ c = s2.heap.objs.size + 2 ∨ c = s2.heap.objs.size + 3 ∨ c = s2.heap.objs.size ∨ c = s2.heap.objs.size + 1 := by simpa using hcm
        have hle : s2.heap.objs.size ≤ c := by
          rcases e' with z | z | z | z | z
          · rw [z]; exact Nat.le_add_right _ _
          · rw [z]; exact Nat.le_add_right _ _
          · rw [z]; exact Nat.le_add_right _ _
          · rw [z]; exact Nat.le_refl _
          · rw [z]; exact Nat.le_add_right _ _
        exact I2.fpOk hle (I2.hok.fresh hle)
      obtain ⟨its, rv, p1, _⟩ := I2.tuple hqx
      obtain ⟨its2, rv2, p2, _⟩ := I2.list hqy
      obtain ⟨o1, ho1, _⟩ := id p1
      refine call_zipS (show s2.heap.IsTuple a its.toArray from p1) p2.isList fun h' hz hTI hTO h1 h2 hsz hk => pyIter_zipS hz ?_
      have I3 : Inv X pins σ H2 { s2 with heap := h' } := I2.kept (t' := s2.toks) hk
      exact ⟨s2.heap.objs.size + 4, [s2.heap.objs.size + 4, s2.heap.objs.size + 2, s2.heap.objs.size + 3, s2.heap.objs.size, s2.heap.objs.size + 1], _, _, H2, rfl, I3, turn_zipS (PySem.W.ktu_apart s2.heap.objs.size a b (Heap.lt_size ho1) p2.lt), ⟨hz, hTI, ⟨_, _, hTO⟩, h1, h2⟩, fresh5, q⟩
theorem walk_zipS {K : PySem.W.Frag} {a b : Addr} {xs ys : List V} (hl : xs.length = ys.length) : Walk (ItzS K a b) xs.length (fun H => SqT K H a xs ∧ SqL K H b ys) (YPair (fun i => xs[i]?) (fun i => ys[i]?)) := by
  refine ⟨fun i _ hi q => ?_, fun _ q => ⟨xs, ys, q.1, q.2, by omega, by omega⟩, fun i H v H' _ q y => ?_⟩
  · have h2 : i < ys.length := by omega
    exact ⟨xs, ys, xs[i], ys[i], q.1, q.2, by simp [hi], by simp [h2]⟩
  · obtain ⟨T, x, z, h1, h2, h3, h4, h5⟩ := y
    exact ⟨T, x, z, h1, h2, h3, h4 xs q.1, h5 ys q.2⟩
theorem walk_zipT {K : PySem.W.Frag} {a b : Addr} {xs ys : List V} (hl : xs.length = ys.length) : Walk (ItzT K a b) xs.length (fun H => SqT K H a xs ∧ SqT K H b ys) (YPair (fun i => xs[i]?) (fun i => ys[i]?)) := by
  refine ⟨fun i _ hi q => ?_, fun _ q => ⟨xs, ys, q.1, q.2, Or.inl (Nat.le_refl _)⟩, fun i H v H' _ q y => ?_⟩
  · have h2 : i < ys.length := by omega
    exact ⟨xs, ys, xs[i], ys[i], q.1, q.2, by simp [hi], by simp [h2]⟩
  · obtain ⟨T, x, z, h1, h2, h3, h4, h5⟩ := y
    exact ⟨T, x, z, h1, h2, h3, h4 xs q.1, h5 ys q.2⟩

/-! ### enumerate(tuple) -/
theorem meets_enumT_new (l : Addr) (xs : Array Value) :
    Meets (Builtin.«enumerate.__new__» ⟨[.type "enumerate", .ref l], []⟩) (fun _ R s => s.heap.IsTuple l xs ∧
      R (.ok (.ret (.ref (s.heap.push { cls := .type "tuple_iterator", data := .fields #[.ref l, .int 0 0] }).objs.size)))
        { s with heap := (s.heap.push { cls := .type "tuple_iterator", data := .fields #[.ref l, .int 0 0] }).push { cls := .type "enumerate", data := .fields #[.none, .bool false, .ref s.heap.objs.size, rawInt 0, .none, .none] } }) :=
  .of_wp fun prog w A R s h => by
    obtain ⟨hp, g, d, tk, os⟩ := s
    obtain ⟨hl, h⟩ := h
    have hsub := sub_enumerate
    have hL1 : Heap.IsTuple (Shared.heap ⟨hp, g, d, tk, os⟩) l xs := hl
    wp_walk using wpAny_pyIter_tuple hL1
    refine wpAny_stack_any fun st => wpAny_pure ?_
    split
    · rename_i c _ _ _ _ _
      cases (c == Value.type "enumerate")
      · wp_walk using wpAny_pyIter_tuple hL1
        exact ⟨_, rfl, h⟩
      · wp_walk using wpAny_pyIter_tuple hL1
        exact ⟨_, rfl, h⟩
    · wp_walk using wpAny_pyIter_tuple hL1
      exact ⟨_, rfl, h⟩
section
variable {prog : Program} {w : World} {A : Around} {E : Value → Shared → Prop} {s : Shared}
theorem call_enumT {l : Addr} {items : Array Value} {Q : Value → Shared → Prop} (hL : s.heap.IsTuple l items)
    (h : ∀ h', IsEnum h' (s.heap.objs.size + 1) s.heap.objs.size 0 .none → h'.IsTupleIter s.heap.objs.size l 0 → h'.objs.size = s.heap.objs.size + 2 →
      (∀ b o, s.heap.get? b = some o → h'.get? b = some o) → Q (.ref (s.heap.objs.size + 1)) { s with heap := h' }) :
    wpAny (model prog w) A (call (.type "enumerate") [.ref l]) Q E s := by
  refine callType_new F.called_enumerate (by decide) (F.typeCall_enumerate_1 _) (F.newCall_enumerate_1 _) (fun obj => F.args_object_init_2 obj _) F.entry_enumerate_new
    (meets_enumT_new l items) ⟨hL, ?_⟩
  have hz : (s.heap.push { cls := .type "tuple_iterator", data := .fields #[.ref l, .int 0 0] }).objs.size = s.heap.objs.size + 1 := Heap.size_push ..
  show _ ∧ _
  rw [hz]
  have he : IsEnum ((s.heap.push { cls := .type "tuple_iterator", data := .fields #[.ref l, .int 0 0] }).push
      { cls := .type "enumerate", data := .fields #[.none, .bool false, .ref s.heap.objs.size, rawInt 0, .none, .none] }) (s.heap.objs.size + 1) s.heap.objs.size 0 .none := by
    have := Heap.get?_push_size (s.heap.push { cls := .type "tuple_iterator", data := .fields #[.ref l, .int 0 0] })
      (o := { cls := .type "enumerate", data := .fields #[.none, .bool false, .ref s.heap.objs.size, rawInt 0, .none, .none] }) rfl
    rw [hz] at this; exact this
  refine ⟨⟨_, he, rfl⟩, h _ he ⟨_, Heap.get?_push_of_some _ (Heap.get?_push_size _ rfl), rfl, rfl⟩ (by rw [Heap.size_push, hz]) fun b o x => Heap.get?_push_of_some _ (Heap.get?_push_of_some _ x)⟩
end
def IteT (K : PySem.W.Frag) (a : Addr) : It :=
  ⟨fun i H => ∃ (xs : List V) (x : V), SqT K H a xs ∧ xs[i]? = some x, fun i H v H' => ∃ T x, v = .ref T ∧ H T = none ∧ H' = upd H T (.tup [.int (i : Nat), x]) ∧ ∀ xs, SqT K H a xs → xs[i]? = some x, fun i H => ∃ xs : List V, SqT K H a xs ∧ xs.length = i⟩
theorem turn_enumT {P : Program} {w : World} {K : PySem.W.Frag} {elts : List Expr} {kk : Nat} {tpos : Pos} (a e it : Addr) (hai : a ≠ it) (hea : e ≠ a) :
    Turn P w K (.Tuple elts kk tpos) (IteT K a) [e, it] e (fun i h => (∃ old, IsEnum h e it ((i : Nat) : Int) old) ∧ h.IsTupleIter it a i ∧ e ≠ it) where
  mem := by simp
  obj := fun i h st b hb => by
    obtain ⟨⟨old, he⟩, ⟨o, ho, hc, hd⟩, _⟩ := st
    have e' : b = e ∨ b = it := by simpa using hb
    rcases e' with z | z
    · rw [z]; exact ⟨_, he, fun v q => nomatch q⟩
    · rw [z]; exact ⟨o, ho, fun v q => by rw [hd] at q; cases q⟩
  keep := fun i h h' st k => let ⟨⟨old, he⟩, hi, hne⟩ := st; ⟨⟨old, k e (by simp) _ he⟩, hi.at fun o q => k it (by simp) o q, hne⟩
  item := by
    intro X hP hw hK hc i pins s σ H E I hf st hg
    subst hP hw hK
    obtain ⟨⟨old, he⟩, hit, hne⟩ := st
    obtain ⟨xs, x, hq, hx⟩ := hg
    obtain ⟨its, rv, p, hz⟩ := I.tuple hq
    obtain ⟨u, hu, ru⟩ := rv.get hx
    have hel : e < s.heap.objs.size := Heap.lt_size he
    have hil : it < s.heap.objs.size := by obtain ⟨_, q, _⟩ := hit; exact Heap.lt_size q
    have hil' : i < its.toArray.size := by
      have := (List.getElem?_eq_some_iff.mp hu).1
      simpa using this
    refine wpAny_pyNext_enum_itemC (Draws.tuple (A := X.A.in1) (show X.A.in1.handled = none from I.ok.hd hc) it a hai its.toArray) he ⟨hit, p⟩ hil' hne (by simp [hne, hea]) fun x' h' tk hP' ho hit' hT hsz hk => ?_
    have hxu : x' = u := by
      have h1 : its.toArray[i]? = some x' := hP'
      have h2 : its.toArray[i]? = some u := by simpa using hu
      rw [h1] at h2
      exact Option.some.inj h2
    subst hxu
    refine ⟨_, rfl, wpAny_letOwnedTupleGo_enum (s := { s with heap := h', toks := tk + 1 }) ho fun h'' he' sb => ?_⟩
    have hT2 : h''.get? s.heap.objs.size = some { cls := .type "tuple", data := .seq #[.int i tk, x'] } := (sb.2 _ (Nat.ne_of_gt hel)).trans hT
    have new : ObjOk X.prog X.w (upd H s.heap.objs.size (.tup [.int (i : Nat), x])) h'' s.heap.objs.size (.tup [.int (i : Nat), x]) :=
      ⟨by show 2 ≤ sizeLine; decide, [.int i tk, x'], .cons ⟨_, rfl⟩ (.cons ru .nil), ⟨_, hT2, rfl, _, rfl⟩⟩
    have I1 : Inv X pins σ (upd H s.heap.objs.size (.tup [.int (i : Nat), x])) { s with heap := h'', toks := tk + 1 } :=
      I.turnedNew (ch := [e, it]) (fun b ob hb q => (sb.2 b (fun z => hb (by simp [z]))).trans (hk b ob (fun z => hb (by simp [z])) (fun z => hb (by simp [z])) q)) hf (Nat.le_refl _) new
    refine ⟨.ref s.heap.objs.size, _, I1, rfl, ⟨_, x, rfl, I.hok.fresh (Nat.le_refl _), rfl, fun ys hy => by rw [I.tuple_inj hy hq]; exact hx⟩, ⟨⟨x', ?_⟩, hit'.1.at fun o q => (sb.2 it (Ne.symm hne)).trans q, hne⟩, fun b hb => ?_⟩
    · have e1 : ((i + 1 : Nat) : Int) = (i : Int) + 1 := by omega
      rw [e1]; exact he'
    · have hb' : b < s.heap.objs.size := by
        have e' : b = e ∨ b = it := by simpa using hb
        rcases e' with z | z
        · rw [z]; exact hel
        · rw [z]; exact hil
      rw [upd_ne (Nat.ne_of_lt hb')]
      exact (hf b hb).1
  done := by
    intro X hP hw hK hc i pins s σ H E I hf st hg
    subst hP hw hK
    obtain ⟨⟨old, he⟩, hit, hne⟩ := st
    obtain ⟨xs, hq, hx⟩ := hg
    obtain ⟨its, rv, p, hz⟩ := I.tuple hq
    obtain ⟨f0, f1, f2, f3, f4, f5⟩ := hf it (by simp)
    have hl := rv.length
    have hi : its.toArray.size = i := by simp; omega
    exact wpAny_pyNext_enum_endD (Draws.tuple (A := X.A.in1) (show X.A.in1.handled = none from I.ok.hd hc) it a hai its.toArray) he ⟨by rw [hi]; exact hit, p⟩ fun h' eb => ⟨rfl, I.turned (t' := s.toks) (fun b o hb q => eb b o hb q) f0 f1 f3 f4 f5⟩
  self := fun A i s Q E st h => let ⟨⟨_, he⟩, _⟩ := st; wpAny_pyIter_enum he h
def iEnumT (K : PySem.W.Frag) (ta : TA) : TI := fun σ H R => ta σ H fun vs H1 => ∃ a xs, vs = [.ref a] ∧ SqT K H1 a xs ∧ R (IteT K a) H1
theorem pi_enumT {X : Cx} {e : Expr} {ta : TA} {p pos tpos : Pos} {elts : List Expr} {kk : Nat} (hg : Gl X "enumerate") (hm : X.mg "enumerate" = none) (ha : PA X [e] ta) (hs : starEach [e] X.env = [(false, eval e X.env)] := by rfl) :
    PI X (.Tuple elts kk tpos) (.Call (.Name "enumerate" p) [e] [] pos) (iEnumT X.K ta) := by
  refine ⟨fun pins s σ H R I h => ?_⟩
  refine Call_ (ld_blt I hg hm boot_enumerate (PyProof.Rows.callWith_type1 (thn (ha.run pos pins s σ H _ I h) fun us s1 ⟨vs, H1, I1, r1, q1⟩ => ?_) hs rfl))
  obtain ⟨a, xs, ex, hq, q⟩ := q1
  subst ex
  cases r1 with
  | cons r rr =>
    cases rr
    cases r
    obtain ⟨its, rv, p', hz⟩ := I1.tuple hq
    obtain ⟨o1, ho1, _⟩ := id p'
    have hal := Heap.lt_size ho1
    refine call_enumT (show s1.heap.IsTuple a its.toArray from p') fun h' he hit hsz hk => wpAny_pyIter_enum he ?_
    have I2 : Inv X pins σ H1 { s1 with heap := h' } := I1.kept (t' := s1.toks) hk
    refine ⟨s1.heap.objs.size + 1, [s1.heap.objs.size + 1, s1.heap.objs.size], _, _, H1, rfl, I2, turn_enumT a (s1.heap.objs.size + 1) s1.heap.objs.size (Nat.ne_of_lt hal) (Nat.ne_of_gt (Nat.lt_succ_of_lt hal)), ⟨⟨.none, he⟩, hit, Nat.succ_ne_self _⟩, fun b hb => ?_, q⟩
    have e' : b = s1.heap.objs.size + 1 ∨ b = s1.heap.objs.size := by simpa using hb
    have hle : s1.heap.objs.size ≤ b := by
      rcases e' with z | z
      · rw [z]; exact Nat.le_add_right _ _
      · rw [z]; exact Nat.le_refl _
    exact I1.fpOk hle (I1.hok.fresh hle)
theorem walk_enumT {K : PySem.W.Frag} {a : Addr} {xs : List V} : Walk (IteT K a) xs.length (fun H => SqT K H a xs) (YPair (fun i => some (.int (i : Nat))) (fun i => xs[i]?)) := by
  refine ⟨fun i _ hi q => ⟨xs, xs[i], q, by simp [hi]⟩, fun _ q => ⟨xs, q, rfl⟩, fun i H v H' _ q y => ?_⟩
  obtain ⟨T, x, h1, h2, h3, h4⟩ := y
  exact ⟨T, .int (i : Nat), x, h1, h2, h3, rfl, h4 xs q⟩
end RS
end TxtG2

section TxtG3
set_option Elab.async false
set_option linter.all false
set_option maxRecDepth 100000
set_option maxHeartbeats 2000000
/-! dicts whose keys are pairs of tuples of ints -/
namespace RS
open PySem PySem.Spec PyProof.Rows L2
abbrev SKey := List Int × List Int
def nk (k : SKey) : NestedKey := .tup [.tup (k.1.map .num), .tup (k.2.map .num)]
theorem num_inj : ∀ {a b : List Int}, a.map NestedKey.num = b.map NestedKey.num → a = b
  | [], [], _ => rfl
  | [], _ :: _, e => by simp at e
  | _ :: _, [], e => by simp at e
  | x :: xs, y :: ys, e => by
    rw [List.map_cons, List.map_cons] at e
    injection e with e1 e2
    injection e1 with e3
    rw [e3, num_inj e2]
theorem nk_inj {a b : SKey} (e : nk a = nk b) : a = b := by
  unfold nk at e
  injection e with e
  injection e with e1 e2
  injection e2 with e2 _
  injection e1 with e1
  injection e2 with e2
  exact Prod.ext (num_inj e1) (num_inj e2)
def KeyAt (H : Hp) (b : Addr) (k : SKey) : Prop := ∃ sa ea, H b = some (.tup [.ref sa, .ref ea]) ∧ H sa = some (.tup (k.1.map V.int)) ∧ H ea = some (.tup (k.2.map V.int))
theorem KeyAt.keeps {H H' : Hp} {b : Addr} {k : SKey} (x : KeyAt H b k) (ht : ∀ b ys, H b = some (.tup ys) → H' b = some (.tup ys)) : KeyAt H' b k := by
  obtain ⟨sa, ea, h1, h2, h3⟩ := x
  exact ⟨sa, ea, ht _ _ h1, ht _ _ h2, ht _ _ h3⟩
def nOk (P : Program) (w : World) (xs : List (NestedKey × Addr × Value)) (a : Addr) (h : Heap) : Prop :=
  ∃ o es ep, h.get? a = some o ∧ o.ExactDict ∧ o.data = .dict es ep ∧ es.toList = xs.map (entryOfKey (nestedKind P w)) ∧ (xs.map (·.1)).Nodup
abbrev NT (H : Hp) : List (SKey × V) → List (NestedKey × Addr × Value) → Prop := Paired fun p q => q.1 = nk p.1 ∧ KeyAt H q.2.1 p.1 ∧ RelV p.2 q.2.2
theorem NT.val {H : Hp} {kvs : List (SKey × V)} {xs : List (NestedKey × Addr × Value)} (r : NT H kvs xs) (k : SKey) : RelO (valV kvs k) ((atKey xs (nk k)).map (·.2)) := by
  induction r with
  | nil => exact True.intro
  | @cons p q ps qs h t ih =>
    obtain ⟨h1, _, h2⟩ := h
    by_cases e : p.1 = k
    · have e' : q.1 = nk k := by rw [h1, e]
      have b : atKey (q :: qs) (nk k) = some q.2 := by simp [atKey, List.find?_cons, e']
      rw [valV_pos e, b]; exact h2
    · have e' : ¬ q.1 = nk k := fun z => e (nk_inj (h1.symm.trans z))
      have b : atKey (q :: qs) (nk k) = atKey qs (nk k) := by simp [atKey, List.find?_cons, e']
      rw [valV_neg e, b]; exact ih
theorem NT.repl {H : Hp} {kvs : List (SKey × V)} {xs : List (NestedKey × Addr × Value)} (r : NT H kvs xs) (k : SKey) {y : V} {u : Value} (ry : RelV y u) :
    NT H (kvs.map fun kv => if kv.1 = k then (kv.1, y) else kv) (xs.map (putAt (nk k) u)) := by
  induction r with
  | nil => exact .nil
  | @cons p q ps qs h t ih =>
    rw [List.map_cons, List.map_cons]
    refine .cons ?_ ih
    obtain ⟨h1, h2, h3⟩ := h
    unfold putAt
    by_cases e : p.1 = k
    · rw [if_pos e, if_pos (show q.1 = nk k by rw [h1, e])]; exact ⟨h1, h2, ry⟩
    · rw [if_neg e, if_neg (fun z => e (nk_inj (h1.symm.trans z)))]; exact ⟨h1, h2, h3⟩
theorem NT.put {H : Hp} {kvs : List (SKey × V)} {xs : List (NestedKey × Addr × Value)} (r : NT H kvs xs) (k : SKey) {b : Addr} {y : V} {u : Value} (hb : KeyAt H b k) (ry : RelV y u) :
    NT H (putK kvs k y) (storedH xs (nk k) b u) := by
  have e : (kvs.any fun kv => decide (kv.1 = k)) = (atKey xs (nk k)).isSome := by
    rw [valV_any, (r.val k).isSome_eq, Option.isSome_map]
  unfold putK storedH
  rw [e]
  by_cases q : (atKey xs (nk k)).isSome = true
  · rw [if_pos q, if_pos q]; exact r.repl k ry
  · rw [if_neg q, if_neg q]; exact Paired.snoc r ⟨rfl, hb, ry⟩
theorem NT.keeps {H H' : Hp} {kvs : List (SKey × V)} {xs : List (NestedKey × Addr × Value)} (r : NT H kvs xs) (ht : ∀ b ys, H b = some (.tup ys) → H' b = some (.tup ys)) : NT H' kvs xs :=
  Paired.mapP r fun _ _ z => ⟨z.1, z.2.1.keeps ht, z.2.2⟩
/-- at a: a dict of such keys -/
def DN (P : Program) (w : World) (H : Hp) (a : Addr) (kvs : List (SKey × V)) : Prop :=
  (a == sysModules) = false ∧ ∃ xs, H a = some (.ext (nOk P w xs a)) ∧ NT H kvs xs
theorem DN.keeps {P : Program} {w : World} {H H' : Hp} {a : Addr} {kvs : List (SKey × V)} (d : DN P w H a kvs) (ha : ∀ o, H a = some o → H' a = some o) (ht : ∀ b ys, H b = some (.tup ys) → H' b = some (.tup ys)) : DN P w H' a kvs := by
  obtain ⟨h1, xs, h2, h3⟩ := d
  exact ⟨h1, xs, ha _ h2, h3.keeps ht⟩
theorem DN.ext {P : Program} {w : World} {H : Hp} {a : Addr} {kvs : List (SKey × V)} (d : DN P w H a kvs) : ∃ φ, H a = some (.ext φ) := let ⟨_, _, h, _⟩ := d; ⟨_, h⟩
theorem nOk_ok {P : Program} {w : World} {H : Hp} {h : Heap} {a : Addr} {xs : List (NestedKey × Addr × Value)} (n : nOk P w xs a h) : ObjOk P w H h a (.ext (nOk P w xs a)) := by
  obtain ⟨o, es, ep, h1, h2, h3, h4, h5⟩ := n
  refine ⟨⟨o, es, ep, h1, h2, h3, h4, h5⟩, ⟨o, h1⟩, fun h1 h2 z k => ?_⟩
  obtain ⟨o, es, ep, q1, q2, q3, q4, q5⟩ := z
  exact ⟨o, es, ep, k _ q1, q2, q3, q4, q5⟩
section
variable {X : Cx} {pins : List (Addr × Obj)} {σ : L2.St} {H : Hp} {s : Shared} {a b : Addr} {v : V} {u r : Value} {A : Around} {E : Value → Shared → Prop} {kvs : List (SKey × V)} {k : SKey}
theorem nums_are {h : Heap} : ∀ {ks : List Int} {us : List Value}, Vals (ks.map V.int) us → NestedAll h (ks.map NestedKey.num) us
  | [], _, r => by rw [List.map_nil] at r; cases r; exact .nil
  | k :: ks, _, r => by
    rw [List.map_cons] at r
    cases r with
    | cons h t =>
      obtain ⟨t', rfl⟩ := h
      exact .cons (.int k t') (nums_are t)
theorem dep_num : ∀ ks : List Int, NestedKey.depthAll (ks.map NestedKey.num) = 0
  | [] => by simp [NestedKey.depthAll]
  | k :: ks => by simp [NestedKey.depthAll, NestedKey.depth, dep_num ks]
theorem st_is (I : Inv X pins σ H s) {ks : List Int} (h : H a = some (.tup (ks.map V.int))) : NestedIs s.heap (.tup (ks.map .num)) (.ref a) := by
  obtain ⟨_, its, r, o, h1, h2, n, h3⟩ := (show ObjOk X.prog X.w H s.heap a (.tup (ks.map V.int)) from I.hok a _ h)
  exact .tup h1 h2 h3 (by simpa using nums_are r)
theorem key_is (I : Inv X pins σ H s) (h : KeyAt H b k) : (nestedKind X.prog X.w).is s.heap (nk k) b := by
  obtain ⟨sa, ea, h1, h2, h3⟩ := h
  obtain ⟨_, its, r, o, g1, g2, n, g3⟩ := (show ObjOk X.prog X.w H s.heap b (.tup [.ref sa, .ref ea]) from I.hok b _ h1)
  refine ⟨.tup g1 g2 g3 ?_, by simp [nk, NestedKey.depth, NestedKey.depthAll, dep_num]⟩
  obtain ⟨u1, u2, e, r1, r2⟩ := Vals.two r
  subst e
  cases r1
  cases r2
  exact .cons (st_is I h2) (.cons (st_is I h3) .nil)
theorem room_in1 (hu : A.units + 64 < cLine) {P : Program} {w : World} : (nestedKind P w).room A.in1 := by show A.units + 1 + 8 < cLine; omega
theorem dn_of (I : Inv X pins σ H s) (d : DN X.prog X.w H a kvs) : ∃ xs, H a = some (.ext (nOk X.prog X.w xs a)) ∧ NT H kvs xs ∧ s.heap.DictOfH (nestedKind X.prog X.w) a xs := by
  obtain ⟨_, xs, h2, h3⟩ := d
  obtain ⟨⟨o, es, ep, q1, q2, q3, q4, q5⟩, _⟩ := (show ObjOk X.prog X.w H s.heap a (.ext (nOk X.prog X.w xs a)) from I.hok a _ h2)
  refine ⟨xs, h2, h3, o, es, ep, q1, q2, q3, q4, fun x hx => ?_, q5⟩
  have all : ∀ {l : List (SKey × V)} {m : List (NestedKey × Addr × Value)}, NT H l m → ∀ x ∈ m, (nestedKind X.prog X.w).is s.heap x.1 x.2.1 := by
    intro l m q
    induction q with
    | nil => intro x hx; exact nomatch hx
    | @cons p q ps qs hq t ih =>
      intro x hx
      rcases List.mem_cons.mp hx with e | hx
      · subst e
        rw [hq.1]
        exact key_is I hq.2.1
      · exact ih x hx
  exact all h3 x hx
theorem dn_get {Q : Value → Shared → Prop} (hu : A.units + 64 < cLine) (I : Inv X pins σ H s) (d : DN X.prog X.w H a kvs) (hk : KeyAt H b k) (hv : valV kvs k = some v) (h : ∀ w' s', Inv X pins σ H s' → RelV v w' → Q w' s') :
    wpAny (model X.prog X.w) A (getItem (.ref a) (.ref b)) Q E s := by
  obtain ⟨xs, _, rel, dd⟩ := dn_of I d
  obtain ⟨w', hw, rw'⟩ := RelO.some_of (v := v) (o := (atKey xs (nk k)).map (·.2)) (by rw [← hv]; exact rel.val k)
  obtain ⟨p, hp, hp2⟩ := Option.map_eq_some_iff.mp hw
  refine wpAny_getItem_heap (room_in1 hu) (key_is I hk) dd hp ?_
  rw [hp2]
  exact h w' _ (I.tok _) rw'
theorem dn_notIn {Q : Value → Shared → Prop} (hu : A.units + 64 < cLine) (I : Inv X pins σ H s) (d : DN X.prog X.w H a kvs) (hk : KeyAt H b k) (h : ∀ s', Inv X pins σ H s' → Q (.bool (!(valV kvs k).isSome)) s') :
    wpAny (model X.prog X.w) A (compareOp .NotIn (.ref b) (.ref a)) Q E s := by
  obtain ⟨xs, _, rel, dd⟩ := dn_of I d
  refine wpAny_notIn_heap (room_in1 hu) (key_is I hk) d.1 dd ?_
  have q := (rel.val k).isSome_eq
  rw [Option.isSome_map] at q
  rw [← q]
  exact h _ (I.tok _)
/-- d[k] = v -/
theorem dn_set {Q : Unit → Shared → Prop} (hu : A.units + 64 < cLine) (I : Inv X pins σ H s) (d : DN X.prog X.w H a kvs) (hz : kvs.length ≤ 100000) (hk : KeyAt H b k) (rv : RelV v r)
    (h : ∀ s' φ, DN X.prog X.w (upd H a (.ext φ)) a (putK kvs k v) → Inv X pins σ (upd H a (.ext φ)) s' → Q () s') :
    wpAny (model X.prog X.w) A (setItem (.ref a) (.ref b) r) Q E s := by
  obtain ⟨xs, ha, rel, dd⟩ := dn_of I d
  have hl := Paired.length rel
  refine wpAny_setItem_heap (hsz := by rw [sizeLine_eq]; omega) (room_in1 hu) (key_is I hk) dd fun h' dd' hs => ?_
  obtain ⟨q, es, ep, hq, h2, h3, h4, _, h5⟩ := dd'
  refine h _ (nOk X.prog X.w (storedH xs (nk k) b r) a) ⟨d.1, _, upd_same, (rel.put k hk rv).keeps fun c ys ec => ?_⟩ (d_write I (by rw [ha]; exact True.intro) hs ⟨q, hq⟩ (nOk_ok ⟨q, es, ep, hq, h2, h3, h4, h5⟩))
  rw [upd_ne (ne_of ec ha (fun z => nomatch z))]
  exact ec
end
/-- d[y] -/
def tNGet (P : Program) (w : World) (td ty : TE) : TE := fun σ H Q => td σ H fun x H1 => ty σ H1 fun y H2 => ∃ a b kvs k v, x = .ref a ∧ y = .ref b ∧ DN P w H2 a kvs ∧ KeyAt H2 b k ∧ valV kvs k = some v ∧ Q v H2
def tNNotIn (P : Program) (w : World) (ty td : TE) : TE := fun σ H Q => ty σ H fun y H1 => td σ H1 fun x H2 => ∃ a b kvs k, x = .ref a ∧ y = .ref b ∧ DN P w H2 a kvs ∧ KeyAt H2 b k ∧ Q (.bl (!(valV kvs k).isSome)) H2
def sNPut (P : Program) (w : World) (td ty tv : TE) : TS := fun D σ H => tv σ H fun v H1 => td σ H1 fun x H2 => ty σ H2 fun y H3 => ∃ a b kvs k, x = .ref a ∧ y = .ref b ∧ DN P w H3 a kvs ∧ kvs.length ≤ 100000 ∧ KeyAt H3 b k ∧
  ∀ φ, DN P w (upd H3 a (.ext φ)) a (putK kvs k v) → D.nx σ (upd H3 a (.ext φ))
def tNNew (P : Program) (w : World) : TE := fun _ H Q => ∀ p φ, H p = none → DN P w (upd H p (.ext φ)) p [] → Q (.ref p) (upd H p (.ext φ))
section
variable {X : Cx} {o i e value : Expr} {pos pos' tpos : Pos} {td ty tv : TE}
theorem pe_nget (hu : X.A.units + 64 < cLine) (ho : PE X o td) (hi : PE X i ty) (hs : NoSl i) : PE X (.Subscript o i pos) (tNGet X.prog X.w td ty) := by
  refine ⟨fun pins s σ H Q I h => ?_⟩
  refine subD_of PySem.F.slot_dict_getitem.lookup hs (thn (ho.run pins s σ H _ I h) fun u s1 ⟨x, H1, I1, rx, q1⟩ => thn (hi.run pins s1 σ H1 _ I1 q1) fun iv s2 ⟨y, H2, I2, ry, a, b, kvs, k, v, ex, ey, d, hk, hv, q2⟩ => ?_)
  subst ex ey
  obtain rfl : u = Value.ref a := rx
  obtain rfl : iv = Value.ref b := ry
  obtain ⟨_, _, _, dd⟩ := dn_of I2 d
  exact ⟨dd.typeIs, dn_get hu I2 d hk hv fun w' s3 I3 rw' => ⟨v, H2, I3, rw', q2⟩⟩
theorem pc_nnotin (hu : X.A.units + 64 < cLine) (hi : PE X i ty) (ho : PE X o td) : PC X .NotIn i o (tNNotIn X.prog X.w ty td) := by
  refine ⟨fun pins s σ H Q I h => ?_⟩
  refine thn (hi.run pins s σ H _ I h) fun iv s1 ⟨y, H1, I1, ry, q1⟩ => thn (ho.run pins s1 σ H1 _ I1 q1) fun u s2 ⟨x, H2, I2, rx, a, b, kvs, k, ex, ey, d, hk, q2⟩ => ?_
  subst ex ey
  obtain rfl : u = Value.ref a := rx
  obtain rfl : iv = Value.ref b := ry
  exact dn_notIn hu I2 d hk fun s3 I3 => ⟨.bl (!(valV kvs k).isSome), H2, I3, rfl, q2⟩
theorem ps_nput (hu : X.A.units + 64 < cLine) (ho : PE X o td) (hi : PE X i ty) (hv : PE X value tv) (hs : swapsWith value (some (.Subscript o i pos')) pos.line X.env = pure false := by rfl) :
    PS X (.Assign [.Subscript o i pos'] value pos) (sNPut X.prog X.w td ty tv) := by
  refine ⟨fun pins s σ H D I h => ?_⟩
  refine wpAny_Assign_Subscript (thn (hv.run pins s σ H _ I h) fun r s1 ⟨v, H1, I1, rv, q1⟩ => thn (ho.run pins s1 σ H1 _ I1 q1) fun u s2 ⟨x, H2, I2, rx, q2⟩ => thn (hi.run pins s2 σ H2 _ I2 q2) fun iv s3 ⟨y, H3, I3, ry, a, b, kvs, k, ex, ey, d, hz, hk, q3⟩ => ?_) hs
  subst ex ey
  obtain rfl : u = Value.ref a := rx
  obtain rfl : iv = Value.ref b := ry
  exact dn_set hu I3 d hz hk rv fun s4 φ d4 I4 => ⟨σ, _, I4, q3 φ d4⟩
theorem pe_nnew : PE X (.Dict [] [] pos) (tNNew X.prog X.w) := by
  refine ⟨fun pins s σ H Q I h => ?_⟩
  have hb := I.big
  have ob : nOk X.prog X.w [] s.heap.objs.size (s.heap.push { cls := .type "dict", data := .dict #[] }) := by
    obtain ⟨o, es, ep, h1, h2, h3, h4, _, h5⟩ := Heap.DictOfH.new (knd := nestedKind X.prog X.w) s.heap
    exact ⟨o, es, ep, h1, h2, h3, h4, h5⟩
  refine wpAny_Dict_empty ⟨.ref s.heap.objs.size, _, I.laid (a := s.heap.objs.size) (o := .ext (nOk X.prog X.w [] s.heap.objs.size)) (t' := s.toks) (fun _ _ q => Heap.get?_push_of_some _ q) (Nat.le_refl _) (nOk_ok ob), rfl, h _ _ (I.hok.fresh (Nat.le_refl _)) ⟨beq_eq_false_iff_ne.mpr (Ne.symm (Nat.ne_of_lt hb)), [], upd_same, .nil⟩⟩
end
end RS
end TxtG3

section TxtG4
set_option Elab.async false
set_option linter.all false
set_option maxRecDepth 100000
set_option maxHeartbeats 2000000
/-! min([], default=d); d.update(e); lists of any things compared by their lengths; a field as a target -/
namespace RS
open PySem PySem.Spec PyProof.Rows L2
section
variable {X : Cx}
/-- min(xs, default=d), xs empty -/
def rMinE (K : PySem.W.Frag) : List V → List V → Hp → VK → Prop := fun vs zs H Q => ∃ a z, vs = [.ref a] ∧ zs = [z] ∧ SqL K H a [] ∧ Q z H
theorem call_minE (hc : X.calm = true) (hu : X.A.units + 1 < cLine) : CallRK X (.builtin "min") [Str.ofString "default"] (rMinE X.K) := by
  intro pins s σ H xs zs us ws Q I r1 r2 h
  obtain ⟨a, z, rfl, rfl, hl, q⟩ := h
  obtain ⟨u, rfl, ru⟩ := vals1 r1
  obtain ⟨w', rfl, rw'⟩ := vals1 r2
  cases ru
  obtain ⟨its, rv, pl, hz⟩ := I.list hl
  cases rv
  show wpAny _ _ (call (.builtin "min") [.ref a] [(Str.ofString "default", w')]) _ _ _
  refine PySem.W.min_list_default (xs := []) (as := []) (I.ok.hd hc) pl.isList (by exact ReadsAll.nil) (by first | trivial | (intro i j hi; simp at hi) | simp [PySem.W.AlikeAll]) (by simpa [PyData.depthAll] using hu) (fun _ h' tk hk => ?_) (fun y ys i v h' tk bs e => nomatch e)
  exact ⟨z, H, I.kept hk, rw', q⟩
/-- d.update(e) -/
def rUpdate : V → List V → Hp → VK → Prop := fun x vs H Q => ∃ d o kvs more, x = .ref d ∧ vs = [.ref o] ∧ d ≠ o ∧ H d = some (.dK kvs) ∧ H o = some (.dK more) ∧ kvs.length + more.length ≤ sizeLine ∧ Q .non (upd H d (.dK (mergeK kvs more)))
theorem mt_update : MtM X "dict.update" rUpdate := by
  intro pins s σ H x vs v us Q I rx rv h
  obtain ⟨d, o, kvs, more, rfl, rfl, hne, hd, ho, hz, q⟩ := h
  cases rx
  obtain ⟨u, rfl, ru⟩ := rv.one
  cases ru
  obtain ⟨z1, y1, vs1, k1, d1⟩ := dk_of I.hok hd
  obtain ⟨z2, y2, vs2, k2, d2⟩ := dk_of I.hok ho
  refine call_meetsIn F.slot_dict_update d1.typeIs F.entry_dict_update (F.args_dict_update_2 _ _) (meets_dict_update (mixKind X.prog X.w) d o hne y2) ⟨vs1, vs2, d1, d2, by rw [← k1.length, ← k2.length]; exact hz, fun h' hd' _ hs => ?_⟩
  refine ⟨.non, _, d_write (t' := s.toks) I (by rw [hd]; exact True.intro) hs (let ⟨q, _, _, hq, _⟩ := hd'; ⟨q, hq⟩) (dk_new ?_ y1 (KV.merge k2 k1) hd'), rfl, q⟩
  have := length_mergeK more kvs
  omega
/-- lists of different lengths -/
def rEqLen (K : PySem.W.Frag) : R2 := fun x y H Q => ∃ a b xs ys, x = .ref a ∧ y = .ref b ∧ SqL K H a xs ∧ SqL K H b ys ∧ xs.length ≠ ys.length ∧ Q (.bl false) H
theorem op_eqLen (hu : X.A.units < cLine) : OpR X (compareOp .Eq) (rEqLen X.K) := by
  intro pins s σ H x y v u Q I rx ry h
  obtain ⟨a, b, xs, ys, rfl, rfl, ha, hb, hne, q⟩ := h
  cases rx
  cases ry
  obtain ⟨its, r1, p1, _⟩ := I.list ha
  obtain ⟨its2, r2, p2, _⟩ := I.list hb
  have l1 := r1.length
  have l2 := r2.length
  exact SeqAt.eq_list_lengthsAt p1.isList p2.isList (by simp; omega) hu ⟨.bl false, H, I, rfl, q⟩
/-- o.f = .. as a part of a target -/
def gFld (K : PySem.W.Frag) (to : TE) (f : Str) : TG := fun v σ H Q => to σ H fun x H1 => ∃ a C dx fs, x = .ref a ∧ H1 a = some (.ins C dx fs) ∧ Cls K C ∧ NoAttr K C f ∧ fs.length < 1000 ∧ Q σ (upd H1 a (.ins C dx (putF f v fs)))
theorem pg_fld {o : Expr} {to : TE} {f : Str} {pos : Pos} (ho : PE X o to) : PG X (.Attribute o f pos) (gFld X.K to f) := by
  refine ⟨fun pins s σ H v u Q I r h => ?_⟩
  rw [assign_Attribute]
  refine wpAny_bind (wpAny_holding (thn (ho.run pins s σ H _ I h) fun ov s1 ⟨x, H1, I1, r1, a, C, dx, fs, ex, ea, c, n, l, q⟩ => ?_))
  subst ex
  obtain rfl : ov = Value.ref a := r1
  refine wpAny_bind (wpAny_standAt (wpAny_bind (wpAny_holding ?_)))
  exact setattr_ok I1 ea c n l r fun s3 I3 => wpAny_release ⟨σ, _, I3, q⟩
end
end RS
end TxtG4

section TxtG5
set_option Elab.async false
set_option linter.all false
set_option maxRecDepth 100000
set_option maxHeartbeats 4000000
/-! several except clauses with names; Base.__init__(self, ..) by a class of one's own -/
namespace RS
open PySem PySem.Spec PyProof.Rows L2
def wManyAs (K : PySem.W.Frag) (i : Nat) (Wout : WX) (D : Ends) : List (Value × (Addr → Value → Option Addr → TS)) → WX
  | [] => Wout
  | (c, ts) :: r => fun cls d σ H => ∃ b, PySem.W.exmOne K cls c = some b ∧
    (b = true → ∀ a, H a = none → ts a cls d { nx := fun σ' H' => D.nx (σ'.set i none) H', rt := D.rt, bk := fun σ' H' => D.bk (σ'.set i none) H', ct := fun σ' H' => D.ct (σ'.set i none) H' } (σ.set i (some (.ref a))) H) ∧
    (b = false → wManyAs K i Wout D r cls d σ H)
inductive HdsAs (X : Cx) (n : Str) : List ExceptHandler → List (Value × (Addr → Value → Option Addr → TS)) → Prop
  | nil : HdsAs X n [] []
  | cons {x : Str} {c : Value} {ts : Addr → Value → Option Addr → TS} {b₀ : Stmt} {suite : List Stmt} {np pos' : Pos} {hds : List ExceptHandler} {l : List (Value × (Addr → Value → Option Addr → TS))} (hc : Names X x c)
      (hsu : ∀ (a : Addr) (oe : Obj) (cls : Value) (d : Option Addr) (pn : List (Addr × Obj)), Zc cls d oe → (∃ vs, oe.data = .fields vs) → PSs (X.suite a ((a, oe) :: pn)) (b₀ :: suite) (ts a cls d)) (r : HdsAs X n hds l) :
      HdsAs X n (.ExceptHandler (some (.Name x np)) (some n) (b₀ :: suite) pos' :: hds) ((c, ts) :: l)
section
variable {X : Cx} {n : Str} {i : Nat} {body : List Stmt} {h₀ : ExceptHandler} {hds : List ExceptHandler} {l : List (Value × (Addr → Value → Option Addr → TS))} {pos : Pos} {tb : WX → TS} {Wout : WX}
theorem ps_try_manyAs (hs : X.stack = X.env :: X.outer) (hf : X.env.frame = some X.env.locals) (hN : X.N.Nodup) (hi : X.N[i]? = some n) (hln : X.env.kindOf n = some .local) (tk : Takes X Wout)
    (hb : ∀ (W : WX) (pn : List (Addr × Obj)) (xe : Value → Shared → Prop), Takes (X.tr pn xe) W → PassesOwn (model X.prog X.w) X.A X.env xe → PSs (X.tr pn xe) body (tb W))
    (hh : HdsAs X n (h₀ :: hds) l) : PS X (.Try body (h₀ :: hds) [] [] pos) (fun D σ H => tb (wManyAs X.K i Wout D l) D σ H) := by
  refine ⟨fun pins s σ H D I h => ?_⟩
  have ok := I.ok
  have hfr : X.A.frames = some (X.env :: X.outer) := by rw [ok.frames, hs]
  have hloc : Loc X.env.scope n := .inl hln
  refine wpAny_Try_except ?_
  refine wpAny_mono ((hb (wManyAs X.K i Wout D l) (X.pn ++ pins) (fun e s₁ => wpAny (model X.prog X.w) X.A (noteFrame e X.env) (fun _ s₂ => wpAny (model X.prog X.w) X.A (setFlight e none) (fun _ s₃ =>
    wpAny (model X.prog X.w) X.A (handleBy e X.env (h₀ :: hds)) (SP X pins D) X.xe s₃) X.xe s₂) X.xe s₁) (fun u s' xx => ?_) PassesOwn.looking).run [] s σ H D (I.toTry _) h) (fun f s1 hsp => ?_) (fun e s1 he => he)
  · -- the catch
    obtain ⟨a, B, sI, pins', σ', H', cls, d, rfl, J', nb, up, sky, na, os, ag, w⟩ := xx
    have J : Inv X pins σ' H' sI := J'.ofTry ok
    have sky' : Sky B (X.env :: X.outer) a (Zc cls d) X.env.locals s'.heap := by rw [← hs]; exact sky
    show wpAny (model X.prog X.w) X.A (noteFrame (.ref a) X.env) _ _ _
    refine Sky.land Zc.steady hfr hf sky' fun h3 fl3 up3 => ?_
    have J3 : Inv X pins σ' H' { s' with heap := h3 } := J.landed nb fl3.1 (up.trans up3) os ag
    obtain ⟨oe3, vs3, he3, hz3, hd3⟩ := fl3.there
    have notFr : ∀ {h : Heap} {o : Obj} {vs : Array Value}, h.FunFrames B (X.env :: X.outer) → h.get? a = some o → o.data = .fields vs → a ∉ frs (X.env :: X.outer) := fun {h o vs} ff e dd hm => by
      obtain ⟨_, o', e', hnf⟩ := ff.mem hm
      rw [e] at e'; cases e'
      exact hnf _ dd
    have nfr := notFr fl3.2.2.1 he3 hd3
    have nL : a ≠ X.env.locals := fun z => nfr (List.mem_filterMap.mpr ⟨X.env, List.mem_cons_self, by rw [hf, z]⟩)
    have nF : a ∉ X.fs := fun hm => by
      obtain ⟨e, he, q⟩ := List.mem_filterMap.mp hm
      exact nfr (List.mem_filterMap.mpr ⟨e, List.mem_cons_of_mem _ he, q⟩)
    have S3 := J3.suite he3 hd3 na nL nF
    have go : ∀ {hds' : List ExceptHandler} {l' : List (Value × (Addr → Value → Option Addr → TS))}, HdsAs X n hds' l' → wManyAs X.K i Wout D l' cls d σ' H' →
        wpAny (model X.prog X.w) X.A (handleBy (.ref a) X.env hds') (SP X pins D) X.xe { s' with heap := h3 } := by
      intro hds' l' hk
      induction hk with
      | nil =>
        intro w
        refine wpAny_handleBy_nil ?_
        obtain ⟨k1, k2, k3, oe, vs, T, oT, ts', he, hz, hd, h1, hr⟩ := id fl3
        unfold PySem.passOn
        refine wpAny_bind (wpAny_field he hd h1 ?_)
        rw [if_neg (show ¬ ((Value.ref T == Value.none) = true) from by simp)]
        have fin : wpAny (model X.prog X.w) X.A (setFlight (.ref a) X.env.frame) (fun _ s4 => wpAny (model X.prog X.w) X.A (throw (.ref a) : Sem Flow) (SP X pins D) X.xe s4) X.xe { s' with heap := h3 } := by
          rw [hf]
          refine HandSPX.setFlight_upZ fl3 fun h4 hh4 up4 => wpAny_throw (tk _ _ ?_)
          exact ⟨a, B, sI, pins, σ', H', cls, d, rfl, J, nb, (up.trans up3).trans up4, .inr (.inr (by rw [hs]; exact hh4)), na, os, ag, w⟩
        first
          | exact wpAny_bind (wpAny_pure (wpAny_bind fin))
          | exact wpAny_bind fin
      | @cons x c ts b₀ suite np pos' hds2 l2 hc hsu r ih =>
        intro w
        obtain ⟨b, hb1, hyes, hno⟩ := w
        refine wpAny_handleBy_cons (codeAny_handlers_test ?_) (by intro q; cases q)
        have LT : PySem.W.Looks (model X.prog X.w) h3 (typeOf (.ref a)) cls := fun A Q E s k q => wpAny_typeOf_ref (k _ _ he3) (by rw [hz3.1]; exact q)
        have LM := PySem.W.exm_one (M := model X.prog X.w) (J3.kIn) LT hb1
        have test : ∀ {Q : Value → Shared → Prop} {E : Value → Shared → Prop}, Q c { s' with heap := h3 } → wpAny (model X.prog X.w) (X.A.mark (some (.ref a))) (eval (.Name x np) X.env) Q E { s' with heap := h3 } := fun {Q E} q => by
          obtain ⟨hg, hdbg, hm | ⟨hm, hv, hnn⟩⟩ := hc
          · exact ld_glob (X := X.suite a ((a, oe3) :: (X.pn ++ pins))) S3 hg hm q hdbg
          · exact ld_blt (X := X.suite a ((a, oe3) :: (X.pn ++ pins))) S3 hg hm hv q hnn hdbg
        refine test (LM.here ?_)
        cases b with
        | true =>
          refine codeAny_handlers_suite_as ?_
          refine HandSPX.lands_againZ fl3 fun h4 fl4 up4 => ?_
          have J4 : Inv X pins σ' H' { s' with heap := h4 } := J.landed nb fl4.1 ((up.trans up3).trans up4) os ag
          obtain ⟨oe4, vs4, he4, hz4, hd4⟩ := fl4.there
          have S4 := J4.suite he4 hd4 na nL nF
          refine store_ok (X := X.suite a ((a, oe4) :: (X.pn ++ pins))) (v := .ref a) S4 hN hi hloc rfl (fun s5 S5 => ?_) (.inr hln)
          refine wpAny_mono ((hsu a oe4 cls d (X.pn ++ pins) hz4 ⟨_, hd4⟩).run [] s5 _ H' _ S5 (hyes rfl a na)) (fun f s6 hsp => ?_) (fun _ _ z => False.elim z)
          have end_ : ∀ {σ6 : L2.St} {H6 : Hp} {Q : Shared → Prop}, Inv (X.suite a ((a, oe4) :: (X.pn ++ pins))) [] σ6 H6 s6 → (∀ s7, Inv X pins (σ6.set i none) H6 s7 → Q s7) →
              wpAny (model X.prog X.w) X.A (do bindName X.env n .none; unbindBehindTheSuite X.env n pos') (fun _ s7 => Q s7) X.xe s6 := fun {σ6 H6 Q} S6 hq => gone_ok (S6.unsuite ok) hN hi hln hq
          cases f with
          | next =>
            obtain ⟨σ6, H6, S6, q6⟩ := hsp
            exact end_ S6 fun s7 J7 => ⟨_, _, J7, q6⟩
          | brk =>
            obtain ⟨σ6, H6, S6, q6⟩ := hsp
            exact end_ S6 fun s7 J7 => ⟨_, _, J7, q6⟩
          | cont =>
            obtain ⟨σ6, H6, S6, q6⟩ := hsp
            exact end_ S6 fun s7 J7 => ⟨_, _, J7, q6⟩
          | ret u =>
            obtain ⟨v6, σ6, H6, S6, r6, q6⟩ := hsp
            exact end_ S6 fun s7 J7 => ⟨_, _, _, J7, r6, q6⟩
        | false =>
          show wpAny _ X.A (handleBy (.ref a) X.env hds2) _ _ _
          exact ih (hno rfl)
    exact go hh w
  · cases f with
    | next =>
      obtain ⟨σ', H', J', q⟩ := hsp
      exact wpAny_execs_nil ⟨σ', H', J'.ofTry ok, q⟩
    | brk =>
      obtain ⟨σ', H', J', q⟩ := hsp
      exact ⟨σ', H', J'.ofTry ok, q⟩
    | cont =>
      obtain ⟨σ', H', J', q⟩ := hsp
      exact ⟨σ', H', J'.ofTry ok, q⟩
    | ret u =>
      obtain ⟨v, σ', H', J', r, q⟩ := hsp
      exact ⟨v, σ', H', J'.ofTry ok, r, q⟩
end
/-- what the written part says of the base class (at B) whose __init__ is called by name -/
structure BaseI (K : PySem.W.Frag) (B : Addr) : Prop where
  rd : PySem.W.readsIn K B (.type "type") = true
  sp : PySem.W.specialIn K (.ref B) "__getattribute__" = some (some (.builtin "type.__getattribute__"))
  vV : PySem.W.findCls K (.ref B) (.type "type") "__init__" = some (.val (.builtin "ValueError.__init__"))
theorem pe_rinit {X : Cx} {B : Addr} {x : Str} {p1 p2 pos : Pos} {e : Expr} {es : List Expr} {ta : TA} {pl : Sem Bool} (T : BaseI X.K B) (hg : Gl X x) (hm : X.mg x = some (.ref B)) (ha : PA X (e :: es) ta)
    (hdb : (x == ("__debug__" : Str)) = false := by decide)
    (hc : eval (.Call (.Attribute (.Name x p1) "__init__" p2) (e :: es) [] pos) X.env = (do
      let ov ← eval (.Name x p1) X.env
      standAt p2.atName
      let (f, first) ← holding [ov] (getMethod ov "__init__" pl)
      callWith pos f first (backTo pos (starEach (e :: es) X.env)) (backToKw pos (keywordEach [] X.env))) := by rfl)
    (he : starEach (e :: es) X.env = (false, eval e X.env) :: starEach es X.env := by rfl) (hpl : (backTo pos (starEach es X.env)).any (·.1) = false := by rfl) :
    PE X (.Call (.Attribute (.Name x p1) "__init__" p2) (e :: es) [] pos) (tVeI X.K ta) := by
  refine ⟨fun pins s σ H Q I h => ?_⟩
  refine PySem.W.methodCall_KW (ld_glob I hg hm ?_ hdb) hc
  refine PySem.W.method_cls I.kIn T.sp (PySem.W.cls_value I.kIn T.rd T.vV (by decide +kernel) ?_)
  show wpAny _ _ (callWith pos (Value.builtin "ValueError.__init__") [] (backTo pos (starEach (e :: es) X.env)) []) _ _ _
  refine PyProof.Rows.callWith_method1 (thn (ha.run pos pins _ σ H _ (I.tok _) h) fun us s1 ⟨vs, H1, I1, r1, a, C, ws, ev, hl, T, ea, q⟩ => ?_) he hpl
  subst ev
  cases r1 with
  | @cons _ u0 _ ur ra rw' =>
    obtain rfl : u0 = Value.ref a := ra
    have hlen : ur.length ≤ sizeLine := by
      rw [← Paired.length rw', sizeLine_eq]
      omega
    exact oinit_ok T I1 ea hlen fun s' J => ⟨.non, H1, J, rfl, q⟩
end RS
end TxtG5

section TxtL1
set_option Elab.async false
set_option linter.all false
set_option maxRecDepth 100000
set_option maxHeartbeats 1000000
/-! the abstract layer: values as data D, the heap as cells -/
namespace RS
open PySem PySem.Spec PyProof.Rows L2
/-- a value described: data, or a given value -/
inductive D where
  | non | bl (b : Bool) | int (i : Int) | str (s : Str) | tup (ds : List D) | lst (ds : List D) | val (v : V)
mutual
def Rp (H : Hp) : D → V → Prop
  | .non, v => v = .non
  | .bl b, v => v = .bl b
  | .int i, v => v = .int i
  | .str s, v => v = .str s
  | .tup ds, v => ∃ a xs, v = .ref a ∧ H a = some (.tup xs) ∧ RpAll H ds xs
  | .lst ds, v => ∃ a xs, v = .ref a ∧ H a = some (.lst xs) ∧ RpAll H ds xs
  | .val w, v => v = w
def RpAll (H : Hp) : List D → List V → Prop
  | [], xs => xs = []
  | d :: ds, xs => ∃ v vs, xs = v :: vs ∧ Rp H d v ∧ RpAll H ds vs
end
mutual
/-- no list within -/
def tp : D → Bool
  | .tup ds => tpAll ds
  | .lst _ => false
  | .non | .bl _ | .int _ | .str _ | .val _ => true
def tpAll : List D → Bool
  | [] => true
  | d :: ds => tp d && tpAll ds
end
mutual
/-- no given value within -/
def pur : D → Bool
  | .tup ds => purAll ds
  | .lst ds => purAll ds
  | .val _ => false
  | .non | .bl _ | .int _ | .str _ => true
def purAll : List D → Bool
  | [] => true
  | d :: ds => pur d && purAll ds
end
mutual
def py : D → PyData
  | .non => .none
  | .bl b => .bool b
  | .int i => .int i
  | .str s => .str s
  | .tup ds => .tuple (pyAll ds)
  | .lst ds => .list (pyAll ds)
  | .val _ => .none
def pyAll : List D → List PyData
  | [] => []
  | d :: ds => py d :: pyAll ds
end
def Tu (H H' : Hp) : Prop := ∀ b xs, H b = some (.tup xs) → H' b = some (.tup xs)
abbrev Ex (H H' : Hp) : Prop := Same H H'
theorem Ex.tu {H H' : Hp} (e : Ex H H') : Tu H H' := fun b xs h => e b _ h
theorem Tu.refl (H : Hp) : Tu H H := fun _ _ h => h
theorem Tu.trans {H H1 H2 : Hp} (a : Tu H H1) (b : Tu H1 H2) : Tu H H2 := fun c xs h => b c xs (a c xs h)
theorem Ex.new {H : Hp} {p : Addr} {o : HO} (h : H p = none) : Ex H (upd H p o) := fun a u e => by
  rw [upd_ne (ne_of_none e h)]
  exact e
theorem Ex.mut {H H' : Hp} {p : Addr} {o : HO} (e : Ex H H') (h : H p = none) : Ex H (upd H' p o) := fun a u ha => by
  rw [upd_ne (ne_of_none ha h)]
  exact e a u ha
section
variable {H H' : Hp}
mutual
theorem Rp.ex (e : Ex H H') : ∀ {d : D} {v : V}, Rp H d v → Rp H' d v
  | .non, _, r => r
  | .bl _, _, r => r
  | .int _, _, r => r
  | .str _, _, r => r
  | .val _, _, r => r
  | .tup ds, _, r => by
    rw [Rp] at r ⊢
    obtain ⟨a, xs, e1, h, q⟩ := r
    exact ⟨a, xs, e1, e _ _ h, RpAll.ex e q⟩
  | .lst ds, _, r => by
    rw [Rp] at r ⊢
    obtain ⟨a, xs, e1, h, q⟩ := r
    exact ⟨a, xs, e1, e _ _ h, RpAll.ex e q⟩
theorem RpAll.ex (e : Ex H H') : ∀ {ds : List D} {vs : List V}, RpAll H ds vs → RpAll H' ds vs
  | [], _, r => r
  | d :: ds, _, r => by
    rw [RpAll] at r ⊢
    obtain ⟨v, vs, e1, h, q⟩ := r
    exact ⟨v, vs, e1, Rp.ex e h, RpAll.ex e q⟩
end
mutual
theorem Rp.tu (e : Tu H H') : ∀ {d : D} {v : V}, tp d = true → Rp H d v → Rp H' d v
  | .non, _, _, r => r
  | .bl _, _, _, r => r
  | .int _, _, _, r => r
  | .str _, _, _, r => r
  | .val _, _, _, r => r
  | .tup ds, _, t, r => by
    rw [Rp] at r ⊢
    rw [tp] at t
    obtain ⟨a, xs, e1, h, q⟩ := r
    exact ⟨a, xs, e1, e _ _ h, RpAll.tu e t q⟩
  | .lst ds, _, t, _ => by rw [tp] at t; cases t
theorem RpAll.tu (e : Tu H H') : ∀ {ds : List D} {vs : List V}, tpAll ds = true → RpAll H ds vs → RpAll H' ds vs
  | [], _, _, r => r
  | d :: ds, _, t, r => by
    rw [RpAll] at r ⊢
    rw [tpAll, Bool.and_eq_true] at t
    obtain ⟨v, vs, e1, h, q⟩ := r
    exact ⟨v, vs, e1, Rp.tu e t.1 h, RpAll.tu e t.2 q⟩
end
mutual
theorem Rp.dp {K : PySem.W.Frag} : ∀ {d : D} {v : V}, pur d = true → Rp H d v → Dp K H v (py d)
  | .non, _, _, r => by rw [Rp] at r; subst r; rw [py]; exact .non
  | .bl _, _, _, r => by rw [Rp] at r; subst r; rw [py]; exact .bl _
  | .int _, _, _, r => by rw [Rp] at r; subst r; rw [py]; exact .int _
  | .str _, _, _, r => by rw [Rp] at r; subst r; rw [py]; exact .str _
  | .val _, _, p, _ => by rw [pur] at p; cases p
  | .tup ds, _, p, r => by
    rw [Rp] at r
    rw [pur] at p
    obtain ⟨a, xs, e1, h, q⟩ := r
    subst e1
    rw [py]
    exact .tup (SqT.of h) (RpAll.dp p q)
  | .lst ds, _, p, r => by
    rw [Rp] at r
    rw [pur] at p
    obtain ⟨a, xs, e1, h, q⟩ := r
    subst e1
    rw [py]
    exact .lst (SqL.of h) (RpAll.dp p q)
theorem RpAll.dp {K : PySem.W.Frag} : ∀ {ds : List D} {vs : List V}, purAll ds = true → RpAll H ds vs → DpAll K H vs (pyAll ds)
  | [], _, _, r => by rw [RpAll] at r; subst r; rw [pyAll]; exact .nil
  | d :: ds, _, p, r => by
    rw [RpAll] at r
    rw [purAll, Bool.and_eq_true] at p
    obtain ⟨v, vs, e1, h, q⟩ := r
    subst e1
    rw [pyAll]
    exact .cons (Rp.dp p.1 h) (RpAll.dp p.2 q)
end
theorem RpAll.nil : RpAll H [] [] := by rw [RpAll]
theorem RpAll.cons {d : D} {v : V} {ds : List D} {vs : List V} (h : Rp H d v) (q : RpAll H ds vs) : RpAll H (d :: ds) (v :: vs) := by
  rw [RpAll]; exact ⟨v, vs, rfl, h, q⟩
theorem RpAll.length : ∀ {ds : List D} {vs : List V}, RpAll H ds vs → vs.length = ds.length
  | [], _, r => by rw [RpAll] at r; subst r; rfl
  | d :: ds, _, r => by
    rw [RpAll] at r
    obtain ⟨v, vs, e1, h, q⟩ := r
    subst e1
    rw [List.length_cons, List.length_cons, RpAll.length q]
theorem RpAll.get : ∀ {ds : List D} {vs : List V}, RpAll H ds vs → ∀ {i : Nat} {d : D}, ds[i]? = some d → ∃ v, vs[i]? = some v ∧ Rp H d v
  | [], _, _, i, d, h => by simp at h
  | d :: ds, _, r, 0, d', h => by
    rw [RpAll] at r
    obtain ⟨v, vs, e1, h1, q⟩ := r
    subst e1
    simp at h
    subst h
    exact ⟨v, rfl, h1⟩
  | d :: ds, _, r, i + 1, d', h => by
    rw [RpAll] at r
    obtain ⟨v, vs, e1, h1, q⟩ := r
    subst e1
    exact RpAll.get q (i := i) (by simpa using h)
theorem RpAll.get' {ds : List D} {vs : List V} (r : RpAll H ds vs) {i : Nat} {v : V} (h : vs[i]? = some v) : ∃ d, ds[i]? = some d ∧ Rp H d v := by
  have hl := r.length
  have hi := (List.getElem?_eq_some_iff.mp h).1
  have hi' : i < ds.length := by omega
  obtain ⟨w, hw, rw'⟩ := r.get (List.getElem?_eq_getElem hi')
  rw [h] at hw
  cases hw
  exact ⟨_, List.getElem?_eq_getElem hi', rw'⟩
theorem RpAll.of : ∀ {ds : List D} {vs : List V}, vs.length = ds.length → (∀ (i : Nat) d v, ds[i]? = some d → vs[i]? = some v → Rp H d v) → RpAll H ds vs
  | [], [], _, _ => .nil
  | [], _ :: _, h, _ => by simp at h
  | _ :: _, [], h, _ => by simp at h
  | d :: ds, v :: vs, h, q => .cons (q 0 d v rfl rfl) (RpAll.of (by simpa using h) fun i d' v' h1 h2 => q (i + 1) d' v' (by simpa using h1) (by simpa using h2))
theorem RpAll.append : ∀ {ds es : List D} {vs us : List V}, RpAll H ds vs → RpAll H es us → RpAll H (ds ++ es) (vs ++ us)
  | [], _, _, _, r, s => by rw [RpAll] at r; subst r; exact s
  | d :: ds, _, _, _, r, s => by
    rw [RpAll] at r
    obtain ⟨v, vs, e1, h1, q⟩ := r
    subst e1
    exact .cons h1 (RpAll.append q s)
theorem RpAll.drop {ds : List D} {vs : List V} (r : RpAll H ds vs) (n : Nat) : RpAll H (ds.drop n) (vs.drop n) :=
  .of (by simp [r.length]) fun i d v h1 h2 => by
    rw [List.getElem?_drop] at h1 h2
    obtain ⟨w, hw, q⟩ := r.get h1
    rw [h2] at hw
    cases hw
    exact q
theorem RpAll.take {ds : List D} {vs : List V} (r : RpAll H ds vs) (n : Nat) : RpAll H (ds.take n) (vs.take n) :=
  .of (by simp [r.length]) fun i d v h1 h2 => by
    rw [List.getElem?_take] at h1 h2
    split at h1
    · rename_i hi
      rw [if_pos hi] at h2
      obtain ⟨w, hw, q⟩ := r.get h1
      rw [h2] at hw
      cases hw
      exact q
    · cases h1
theorem RpAll.set {ds : List D} {vs : List V} (r : RpAll H ds vs) (i : Nat) {d : D} {v : V} (h : Rp H d v) : RpAll H (ds.set i d) (vs.set i v) :=
  .of (by simp [r.length]) fun j d' v' h1 h2 => by
    have hl := r.length
    by_cases e : i = j
    · subst e
      have hi := (List.getElem?_eq_some_iff.mp h1).1
      rw [List.length_set] at hi
      rw [List.getElem?_set_self hi] at h1
      rw [List.getElem?_set_self (by omega)] at h2
      cases h1
      cases h2
      exact h
    · rw [List.getElem?_set_ne e] at h1 h2
      obtain ⟨w, hw, q⟩ := r.get h1
      rw [h2] at hw
      cases hw
      exact q
theorem RpAll.erase {ds : List D} {vs : List V} (r : RpAll H ds vs) (i : Nat) : RpAll H (ds.eraseIdx i) (vs.eraseIdx i) :=
  .of (by simp [List.length_eraseIdx, r.length]) fun j d v h1 h2 => by
    rw [List.getElem?_eraseIdx] at h1 h2
    split at h1
    · rename_i hj
      rw [if_pos hj] at h2
      obtain ⟨w, hw, q⟩ := r.get h1
      rw [h2] at hw
      cases hw
      exact q
    · rename_i hj
      rw [if_neg hj] at h2
      obtain ⟨w, hw, q⟩ := r.get h1
      rw [h2] at hw
      cases hw
      exact q
theorem rp_int {i : Int} : Rp H (.int i) (.int i) := by rw [Rp]
theorem rp_bl {b : Bool} : Rp H (.bl b) (.bl b) := by rw [Rp]
theorem rp_non : Rp H .non .non := by rw [Rp]
theorem rp_val {v : V} : Rp H (.val v) v := by rw [Rp]
theorem rp_tup {ds : List D} {a : Addr} {xs : List V} (h : H a = some (.tup xs)) (r : RpAll H ds xs) : Rp H (.tup ds) (.ref a) := by rw [Rp]; exact ⟨a, xs, rfl, h, r⟩
theorem rp_lst {ds : List D} {a : Addr} {xs : List V} (h : H a = some (.lst xs)) (r : RpAll H ds xs) : Rp H (.lst ds) (.ref a) := by rw [Rp]; exact ⟨a, xs, rfl, h, r⟩
/-- ints -/
theorem rpAll_ints {ns : List Int} {vs : List V} : RpAll H (ns.map .int) vs ↔ vs = ns.map V.int := by
  induction ns generalizing vs with
  | nil => rw [List.map_nil, RpAll]; exact Iff.rfl
  | cons n ns ih =>
    rw [List.map_cons, RpAll]
    constructor
    · rintro ⟨v, vs', rfl, h, q⟩
      rw [Rp] at h
      rw [h, ih.mp q, List.map_cons]
    · rintro rfl
      exact ⟨_, _, rfl, by rw [Rp], ih.mpr rfl⟩
theorem rpAll_bls {ns : List Bool} {vs : List V} : RpAll H (ns.map .bl) vs ↔ vs = ns.map V.bl := by
  induction ns generalizing vs with
  | nil => rw [List.map_nil, RpAll]; exact Iff.rfl
  | cons n ns ih =>
    rw [List.map_cons, RpAll]
    constructor
    · rintro ⟨v, vs', rfl, h, q⟩
      rw [Rp] at h
      rw [h, ih.mp q, List.map_cons]
    · rintro rfl
      exact ⟨_, _, rfl, by rw [Rp], ih.mpr rfl⟩
end
/-! ### cells -/
inductive Cell where
  | lst (ds : List D)
  | ins (C : Addr) (fs : List (Str × D))
  | dk (kvs : List (Int × D))
  | dn (kvs : List (SKey × D))
abbrev GG := List (Addr × Cell)
def FAll (H : Hp) (fs : List (Str × D)) (gs : List (Str × V)) : Prop := gs.map (·.1) = fs.map (·.1) ∧ RpAll H (fs.map (·.2)) (gs.map (·.2))
def CellAt (P : Program) (w : World) (H : Hp) (a : Addr) : Cell → Prop
  | .lst ds => ∃ xs, H a = some (.lst xs) ∧ RpAll H ds xs
  | .ins C fs => ∃ dx gs, H a = some (.ins C dx gs) ∧ FAll H fs gs
  | .dk kvs => ∃ vs : List (Key × V), H a = some (.dK vs) ∧ vs.map (·.1) = kvs.map (fun p => Sum.inl p.1) ∧ RpAll H (kvs.map (·.2)) (vs.map (·.2))
  | .dn kvs => ∃ vs : List (SKey × V), DN P w H a vs ∧ vs.map (·.1) = kvs.map (·.1) ∧ RpAll H (kvs.map (·.2)) (vs.map (·.2))
def Sat (P : Program) (w : World) (G : GG) (H : Hp) : Prop := (G.map (·.1)).Nodup ∧ ∀ p ∈ G, CellAt P w H p.1 p.2
def cellTp : Cell → Bool
  | .lst ds => tpAll ds
  | .ins _ fs => tpAll (fs.map (·.2))
  | .dk kvs => tpAll (kvs.map (·.2))
  | .dn kvs => tpAll (kvs.map (·.2))
def gTp (G : GG) : Bool := G.all fun p => cellTp p.2
abbrev LD := List (Option D)
def ldTp (ds : LD) : Bool := ds.all fun o => match o with | some d => tp d | none => true
def Loc (σ : L2.St) (H : Hp) (ds : LD) : Prop := σ.length = ds.length ∧ ∀ (i : Nat) d, ds[i]? = some (some d) → ∃ v, σ[i]? = some (some v) ∧ Rp H d v
/-- what a def may have changed: the objects in M -/
structure Fr (M : List Addr) (H0 H : Hp) : Prop where
  keep : ∀ b o, H0 b = some o → b ∉ M → H b = some o
  trk : ∀ b, H b = none → H0 b = none
  tu : Tu H0 H
section
variable {P : Program} {w : World} {H H' H0 H1 : Hp} {G : GG} {a : Addr} {c : Cell} {M : List Addr} {ds : LD} {σ : L2.St}
theorem Fr.refl : Fr M H H := ⟨fun _ _ h _ => h, fun _ h => h, Tu.refl H⟩
theorem Fr.ex (f : Fr M H0 H) (e : Ex H H') : Fr M H0 H' := ⟨fun b o h n => e _ _ (f.keep b o h n), fun b h => f.trk b (Same.free e h), f.tu.trans (Ex.tu e)⟩
theorem Fr.of_ex (e : Ex H0 H) : Fr M H0 H := ⟨fun b o h n => e _ _ h, fun b h => Same.free e h, Ex.tu e⟩
theorem Fr.to_ex (f : Fr [] H0 H) : Ex H0 H := fun b o h => f.keep b o h (by simp)
theorem Fr.trans {M' : List Addr} (f : Fr M H0 H) (g : Fr M' H H') (hm : ∀ m ∈ M', m ∈ M ∨ H0 m = none) : Fr M H0 H' :=
  ⟨fun b o h n => g.keep b o (f.keep b o h n) fun hb => (hm b hb).elim n fun z => (by rw [z] at h; cases h), fun b h => f.trk b (g.trk b h), f.tu.trans g.tu⟩
theorem Fr.mono {M' : List Addr} (f : Fr M H0 H) (hm : ∀ m ∈ M, m ∈ M' ∨ H0 m = none) : Fr M' H0 H :=
  ⟨fun b o h n => f.keep b o h fun hb => (hm b hb).elim n fun z => (by rw [z] at h; cases h), f.trk, f.tu⟩
theorem Fr.upd {o : HO} (f : Fr M H0 H) (ha : a ∈ M ∨ H0 a = none) (nt : ∀ xs, H a ≠ some (.tup xs)) : Fr M H0 (upd H a o) := by
  refine ⟨fun b u h n => ?_, fun b h => ?_, fun b xs h => ?_⟩
  · have hb : b ≠ a := fun z => by
      subst z
      rcases ha with q | q
      · exact n q
      · rw [q] at h; cases h
    rw [upd_ne hb]
    exact f.keep b u h n
  · by_cases hb : b = a
    · subst hb; rw [upd_same] at h; cases h
    · rw [upd_ne hb] at h; exact f.trk b h
  · have q := f.tu b xs h
    have hb : b ≠ a := fun z => by subst z; exact nt xs q
    rw [upd_ne hb]
    exact q
theorem CellAt.some (x : CellAt P w H a c) : ∃ o, H a = some o := by
  cases c with
  | lst ds => obtain ⟨xs, h, _⟩ := x; exact ⟨_, h⟩
  | ins C fs => obtain ⟨dx, gs, h, _⟩ := x; exact ⟨_, h⟩
  | dk kvs => obtain ⟨vs, h, _⟩ := x; exact ⟨_, h⟩
  | dn kvs => obtain ⟨vs, ⟨_, xs, h, _⟩, _⟩ := x; exact ⟨_, h⟩
theorem CellAt.notup (x : CellAt P w H a c) : ∀ xs, H a ≠ Option.some (.tup xs) := by
  intro ys
  cases c with
  | lst ds => obtain ⟨xs, h, _⟩ := x; rw [h]; intro z; cases z
  | ins C fs => obtain ⟨dx, gs, h, _⟩ := x; rw [h]; intro z; cases z
  | dk kvs => obtain ⟨vs, h, _⟩ := x; rw [h]; intro z; cases z
  | dn kvs => obtain ⟨vs, ⟨_, xs, h, _⟩, _⟩ := x; rw [h]; intro z; cases z
theorem CellAt.ex (e : Ex H H') (x : CellAt P w H a c) : CellAt P w H' a c := by
  cases c with
  | lst ds => obtain ⟨xs, h, r⟩ := x; exact ⟨xs, e _ _ h, r.ex e⟩
  | ins C fs => obtain ⟨dx, gs, h, r1, r2⟩ := x; exact ⟨dx, gs, e _ _ h, r1, r2.ex e⟩
  | dk kvs => obtain ⟨vs, h, r1, r2⟩ := x; exact ⟨vs, e _ _ h, r1, r2.ex e⟩
  | dn kvs => obtain ⟨vs, h, r1, r2⟩ := x; exact ⟨vs, h.keeps (fun o q => e _ _ q) (Ex.tu e), r1, r2.ex e⟩
theorem CellAt.tu (t : Tu H H') (e : ∀ o, H a = Option.some o → H' a = Option.some o) (ht : cellTp c = true) (x : CellAt P w H a c) : CellAt P w H' a c := by
  cases c with
  | lst ds => obtain ⟨xs, h, r⟩ := x; exact ⟨xs, e _ h, r.tu t ht⟩
  | ins C fs => obtain ⟨dx, gs, h, r1, r2⟩ := x; exact ⟨dx, gs, e _ h, r1, r2.tu t ht⟩
  | dk kvs => obtain ⟨vs, h, r1, r2⟩ := x; exact ⟨vs, e _ h, r1, r2.tu t ht⟩
  | dn kvs => obtain ⟨vs, h, r1, r2⟩ := x; exact ⟨vs, h.keeps e t, r1, r2.tu t ht⟩
theorem Sat.ex (e : Ex H H') (s : Sat P w G H) : Sat P w G H' := ⟨s.1, fun p hp => (s.2 p hp).ex e⟩
theorem Sat.get (s : Sat P w G H) {j : Nat} (h : G[j]? = Option.some (a, c)) : CellAt P w H a c := s.2 (a, c) (List.mem_of_getElem? h)
theorem Sat.sub {G' : GG} (s : Sat P w G H) (hn : (G'.map (·.1)).Nodup) (hs : ∀ p ∈ G', p ∈ G) : Sat P w G' H := ⟨hn, fun p hp => s.2 p (hs p hp)⟩
/-- the heap's objects but those in M are as they were -/
theorem Sat.tu (s : Sat P w G H) (f : Fr M H H') (ht : gTp G = true) (hm : ∀ p ∈ G, p.1 ∉ M) : Sat P w G H' :=
  ⟨s.1, fun p hp => (s.2 p hp).tu f.tu (fun o h => f.keep _ o h (hm p hp)) (List.all_eq_true.mp ht p hp)⟩
theorem Sat.new {p : Addr} {o : HO} (s : Sat P w G H) (hp : H p = none) (e : Ex H H') (h : CellAt P w H' p c) : Sat P w ((p, c) :: G) H' := by
  refine ⟨?_, fun q hq => ?_⟩
  · rw [List.map_cons, List.nodup_cons]
    refine ⟨fun hm => ?_, s.1⟩
    obtain ⟨q, hq, e1⟩ := List.mem_map.mp hm
    obtain ⟨u, hu⟩ := (s.2 q hq).some
    have e2 : q.1 = p := e1
    rw [e2, hp] at hu
    cases hu
  · rcases List.mem_cons.mp hq with rfl | hq
    · exact h
    · exact (s.2 q hq).ex e
/-- one object is changed -/
theorem Sat.set {o : HO} {c' : Cell} {j : Nat} (s : Sat P w G H) (h : G[j]? = Option.some (a, c)) (ht : gTp G = true) (hc : Tu H (upd H a o) → CellAt P w (upd H a o) a c') : Sat P w (G.set j (a, c')) (upd H a o) := by
  have nt := (s.get h).notup
  have t : Tu H (upd H a o) := fun b xs q => by
    rw [upd_ne (fun z => by subst z; exact nt xs q)]
    exact q
  have hj := (List.getElem?_eq_some_iff.mp h).1
  have e1 : (G.set j (a, c')).map (·.1) = G.map (·.1) := by
    rw [List.map_set]
    have : (G.map (·.1))[j]? = Option.some a := by rw [List.getElem?_map, h]; rfl
    exact List.ext_getElem? fun k => by
      by_cases e : j = k
      · subst e
        rw [List.getElem?_set_self (by simpa using hj), this]
      · rw [List.getElem?_set_ne e]
  refine ⟨by rw [e1]; exact s.1, fun p hp => ?_⟩
  obtain ⟨k, hk⟩ := List.mem_iff_getElem?.mp hp
  by_cases e : j = k
  · subst e
    rw [List.getElem?_set_self hj] at hk
    cases hk
    exact hc t
  · rw [List.getElem?_set_ne e] at hk
    have hp' := List.mem_of_getElem? hk
    have hne : p.1 ≠ a := fun z => by
      have q1 : (G.map (·.1))[k]? = Option.some a := by rw [List.getElem?_map, hk]; exact congrArg Option.some z
      have q2 : (G.map (·.1))[j]? = Option.some a := by rw [List.getElem?_map, h]; rfl
      exact e (nd_ix s.1 q2 q1)
    exact (s.2 p hp').tu t (fun u hu => by rw [upd_ne hne]; exact hu) (List.all_eq_true.mp ht p hp')
theorem Loc.ex (e : Ex H H') (l : Loc σ H ds) : Loc σ H' ds := ⟨l.1, fun i d h => let ⟨v, h1, r⟩ := l.2 i d h; ⟨v, h1, r.ex e⟩⟩
theorem Loc.tu (t : Tu H H') (ht : ldTp ds = true) (l : Loc σ H ds) : Loc σ H' ds := ⟨l.1, fun i d h => by
  obtain ⟨v, h1, r⟩ := l.2 i d h
  exact ⟨v, h1, r.tu t (List.all_eq_true.mp ht _ (List.mem_of_getElem? h))⟩⟩
theorem Loc.set {i : Nat} {d : D} {v : V} (l : Loc σ H ds) (r : Rp H d v) : Loc (σ.set i (some v)) H (ds.set i (some d)) := by
  refine ⟨by simp [l.1], fun j d' h => ?_⟩
  by_cases e : i = j
  · subst e
    have hi := (List.getElem?_eq_some_iff.mp h).1
    rw [List.length_set] at hi
    rw [List.getElem?_set_self hi] at h
    cases h
    exact ⟨v, List.getElem?_set_self (by rw [l.1]; exact hi), r⟩
  · rw [List.getElem?_set_ne e] at h
    obtain ⟨u, h1, q⟩ := l.2 j d' h
    exact ⟨u, by rw [List.getElem?_set_ne e]; exact h1, q⟩
theorem Loc.unset {i : Nat} (l : Loc σ H ds) : Loc (σ.set i none) H (ds.set i none) := by
  refine ⟨by simp [l.1], fun j d' h => ?_⟩
  by_cases e : i = j
  · subst e
    have hi := (List.getElem?_eq_some_iff.mp h).1
    rw [List.length_set] at hi
    rw [List.getElem?_set_self hi] at h
    cases h
  · rw [List.getElem?_set_ne e] at h
    obtain ⟨u, h1, q⟩ := l.2 j d' h
    exact ⟨u, by rw [List.getElem?_set_ne e]; exact h1, q⟩
/-- forgetting -/
theorem Loc.weak {ds' : LD} (l : Loc σ H ds) (hl : ds'.length = ds.length) (h : ∀ (i : Nat) d, ds'[i]? = some (some d) → ds[i]? = some (some d)) : Loc σ H ds' := ⟨l.1.trans hl.symm, fun i d q => l.2 i d (h i d q)⟩
end
end RS
end TxtL1

section TxtL2
set_option Elab.async false
set_option linter.all false
set_option maxRecDepth 100000
set_option maxHeartbeats 1000000
/-! expressions over the abstract layer -/
namespace RS
open PySem PySem.Spec PyProof.Rows L2
structure wpE (X : Cx) (e : Expr) (σ : L2.St) (H : Hp) (Q : VK) : Prop where
  run : ∀ (pins : List (Addr × Obj)) (s : Shared), Inv X pins σ H s → wpAny (model X.prog X.w) X.A (eval e X.env) (EP X pins σ Q) X.xe s
structure wpT (X : Cx) (e : Expr) (σ : L2.St) (H : Hp) (Q : Bool → Hp → Prop) : Prop where
  run : ∀ (pins : List (Addr × Obj)) (s : Shared), Inv X pins σ H s → wpAny (model X.prog X.w) X.A (isTrue e X.env (eval e X.env)) (TP X pins σ Q) X.xe s
structure wpW (X : Cx) (e : Expr) (σ : L2.St) (H : Hp) (Q : Bool → Hp → Prop) : Prop where
  run : ∀ (whole : Sem Value) (pins : List (Addr × Obj)) (s : Shared), Inv X pins σ H s → wpAny (model X.prog X.w) X.A (isTrue e X.env whole) (TP X pins σ Q) X.xe s
structure wpA (X : Cx) (es : List Expr) (σ : L2.St) (H : Hp) (Q : List V → Hp → Prop) : Prop where
  run : ∀ (pos : Pos) (pins : List (Addr × Obj)) (s : Shared), Inv X pins σ H s → wpAny (model X.prog X.w) X.A (spliced (backTo pos (starEach es X.env))) (AP X pins σ Q) X.xe s
section
variable {X : Cx} {e : Expr} {es : List Expr} {σ : L2.St} {H : Hp}
theorem peS : PE X e (wpE X e) := ⟨fun pins s σ H Q I h => h.run pins s I⟩
theorem ptS : PT X e (wpT X e) := ⟨fun pins s σ H Q I h => h.run pins s I⟩
theorem pwS : PW X e (wpW X e) := ⟨fun wh pins s σ H Q I h => h.run wh pins s I⟩
theorem paS : PA X es (wpA X es) := ⟨fun pos pins s σ H Q I h => h.run pos pins s I⟩
theorem ewp {t : TE} (h : PE X e t) {Q : VK} (q : t σ H Q) : wpE X e σ H Q := ⟨fun pins s I => h.run pins s σ H Q I q⟩
theorem twp {t : TT} (h : PT X e t) {Q : Bool → Hp → Prop} (q : t σ H Q) : wpT X e σ H Q := ⟨fun pins s I => h.run pins s σ H Q I q⟩
theorem wwp {t : TT} (h : PW X e t) {Q : Bool → Hp → Prop} (q : t σ H Q) : wpW X e σ H Q := ⟨fun wh pins s I => h.run wh pins s σ H Q I q⟩
theorem awp {t : TA} (h : PA X es t) {Q : List V → Hp → Prop} (q : t σ H Q) : wpA X es σ H Q := ⟨fun pos pins s I => h.run pos pins s σ H Q I q⟩
end
/-- e is d, the heap grows -/
def XE (X : Cx) (G : GG) (ds : LD) (e : Expr) (d : D) : Prop := ∀ (σ : L2.St) (H : Hp) (Q : VK), Loc σ H ds → Sat X.prog X.w G H → (∀ v H', Ex H H' → Rp H' d v → Q v H') → wpE X e σ H Q
/-- e is a new list of dl -/
def XN (X : Cx) (G : GG) (ds : LD) (e : Expr) (dl : List D) : Prop := ∀ (σ : L2.St) (H : Hp) (Q : VK), Loc σ H ds → Sat X.prog X.w G H → (∀ p xs H', H p = none → Ex H H' → H' p = some (.lst xs) → RpAll H' dl xs → Q (.ref p) H') → wpE X e σ H Q
def XT (X : Cx) (G : GG) (ds : LD) (e : Expr) (b : Bool) : Prop := ∀ (σ : L2.St) (H : Hp) (Q : Bool → Hp → Prop), Loc σ H ds → Sat X.prog X.w G H → (∀ H', Ex H H' → Q b H') → wpT X e σ H Q
def XTw (X : Cx) (G : GG) (ds : LD) (e : Expr) (b : Bool) : Prop := ∀ (σ : L2.St) (H : Hp) (Q : Bool → Hp → Prop), Loc σ H ds → Sat X.prog X.w G H → (∀ H', Ex H H' → Q b H') → wpW X e σ H Q
def XA (X : Cx) (G : GG) (ds : LD) (es : List Expr) (dl : List D) : Prop := ∀ (σ : L2.St) (H : Hp) (Q : List V → Hp → Prop), Loc σ H ds → Sat X.prog X.w G H → (∀ vs H', Ex H H' → RpAll H' dl vs → Q vs H') → wpA X es σ H Q
section
variable {X : Cx} {G : GG} {ds : LD} {e a b : Expr} {es : List Expr} {d da db : D} {dl : List D} {pos p : Pos}
theorem XE.to (h : XE X G ds e d) (q : d = da) : XE X G ds e da := q ▸ h
theorem XT.to {c c' : Bool} (h : XT X G ds e c) (q : c = c') : XT X G ds e c' := q ▸ h
theorem XN.to {dl' : List D} (h : XN X G ds e dl) (q : dl = dl') : XN X G ds e dl' := q ▸ h
theorem XN.E (h : XN X G ds e dl) : XE X G ds e (.lst dl) := fun σ H Q l s k => h σ H Q l s fun p xs H' hp e1 h1 r => k _ _ e1 (rp_lst h1 r)
/-! ### names, constants -/
theorem x_var (i : Nat) {x : Str} (h : ds[i]? = some (some d)) (hN : X.N[i]? = some x) (hv : Vis X.env.scope x) (hd : (x == ("__debug__" : Str)) = false := by decide) (hcd : (x == ("__classdict__" : Str)) = false := by decide) : XE X G ds (.Name x pos) d := by
  intro σ H Q l s k
  obtain ⟨v, h1, r⟩ := l.2 i d h
  exact ewp (pe_var hN hv hd hcd) ⟨v, h1, k v H (Same.refl H) r⟩
theorem x_int {i j} : XE X G ds (.Constant (.int i) j pos) (.int i) := fun σ H Q l s k => ewp pe_int (k _ H (Same.refl H) rp_int)
theorem x_bl {i j} : XE X G ds (.Constant (.bool i) j pos) (.bl i) := fun σ H Q l s k => ewp pe_bl (k _ H (Same.refl H) rp_bl)
theorem x_non {j} : XE X G ds (.Constant .none j pos) .non := fun σ H Q l s k => ewp pe_non (k _ H (Same.refl H) rp_non)
theorem x_str {i j} : XE X G ds (.Constant (.str i) j pos) (.str i) := fun σ H Q l s k => ewp pe_str (k _ H (Same.refl H) (by rw [Rp]))
theorem x_glob {x : Str} {v : V} {u : Value} (hg : Gl X x) (hm : X.mg x = some u) (r : RelV v u) (hr : ∀ H, Rp H d v) (hd : (x == ("__debug__" : Str)) = false := by decide) : XE X G ds (.Name x pos) d :=
  fun σ H Q l s k => ewp (pe_glob hg hm r hd) (k _ H (Same.refl H) (hr H))
theorem x_bltn {x : Str} {v : V} {u : Value} (hg : Gl X x) (hm : X.mg x = none) (hv : bootBuiltins x = some u) (r : RelV v u) (hn : x ≠ "__name__" := by decide) (hd : (x == ("__debug__" : Str)) = false := by decide) : XE X G ds (.Name x pos) (.val v) :=
  fun σ H Q l s k => ewp (pe_bltn hg hm hv r hn hd) (k _ H (Same.refl H) rp_val)
/-! ### operators -/
theorem x_op {op : Operator} {r : R2} (ho : OpR X (binaryOp op) r) (ha : XE X G ds a da) (hb : XE X G ds b db)
    (hr : ∀ x y H Q, Sat X.prog X.w G H → Rp H da x → Rp H db y → (∀ v H', Ex H H' → Rp H' d v → Q v H') → r x y H Q) : XE X G ds (.BinOp a op b pos) d := by
  intro σ H Q l s k
  refine ewp (pe_op ho peS peS) ?_
  refine ha σ H _ l s fun x H1 e1 rx => ?_
  refine hb σ H1 _ (l.ex e1) (s.ex e1) fun y H2 e2 ry => ?_
  exact hr x y H2 Q (s.ex (e1.trans e2)) (rx.ex e2) ry fun v H' e3 rv => k v H' ((e1.trans e2).trans e3) rv
theorem x_un {op : UnaryOp} {r : V → Hp → VK → Prop} (ho : UnR X (unaryOp op) r) (ha : XE X G ds a da)
    (hr : ∀ x H Q, Rp H da x → (∀ v H', Ex H H' → Rp H' d v → Q v H') → r x H Q) : XE X G ds (.UnaryOp op a pos) d := by
  intro σ H Q l s k
  refine ewp (pe_un ho peS) ?_
  refine ha σ H _ l s fun x H1 e1 rx => ?_
  exact hr x H1 Q rx fun v H' e3 rv => k v H' (e1.trans e3) rv
theorem rp_i {H : Hp} {i : Int} {v : V} (h : Rp H (.int i) v) : v = .int i := by rwa [Rp] at h
theorem rp_b {H : Hp} {i : Bool} {v : V} (h : Rp H (.bl i) v) : v = .bl i := by rwa [Rp] at h
theorem rp_v {H : Hp} {i v : V} (h : Rp H (.val i) v) : v = i := by rwa [Rp] at h
theorem rI0_of {g : Int → Int → V} {i j : Int} (hg : ∀ H, Rp H d (g i j)) : ∀ x y H Q, Sat X.prog X.w G H → Rp H (.int i) x → Rp H (.int j) y → (∀ v H', Ex H H' → Rp H' d v → Q v H') → rI0 g x y H Q := fun x y H Q _ rx ry k => by
  rw [rp_i rx, rp_i ry]
  exact ⟨i, j, rfl, rfl, k _ H (Same.refl H) (hg H)⟩
theorem rI_of {C : Int → Int → Prop} {g : Int → Int → V} {i j : Int} (hc : C i j) (hg : ∀ H, Rp H d (g i j)) : ∀ x y H Q, Sat X.prog X.w G H → Rp H (.int i) x → Rp H (.int j) y → (∀ v H', Ex H H' → Rp H' d v → Q v H') → rI C g x y H Q := fun x y H Q _ rx ry k => by
  rw [rp_i rx, rp_i ry]
  exact ⟨i, j, rfl, rfl, hc, k _ H (Same.refl H) (hg H)⟩
theorem x_add {i j : Int} (ha : XE X G ds a (.int i)) (hb : XE X G ds b (.int j)) : XE X G ds (.BinOp a .Add b pos) (.int (i + j)) := x_op op_add ha hb (rI0_of fun _ => rp_int)
theorem x_sub {i j : Int} (ha : XE X G ds a (.int i)) (hb : XE X G ds b (.int j)) : XE X G ds (.BinOp a .Sub b pos) (.int (i - j)) := x_op op_sub ha hb (rI0_of fun _ => rp_int)
theorem x_mul {i j : Int} (ha : XE X G ds a (.int i)) (hb : XE X G ds b (.int j)) (hc : CMul i j) : XE X G ds (.BinOp a .Mult b pos) (.int (i * j)) := x_op op_mul ha hb (rI_of hc fun _ => rp_int)
theorem x_mod {i j : Int} (ha : XE X G ds a (.int i)) (hb : XE X G ds b (.int j)) (hc : 0 < j) : XE X G ds (.BinOp a .Mod b pos) (.int (i % j)) := x_op op_mod ha hb (rI_of hc fun _ => rp_int)
theorem x_fdiv {i j : Int} (ha : XE X G ds a (.int i)) (hb : XE X G ds b (.int j)) (hc : CDiv i j) : XE X G ds (.BinOp a .FloorDiv b pos) (.int (i / j)) := x_op op_fdiv ha hb (rI_of hc fun _ => rp_int)
theorem x_pow {i j : Int} (ha : XE X G ds a (.int i)) (hb : XE X G ds b (.int j)) (hc : CPow i j) : XE X G ds (.BinOp a .Pow b pos) (.int (i ^ j.toNat)) := x_op op_pow ha hb (rI_of hc fun _ => rp_int)
theorem x_neg {i : Int} (ha : XE X G ds a (.int i)) : XE X G ds (.UnaryOp .USub a pos) (.int (-i)) := x_un un_neg ha fun x H Q rx k => by
  rw [rp_i rx]
  exact ⟨i, rfl, k _ H (Same.refl H) rp_int⟩
theorem pyAll_len : ∀ ds : List D, (pyAll ds).length = ds.length
  | [] => rfl
  | d :: ds => by rw [pyAll, List.length_cons, List.length_cons, pyAll_len ds]
/-- t + u, tuples -/
theorem x_cat {xs ys : List D} (ha : XE X G ds a (.tup xs)) (hb : XE X G ds b (.tup ys)) (hz : xs.length + ys.length ≤ 100000) : XE X G ds (.BinOp a .Add b pos) (.tup (xs ++ ys)) := x_op op_catA ha hb fun x y H Q _ rx ry k => by
  rw [Rp] at rx ry
  obtain ⟨p, us, rfl, h1, r1⟩ := rx
  obtain ⟨q, ws, rfl, h2, r2⟩ := ry
  have l1 := r1.length
  have l2 := r2.length
  refine ⟨p, q, us, ws, rfl, rfl, SqT.of h1, SqT.of h2, by rw [sizeLine_eq]; omega, fun e => ?_, fun _ e => ?_, fun _ _ c hc => ?_⟩
  · subst e
    have : xs = [] := List.eq_nil_of_length_eq_zero (by simpa using l1.symm)
    subst this
    exact k _ H (Same.refl H) (rp_tup h2 r2)
  · subst e
    have : ys = [] := List.eq_nil_of_length_eq_zero (by simpa using l2.symm)
    subst this
    rw [List.append_nil] at k
    exact k _ H (Same.refl H) (rp_tup h1 r1)
  · exact k _ _ (Ex.new hc) (rp_tup upd_same ((r1.append r2).ex (Ex.new hc)))
/-! ### comparisons -/
theorem x_cmp {op : CmpOp} {r : R2} (ho : OpR X (compareOp op) r) (ha : XE X G ds a da) (hb : XE X G ds b db) (hm : behindInMarks op b = false)
    (hr : ∀ x y H Q, Sat X.prog X.w G H → Rp H da x → Rp H db y → (∀ v H', Ex H H' → Rp H' d v → Q v H') → r x y H Q) : XE X G ds (.Compare a [op] [b] pos) d := by
  intro σ H Q l s k
  refine ewp (pe_cmpR ho peS peS hm) ?_
  refine ha σ H _ l s fun x H1 e1 rx => ?_
  refine hb σ H1 _ (l.ex e1) (s.ex e1) fun y H2 e2 ry => ?_
  exact hr x y H2 Q (s.ex (e1.trans e2)) (rx.ex e2) ry fun v H' e3 rv => k v H' ((e1.trans e2).trans e3) rv
theorem t_cmp {op : CmpOp} {r : R2} {c : Bool} (ho : OpR X (compareOp op) r) (ha : XE X G ds a da) (hb : XE X G ds b db) (hm : behindInMarks op b = false)
    (hr : ∀ x y H Q, Sat X.prog X.w G H → Rp H da x → Rp H db y → (∀ v H', Ex H H' → Rp H' (.bl c) v → Q v H') → r x y H Q) : XT X G ds (.Compare a [op] [b] pos) c := by
  intro σ H Q l s k
  refine twp (pt_cmpR ho peS peS hm) ?_
  refine ha σ H _ l s fun x H1 e1 rx => ?_
  refine hb σ H1 _ (l.ex e1) (s.ex e1) fun y H2 e2 ry => ?_
  exact hr x y H2 _ (s.ex (e1.trans e2)) (rx.ex e2) ry fun v H' e3 rv => ⟨c, rp_b rv, k H' ((e1.trans e2).trans e3)⟩
/-- data compared -/
def deq (d e : D) : Bool := PyData.eqv (py d) (py e)
def shp (d : D) : Bool := pur d && SeqAt.shaped (py d)
theorem rEqD_of (h1 : shp da = true) (h2 : shp db = true) : ∀ x y H Q, Sat X.prog X.w G H → Rp H da x → Rp H db y → (∀ v H', Ex H H' → Rp H' (.bl (deq da db)) v → Q v H') → rEqD X.K x y H Q := fun x y H Q _ rx ry k => by
  rw [shp, Bool.and_eq_true] at h1 h2
  exact ⟨py da, py db, rx.dp h1.1, ry.dp h2.1, h1.2, h2.2, k _ H (Same.refl H) rp_bl⟩
theorem rNeD_of (h1 : shp da = true) (h2 : shp db = true) : ∀ x y H Q, Sat X.prog X.w G H → Rp H da x → Rp H db y → (∀ v H', Ex H H' → Rp H' (.bl (!deq da db)) v → Q v H') → rNeD X.K x y H Q := fun x y H Q _ rx ry k => by
  rw [shp, Bool.and_eq_true] at h1 h2
  exact ⟨py da, py db, rx.dp h1.1, ry.dp h2.1, h1.2, h2.2, k _ H (Same.refl H) rp_bl⟩
theorem x_eq (hu : X.A.units + 64 < cLine) (ha : XE X G ds a da) (hb : XE X G ds b db) (h1 : shp da = true) (h2 : shp db = true) : XE X G ds (.Compare a [.Eq] [b] pos) (.bl (deq da db)) := x_cmp (op_eqD hu) ha hb (nomark _) (rEqD_of h1 h2)
theorem x_ne (hu : X.A.units + 64 < cLine) (ha : XE X G ds a da) (hb : XE X G ds b db) (h1 : shp da = true) (h2 : shp db = true) : XE X G ds (.Compare a [.NotEq] [b] pos) (.bl (!deq da db)) := x_cmp (op_neD hu) ha hb (nomark _) (rNeD_of h1 h2)
theorem t_eq (hu : X.A.units + 64 < cLine) (ha : XE X G ds a da) (hb : XE X G ds b db) (h1 : shp da = true) (h2 : shp db = true) : XT X G ds (.Compare a [.Eq] [b] pos) (deq da db) := t_cmp (op_eqD hu) ha hb (nomark _) (rEqD_of h1 h2)
theorem t_ne (hu : X.A.units + 64 < cLine) (ha : XE X G ds a da) (hb : XE X G ds b db) (h1 : shp da = true) (h2 : shp db = true) : XT X G ds (.Compare a [.NotEq] [b] pos) (!deq da db) := t_cmp (op_neD hu) ha hb (nomark _) (rNeD_of h1 h2)
theorem x_lt {i j : Int} (ha : XE X G ds a (.int i)) (hb : XE X G ds b (.int j)) : XE X G ds (.Compare a [.Lt] [b] pos) (.bl (decide (i < j))) := x_cmp op_lt ha hb (nomark _) (rI0_of fun _ => rp_bl)
theorem x_le {i j : Int} (ha : XE X G ds a (.int i)) (hb : XE X G ds b (.int j)) : XE X G ds (.Compare a [.LtE] [b] pos) (.bl (decide (i ≤ j))) := x_cmp op_le ha hb (nomark _) (rI0_of fun _ => rp_bl)
theorem x_gt {i j : Int} (ha : XE X G ds a (.int i)) (hb : XE X G ds b (.int j)) : XE X G ds (.Compare a [.Gt] [b] pos) (.bl (decide (j < i))) := x_cmp op_gt ha hb (nomark _) (rI0_of fun _ => rp_bl)
theorem x_ge {i j : Int} (ha : XE X G ds a (.int i)) (hb : XE X G ds b (.int j)) : XE X G ds (.Compare a [.GtE] [b] pos) (.bl (decide (j ≤ i))) := x_cmp op_ge ha hb (nomark _) (rI0_of fun _ => rp_bl)
theorem t_lt {i j : Int} (ha : XE X G ds a (.int i)) (hb : XE X G ds b (.int j)) : XT X G ds (.Compare a [.Lt] [b] pos) (decide (i < j)) := t_cmp op_lt ha hb (nomark _) (rI0_of fun _ => rp_bl)
theorem t_le {i j : Int} (ha : XE X G ds a (.int i)) (hb : XE X G ds b (.int j)) : XT X G ds (.Compare a [.LtE] [b] pos) (decide (i ≤ j)) := t_cmp op_le ha hb (nomark _) (rI0_of fun _ => rp_bl)
theorem t_gt {i j : Int} (ha : XE X G ds a (.int i)) (hb : XE X G ds b (.int j)) : XT X G ds (.Compare a [.Gt] [b] pos) (decide (j < i)) := t_cmp op_gt ha hb (nomark _) (rI0_of fun _ => rp_bl)
theorem t_ge {i j : Int} (ha : XE X G ds a (.int i)) (hb : XE X G ds b (.int j)) : XT X G ds (.Compare a [.GtE] [b] pos) (decide (j ≤ i)) := t_cmp op_ge ha hb (nomark _) (rI0_of fun _ => rp_bl)
/-- a <= b <= c, of ints -/
theorem x_chainI {op op' : CmpOp} {f g : Int → Int → Bool} {c : Expr} {i j k : Int} (ho : OpR X (compareOp op) (rI0 fun i j => .bl (f i j))) (ho' : OpR X (compareOp op') (rI0 fun i j => .bl (g i j)))
    (ha : XE X G ds a (.int i)) (hb : XE X G ds b (.int j)) (hc : XE X G ds c (.int k)) (hm : lastMarks [op, op'] [b, c] = false := by with_unfolding_all rfl) : XE X G ds (.Compare a [op, op'] [b, c] pos) (.bl (f i j && g j k)) := by
  intro σ H Q l s kk
  refine ewp (pe_chain ho ho' peS peS peS hm) ?_
  refine ha σ H _ l s fun x H1 e1 rx => ?_
  refine hb σ H1 _ (l.ex e1) (s.ex e1) fun y H2 e2 ry => ?_
  rw [rp_i rx, rp_i ry]
  refine ⟨i, j, rfl, rfl, f i j, rfl, ?_⟩
  cases hf : f i j with
  | true =>
    rw [hf, Bool.true_and] at kk
    refine hc σ H2 _ (l.ex (e1.trans e2)) (s.ex (e1.trans e2)) fun z H3 e3 rz => ?_
    rw [rp_i rz]
    exact ⟨j, k, rfl, rfl, kk _ H3 ((e1.trans e2).trans e3) rp_bl⟩
  | false =>
    rw [hf, Bool.false_and] at kk
    exact kk _ H2 (e1.trans e2) rp_bl
theorem x_isN (ha : XE X G ds a d) (hd : ∀ v, d ≠ .val v) {j p2} : XE X G ds (.Compare a [.Is] [.Constant .none j p2] pos) (.bl (match d with | .non => true | _ => false)) := by
  intro σ H Q l s k
  refine ewp (pe_cmp (pc_isN peS)) ?_
  refine ha σ H _ l s fun x H1 e1 rx => ?_
  refine k _ H1 e1 ?_
  cases d with
  | non => rw [Rp] at rx; subst rx; exact rp_bl
  | bl b => rw [Rp] at rx; subst rx; exact rp_bl
  | int i => rw [Rp] at rx; subst rx; exact rp_bl
  | str i => rw [Rp] at rx; subst rx; exact rp_bl
  | tup i => rw [Rp] at rx; obtain ⟨_, _, rfl, _⟩ := rx; exact rp_bl
  | lst i => rw [Rp] at rx; obtain ⟨_, _, rfl, _⟩ := rx; exact rp_bl
  | val v => exact absurd rfl (hd v)
theorem x_notN (ha : XE X G ds a d) (hd : ∀ v, d ≠ .val v) {j p2} : XE X G ds (.Compare a [.IsNot] [.Constant .none j p2] pos) (.bl (match d with | .non => false | _ => true)) := by
  intro σ H Q l s k
  refine ewp (pe_cmp (pc_notN peS)) ?_
  refine ha σ H _ l s fun x H1 e1 rx => ?_
  refine k _ H1 e1 ?_
  cases d with
  | non => rw [Rp] at rx; subst rx; exact rp_bl
  | bl b => rw [Rp] at rx; subst rx; exact rp_bl
  | int i => rw [Rp] at rx; subst rx; exact rp_bl
  | str i => rw [Rp] at rx; subst rx; exact rp_bl
  | tup i => rw [Rp] at rx; obtain ⟨_, _, rfl, _⟩ := rx; exact rp_bl
  | lst i => rw [Rp] at rx; obtain ⟨_, _, rfl, _⟩ := rx; exact rp_bl
  | val v => exact absurd rfl (hd v)
/-- the value of a test by a Compare -/
theorem t_val {c : Bool} (ha : XE X G ds e (.bl c)) (he : ∀ whole, isTrue e X.env whole = (do let v ← whole; standAt e.pos; holding [v] (truthy v)) := by intro _; rfl) : XT X G ds e c := by
  intro σ H Q l s k
  refine twp (pt_val peS he) ?_
  exact ha σ H _ l s fun x H1 e1 rx => ⟨c, rp_b rx, k H1 e1⟩
/-- x in (i, j, ..), x not in; ints -/
theorem inV_ints {i : Int} {ns : List Int} : inV (.int i) (ns.map V.int) = decide (i ∈ ns) := by
  unfold inV
  induction ns with
  | nil => simp
  | cons n ns ih =>
    rw [List.map_cons, List.any_cons, ih]
    by_cases h : i = n
    · subst h
      simp [eqV]
    · have h' : (n == i) = false := by simpa using fun z => h z.symm
      simp [eqV, h, h']
theorem flat_ints : ∀ ns : List Int, (ns.map V.int).all flatV = true
  | [] => rfl
  | n :: ns => by rw [List.map_cons, List.all_cons, flat_ints ns]; rfl
theorem rp_ints {H : Hp} {ns : List Int} {v : V} (r : Rp H (.tup (ns.map .int)) v) : ∃ a, v = .ref a ∧ H a = some (.tup (ns.map V.int)) := by
  rw [Rp] at r
  obtain ⟨a, xs, rfl, h, q⟩ := r
  rw [rpAll_ints.mp q] at h
  exact ⟨a, rfl, h⟩
theorem x_inI {i : Int} {ns : List Int} (ha : XE X G ds a (.int i)) (hb : XE X G ds b (.tup (ns.map .int))) (hm : behindInMarks .In b = false := by rfl) : XE X G ds (.Compare a [.In] [b] pos) (.bl (decide (i ∈ ns))) := x_cmp op_in_seq ha hb hm fun x y H Q _ rx ry k => by
  rw [rp_i rx]
  obtain ⟨p, rfl, h⟩ := rp_ints ry
  refine ⟨p, _, rfl, .inr (SqT.of h), rfl, flat_ints ns, ?_⟩
  rw [if_neg Bool.false_ne_true, inV_ints]
  exact k _ H (Same.refl H) rp_bl
theorem t_notInD {dl : List D} (hu : X.A.units + 65 < cLine) (ha : XE X G ds a d) (hb : XE X G ds b (.lst dl)) (h1 : shp d = true) (h2 : shp (.lst dl) = true) (hm : behindInMarks .NotIn b = false := by rfl) :
    XT X G ds (.Compare a [.NotIn] [b] pos) (!dl.any fun z => deq z d) := t_cmp (op_notInD hu) ha hb hm fun x y H Q _ rx ry k => by
  rw [shp, Bool.and_eq_true] at h1 h2
  have q := ry.dp (K := X.K) h2.1
  have s2 := h2.2
  rw [py] at q s2
  refine ⟨py d, pyAll dl, rx.dp h1.1, q, h1.2, s2, ?_⟩
  have e : ∀ l : List D, ((pyAll l).any fun z => PyData.eqv z (py d)) = l.any fun z => deq z d := by
    intro l
    induction l with
    | nil => rfl
    | cons z l ih => rw [pyAll, List.any_cons, List.any_cons, ih]; rfl
  rw [e]
  exact k _ H (Same.refl H) rp_bl
theorem t_inD {dl : List D} (hu : X.A.units + 65 < cLine) (ha : XE X G ds a d) (hb : XE X G ds b (.lst dl)) (h1 : shp d = true) (h2 : shp (.lst dl) = true) (hm : behindInMarks .In b = false := by rfl) :
    XT X G ds (.Compare a [.In] [b] pos) (dl.any fun z => deq z d) := t_cmp (op_inD hu) ha hb hm fun x y H Q _ rx ry k => by
  rw [shp, Bool.and_eq_true] at h1 h2
  have q := ry.dp (K := X.K) h2.1
  have s2 := h2.2
  rw [py] at q s2
  refine ⟨py d, pyAll dl, rx.dp h1.1, q, h1.2, s2, ?_⟩
  have e : ∀ l : List D, ((pyAll l).any fun z => PyData.eqv z (py d)) = l.any fun z => deq z d := by
    intro l
    induction l with
    | nil => rfl
    | cons z l ih => rw [pyAll, List.any_cons, List.any_cons, ih]; rfl
  rw [e]
  exact k _ H (Same.refl H) rp_bl
/-! ### and, or, not, if -/
variable {c c' : Bool} {rest : List Expr}
theorem x_one {op} (h : XE X G ds a d) : XE X G ds (.BoolOp op [a] pos) d := fun σ H Q l s k => ewp (pe_one peS) (h σ H Q l s k)
theorem x_and (ha : XE X G ds a (.bl c)) (hb : c = true → XE X G ds (.BoolOp .And (b :: rest) pos) (.bl c')) : XE X G ds (.BoolOp .And (a :: b :: rest) pos) (.bl (c && c')) := by
  intro σ H Q l s k
  refine ewp (pe_and peS peS) ?_
  refine ha σ H _ l s fun x H1 e1 rx => ⟨c, rp_b rx, ?_⟩
  cases c with
  | true => exact hb rfl σ H1 Q (l.ex e1) (s.ex e1) fun v H' e2 r => k v H' (e1.trans e2) r
  | false => exact k _ H1 e1 rp_bl
theorem x_or (ha : XE X G ds a (.bl c)) (hb : c = false → XE X G ds (.BoolOp .Or (b :: rest) pos) (.bl c')) : XE X G ds (.BoolOp .Or (a :: b :: rest) pos) (.bl (c || c')) := by
  intro σ H Q l s k
  refine ewp (pe_or peS peS) ?_
  refine ha σ H _ l s fun x H1 e1 rx => ⟨c, rp_b rx, ?_⟩
  cases c with
  | false => exact hb rfl σ H1 Q (l.ex e1) (s.ex e1) fun v H' e2 r => k v H' (e1.trans e2) r
  | true => exact k _ H1 e1 rp_bl
theorem x_not (ha : XE X G ds a (.bl c)) : XE X G ds (.UnaryOp .Not a pos) (.bl (!c)) := by
  intro σ H Q l s k
  refine ewp (pe_not peS) ?_
  exact ha σ H _ l s fun x H1 e1 rx => ⟨c, rp_b rx, k _ H1 e1 rp_bl⟩
theorem x_if {t : Expr} (ht : XT X G ds t c) (ha : c = true → XE X G ds a d) (hb : c = false → XE X G ds b d) : XE X G ds (.IfExp t a b pos) d := by
  intro σ H Q l s k
  refine ewp (pe_ifExp ptS peS peS) ?_
  refine ht σ H _ l s fun H1 e1 => ?_
  cases c with
  | true => exact ha rfl σ H1 Q (l.ex e1) (s.ex e1) fun v H' e2 r => k v H' (e1.trans e2) r
  | false => exact hb rfl σ H1 Q (l.ex e1) (s.ex e1) fun v H' e2 r => k v H' (e1.trans e2) r
theorem XTw.T (h : XTw X G ds e c) : XT X G ds e c := fun σ H Q l s k => twp pwS.pt (h σ H Q l s k)
theorem t_and1 (ha : XT X G ds a c) : XTw X G ds (.BoolOp .And [a] pos) c := fun σ H Q l s k => wwp (pw_and1 ptS) (ha σ H Q l s k)
theorem t_or1 (ha : XT X G ds a c) : XTw X G ds (.BoolOp .Or [a] pos) c := fun σ H Q l s k => wwp (pw_or1 ptS) (ha σ H Q l s k)
theorem t_and (ha : XT X G ds a c) (hb : c = true → XTw X G ds (.BoolOp .And (b :: rest) pos) c') : XTw X G ds (.BoolOp .And (a :: b :: rest) pos) (c && c') := by
  intro σ H Q l s k
  refine wwp (pw_and ptS pwS) ?_
  refine ha σ H _ l s fun H1 e1 => ?_
  cases c with
  | true => exact hb rfl σ H1 Q (l.ex e1) (s.ex e1) fun H' e2 => k H' (e1.trans e2)
  | false => exact k H1 e1
theorem t_or (ha : XT X G ds a c) (hb : c = false → XTw X G ds (.BoolOp .Or (b :: rest) pos) c') : XTw X G ds (.BoolOp .Or (a :: b :: rest) pos) (c || c') := by
  intro σ H Q l s k
  refine wwp (pw_or ptS pwS) ?_
  refine ha σ H _ l s fun H1 e1 => ?_
  cases c with
  | false => exact hb rfl σ H1 Q (l.ex e1) (s.ex e1) fun H' e2 => k H' (e1.trans e2)
  | true => exact k H1 e1
theorem t_not (ha : XT X G ds a c) : XT X G ds (.UnaryOp .Not a pos) (!c) := fun σ H Q l s k => twp (pt_not ptS) (ha σ H _ l s fun H1 e1 => k H1 e1)
/-! ### arguments, displays -/
theorem xa_nil : XA X G ds [] [] := fun σ H Q l s k => awp pa_nil (k _ H (Same.refl H) .nil)
theorem xa_cons (ha : XE X G ds e d) (hr : XA X G ds es dl) (hs : starEach (e :: es) X.env = (false, eval e X.env) :: starEach es X.env := by rfl) : XA X G ds (e :: es) (d :: dl) := by
  intro σ H Q l s k
  refine awp (pa_cons peS paS hs) ?_
  refine ha σ H _ l s fun x H1 e1 rx => ?_
  refine hr σ H1 _ (l.ex e1) (s.ex e1) fun xs H2 e2 rxs => ?_
  exact k _ H2 (e1.trans e2) (.cons (rx.ex e2) rxs)
theorem x_tup {x1} (h : XA X G ds es dl) (hz : dl.length ≤ 100000) : XE X G ds (.Tuple es x1 pos) (.tup dl) := by
  intro σ H Q l s k
  refine ewp (pe_tup paS) ?_
  refine h σ H _ l s fun xs H1 e1 r => ⟨by rw [r.length, sizeLine_eq]; omega, fun p hp => ?_⟩
  exact k _ _ (e1.trans (Ex.new hp)) (rp_tup upd_same (r.ex (Ex.new hp)))
theorem xn_lst (h : XA X G ds es dl) (hz : dl.length ≤ 100000) : XN X G ds (.List es pos) dl := by
  intro σ H Q l s k
  refine ewp (pe_lst paS) ?_
  refine h σ H _ l s fun xs H1 e1 r => ⟨by rw [r.length, sizeLine_eq]; omega, fun p hp => ?_⟩
  exact k p xs _ (Same.free e1 hp) (e1.trans (Ex.new hp)) upd_same (r.ex (Ex.new hp))
/-! ### subscripts, slices -/
theorem at_rp {H : Hp} {xs : List D} {us : List V} {i : Int} (r : RpAll H xs us) (h : atI xs i = some d) : ∃ v, atI us i = some v ∧ Rp H d v := by
  have hl := r.length
  unfold atI at h ⊢
  rw [hl]
  obtain ⟨j, hj, h2⟩ := Option.bind_eq_some_iff.mp h
  rw [hj]
  obtain ⟨v, hv, q⟩ := r.get h2
  exact ⟨v, hv, q⟩
theorem x_ixT {xs : List D} {i : Int} (ha : XE X G ds a (.tup xs)) (hb : XE X G ds b (.int i)) (h : atI xs i = some d) (hs : PlainIx b := by exact fun _ _ => rfl) : XE X G ds (.Subscript a b pos) d := by
  intro σ H Q l s k
  refine ewp (pe_ix ix_tup peS peS hs) ?_
  refine ha σ H _ l s fun x H1 e1 rx => ?_
  refine hb σ H1 _ (l.ex e1) (s.ex e1) fun y H2 e2 ry => ?_
  rw [rp_i ry]
  have rx := rx.ex e2
  rw [Rp] at rx
  obtain ⟨p, us, rfl, h1, r⟩ := rx
  obtain ⟨v, hv, q⟩ := at_rp r h
  exact ⟨p, us, i, v, rfl, rfl, SqT.of h1, hv, k v H2 (e1.trans e2) q⟩
theorem x_ixL {xs : List D} {i : Int} (ha : XE X G ds a (.lst xs)) (hb : XE X G ds b (.int i)) (h : atI xs i = some d) (hs : PlainIx b := by exact fun _ _ => rfl) : XE X G ds (.Subscript a b pos) d := by
  intro σ H Q l s k
  refine ewp (pe_ix ix_list peS peS hs) ?_
  refine ha σ H _ l s fun x H1 e1 rx => ?_
  refine hb σ H1 _ (l.ex e1) (s.ex e1) fun y H2 e2 ry => ?_
  rw [rp_i ry]
  have rx := rx.ex e2
  rw [Rp] at rx
  obtain ⟨p, us, rfl, h1, r⟩ := rx
  obtain ⟨v, hv, q⟩ := at_rp r h
  exact ⟨p, us, i, v, rfl, rfl, SqL.of h1, hv, k v H2 (e1.trans e2) q⟩
def cutD {α : Type} (xs : List α) (lo hi : Option Int) : List α := (xs.drop (HT.sIx xs.length 0 lo)).take (HT.sIx xs.length xs.length hi - HT.sIx xs.length 0 lo)
theorem cutD_whole {α : Type} {xs : List α} {lo hi : Option Int} (h : HT.sIx xs.length 0 lo = 0 ∧ HT.sIx xs.length xs.length hi = xs.length) : cutD xs lo hi = xs := by
  unfold cutD
  rw [h.1, h.2, List.drop_zero, Nat.sub_zero, List.take_length]
/-- an optional part of a slice -/
structure wpO (X : Cx) (e : Option Expr) (σ : L2.St) (H : Hp) (Q : Option Int → Hp → Prop) : Prop where
  run : ∀ (pins : List (Addr × Obj)) (s : Shared), Inv X pins σ H s →
  wpAny (model X.prog X.w) X.A (evalPart e X.env) (fun u s' => ∃ o H', Inv X pins σ H' s' ∧ IsPart u o ∧ Q o H') X.xe s
theorem poS {e : Option Expr} : PO X e (wpO X e) := ⟨fun pins s σ H Q I h => h.run pins s I⟩
theorem owp {e : Option Expr} {t : TO} {σ : L2.St} {H : Hp} (h : PO X e t) {Q : Option Int → Hp → Prop} (q : t σ H Q) : wpO X e σ H Q := ⟨fun pins s I => h.run pins s σ H Q I q⟩
def XO (X : Cx) (G : GG) (ds : LD) (e : Option Expr) (o : Option Int) : Prop := ∀ (σ : L2.St) (H : Hp) (Q : Option Int → Hp → Prop), Loc σ H ds → Sat X.prog X.w G H → (∀ H', Ex H H' → Q o H') → wpO X e σ H Q
theorem xo_none : XO X G ds none none := fun σ H Q l s k => owp po_none (k H (Same.refl H))
theorem xo_some {i : Int} (h : XE X G ds e (.int i)) : XO X G ds (some e) (some i) := fun σ H Q l s k => owp (po_some peS) (h σ H _ l s fun v H' e1 r => ⟨i, rp_i r, k H' e1⟩)
theorem x_sl {xs : List D} {lo hi : Option Expr} {p2 : Pos} {o1 o2 : Option Int} (ha : XE X G ds a (.tup xs)) (hl : XO X G ds lo o1) (hu : XO X G ds hi o2) : XE X G ds (.Subscript a (.Slice lo hi none p2) pos) (.tup (cutD xs o1 o2)) := by
  intro σ H Q l s k
  refine ewp (pe_slice sl_tupA peS poS poS) ?_
  refine ha σ H _ l s fun x H1 e1 rx => ?_
  refine hl σ H1 _ (l.ex e1) (s.ex e1) fun H2 e2 => ?_
  refine hu σ H2 _ (l.ex (e1.trans e2)) (s.ex (e1.trans e2)) fun H3 e3 => ?_
  have rx := rx.ex (e2.trans e3)
  rw [Rp] at rx
  obtain ⟨q, us, rfl, h1, r⟩ := rx
  have hlen := r.length
  have e13 := (e1.trans e2).trans e3
  refine ⟨q, us, rfl, SqT.of h1, fun hw => ?_, fun _ c hc => ?_⟩
  · rw [hlen] at hw
    rw [cutD_whole hw] at k
    exact k _ H3 e13 (rp_tup h1 r)
  · refine k _ _ (e13.trans (Ex.new hc)) (rp_tup upd_same (RpAll.ex (Ex.new hc) ?_))
    unfold cutV cutD
    rw [hlen]
    exact (r.drop _).take _
/-- a slice of a list -/
theorem xn_sl {xs : List D} {lo hi : Option Expr} {p2 : Pos} {o1 o2 : Option Int} (ha : XE X G ds a (.lst xs)) (hl : XO X G ds lo o1) (hu : XO X G ds hi o2) : XN X G ds (.Subscript a (.Slice lo hi none p2) pos) (cutD xs o1 o2) := by
  intro σ H Q l s k
  refine ewp (pe_slice sl_list peS poS poS) ?_
  refine ha σ H _ l s fun x H1 e1 rx => ?_
  refine hl σ H1 _ (l.ex e1) (s.ex e1) fun H2 e2 => ?_
  refine hu σ H2 _ (l.ex (e1.trans e2)) (s.ex (e1.trans e2)) fun H3 e3 => ?_
  have rx := rx.ex (e2.trans e3)
  rw [Rp] at rx
  obtain ⟨q, us, rfl, h1, r⟩ := rx
  have hlen := r.length
  have e13 := (e1.trans e2).trans e3
  refine ⟨q, us, rfl, SqL.of h1, fun c hc => ?_⟩
  refine k _ _ _ (Same.free e13 hc) (e13.trans (Ex.new hc)) upd_same (RpAll.ex (Ex.new hc) ?_)
  unfold cutV cutD
  rw [hlen]
  exact (r.drop _).take _
/-! ### cells read -/
theorem x_cell {l : Addr} {xs : List D} (ha : XE X G ds a (.val (.ref l))) (hG : (l, Cell.lst xs) ∈ G) : XE X G ds a (.lst xs) := by
  intro σ H Q lo s k
  refine ha σ H Q lo s fun v H' e1 r => ?_
  obtain ⟨us, h1, q⟩ := (s.2 _ hG).ex e1
  refine k v H' e1 ?_
  rw [rp_v r]
  exact rp_lst h1 q
theorem lookup_put' {β : Type} (f g : Str) (y : β) (fs : List (Str × β)) : ((f, y) :: fs).lookup g = if g = f then some y else fs.lookup g := by
  by_cases h : g = f
  · subst h
    simp [List.lookup]
  · have e : (g == f) = false := by simpa using h
    rw [if_neg h]
    simp [List.lookup, e]
theorem fall_lookup {H : Hp} : ∀ {fs : List (Str × D)} {gs : List (Str × V)} {f : Str}, FAll H fs gs → fs.lookup f = some d → ∃ v, gs.lookup f = some v ∧ Rp H d v
  | [], gs, f, h, q => by cases q
  | (g, d') :: fs, gs, f, h, q => by
    obtain ⟨h1, h2⟩ := h
    rw [List.map_cons, RpAll] at h2
    obtain ⟨v, vs, e, r, rr⟩ := h2
    cases gs with
    | nil => cases e
    | cons p gs =>
      obtain ⟨g', v'⟩ := p
      simp only [List.map_cons, List.cons.injEq] at h1 e
      obtain ⟨e1, e2⟩ := h1
      obtain ⟨e3, e4⟩ := e
      subst e1 e3 e4
      rw [lookup_put'] at q ⊢
      by_cases hf : f = g'
      · rw [if_pos hf] at q ⊢
        cases q
        exact ⟨v', rfl, r⟩
      · rw [if_neg hf] at q ⊢
        exact fall_lookup (fs := fs) ⟨e2, rr⟩ q
theorem fall_none {H : Hp} : ∀ {fs : List (Str × D)} {gs : List (Str × V)} {f : Str}, FAll H fs gs → fs.lookup f = none → gs.lookup f = none
  | [], gs, f, h, q => by
    have : gs = [] := List.eq_nil_of_length_eq_zero (by simpa using congrArg List.length h.1)
    rw [this]; rfl
  | (g, d') :: fs, gs, f, h, q => by
    obtain ⟨h1, h2⟩ := h
    rw [List.map_cons, RpAll] at h2
    obtain ⟨v, vs, e, r, rr⟩ := h2
    cases gs with
    | nil => cases e
    | cons p gs =>
      obtain ⟨g', v'⟩ := p
      simp only [List.map_cons, List.cons.injEq] at h1 e
      obtain ⟨e1, e2⟩ := h1
      obtain ⟨e3, e4⟩ := e
      subst e1 e3 e4
      rw [lookup_put'] at q
      rw [lookup_put]
      by_cases hf : f = g'
      · rw [if_pos hf] at q; cases q
      · rw [if_neg hf] at q ⊢
        exact fall_none (fs := fs) ⟨e2, rr⟩ q
theorem x_fld {l C : Addr} {fs : List (Str × D)} {f : Str} (ha : XE X G ds a (.val (.ref l))) (hG : (l, Cell.ins C fs) ∈ G) (hc : Cls X.K C) (hn : NoAttr X.K C f) (hl : fs.lookup f = some d)
    (hb : attributeBase a f X.env (eval a X.env) = eval a X.env := by rfl) : XE X G ds (.Attribute a f pos) d := by
  intro σ H Q lo s k
  refine ewp (pe_fld peS hb) ?_
  refine ha σ H _ lo s fun v H' e1 r => ?_
  obtain ⟨dx, gs, h1, q⟩ := (s.2 _ hG).ex e1
  obtain ⟨u, hu, ru⟩ := fall_lookup q hl
  exact ⟨l, C, dx, gs, u, rp_v r, h1, hc, hn, hu, k u H' e1 ru⟩
/-! ### built-ins -/
theorem x_callB {id : String} {x : Str} {r : List V → Hp → VK → Prop} (hc : CallR X (.builtin id) r) (hg : Gl X x) (hm : X.mg x = none) (hv : bootBuiltins x = some (.builtin id)) (ha : XA X G ds (e :: es) dl)
    (hr : ∀ vs H Q, Sat X.prog X.w G H → RpAll H dl vs → (∀ v H', Ex H H' → Rp H' d v → Q v H') → r vs H Q) (hn : x ≠ "__name__" := by decide) (hdb : (x == ("__debug__" : Str)) = false := by decide)
    (he : starEach (e :: es) X.env = (false, eval e X.env) :: starEach es X.env := by rfl) (hpl : (backTo pos (starEach es X.env)).any (·.1) = false := by rfl) : XE X G ds (.Call (.Name x p) (e :: es) [] pos) d := by
  intro σ H Q l s k
  refine ewp (pe_callB hc hg hm hv paS hn hdb he hpl) ?_
  exact ha σ H _ l s fun vs H1 e1 rs => hr vs H1 Q (s.ex e1) rs fun v H' e2 q => k v H' (e1.trans e2) q
theorem x_callTy {T : String} {x : Str} {r : List V → Hp → VK → Prop} (hc : CallR X (.type T) r) (hg : Gl X x) (hm : X.mg x = none) (hv : bootBuiltins x = some (.type T)) (ha : XA X G ds (e :: es) dl)
    (hr : ∀ vs H Q, Sat X.prog X.w G H → RpAll H dl vs → (∀ v H', Ex H H' → Rp H' d v → Q v H') → r vs H Q) (hn : x ≠ "__name__" := by decide) (hdb : (x == ("__debug__" : Str)) = false := by decide)
    (he : starEach (e :: es) X.env = (false, eval e X.env) :: starEach es X.env := by rfl) (hpl : (backTo pos (starEach es X.env)).any (·.1) = false := by rfl) : XE X G ds (.Call (.Name x p) (e :: es) [] pos) d := by
  intro σ H Q l s k
  refine ewp (pe_callTy hc hg hm hv paS hn hdb he hpl) ?_
  exact ha σ H _ l s fun vs H1 e1 rs => hr vs H1 Q (s.ex e1) rs fun v H' e2 q => k v H' (e1.trans e2) q
theorem rpAll1 {H : Hp} {vs : List V} (r : RpAll H [d] vs) : ∃ v, vs = [v] ∧ Rp H d v := by
  rw [RpAll] at r
  obtain ⟨v, vs', rfl, h, q⟩ := r
  rw [RpAll] at q
  subst q
  exact ⟨v, rfl, h⟩
theorem rpAll2 {H : Hp} {vs : List V} (r : RpAll H [d, da] vs) : ∃ v u, vs = [v, u] ∧ Rp H d v ∧ Rp H da u := by
  rw [RpAll] at r
  obtain ⟨v, vs', rfl, h, q⟩ := r
  obtain ⟨u, rfl, h2⟩ := rpAll1 q
  exact ⟨v, u, rfl, h, h2⟩
theorem x_lenT {xs : List D} (hm : X.mg "len" = none) (ha : XE X G ds a (.tup xs)) (hg : Gl X "len" := by rfl) (he : starEach [a] X.env = (false, eval a X.env) :: starEach [] X.env := by rfl) (hpl : (backTo pos (starEach [] X.env)).any (·.1) = false := by rfl) :
    XE X G ds (.Call (.Name "len" p) [a] [] pos) (.int (xs.length : Int)) := x_callB call_len_seq hg hm PySem.boot_len (xa_cons ha xa_nil he) (fun vs H Q _ r k => by
  obtain ⟨v, rfl, q⟩ := rpAll1 r
  rw [Rp] at q
  obtain ⟨t, us, rfl, h1, rr⟩ := q
  refine ⟨t, us, rfl, .inr (SqT.of h1), ?_⟩
  rw [rr.length]
  exact k _ H (Same.refl H) rp_int) (by decide) (by decide) he hpl
theorem x_lenL {xs : List D} (hm : X.mg "len" = none) (ha : XE X G ds a (.lst xs)) (hg : Gl X "len" := by rfl) (he : starEach [a] X.env = (false, eval a X.env) :: starEach [] X.env := by rfl) (hpl : (backTo pos (starEach [] X.env)).any (·.1) = false := by rfl) :
    XE X G ds (.Call (.Name "len" p) [a] [] pos) (.int (xs.length : Int)) := x_callB call_len_seq hg hm PySem.boot_len (xa_cons ha xa_nil he) (fun vs H Q _ r k => by
  obtain ⟨v, rfl, q⟩ := rpAll1 r
  rw [Rp] at q
  obtain ⟨t, us, rfl, h1, rr⟩ := q
  refine ⟨t, us, rfl, .inl (SqL.of h1), ?_⟩
  rw [rr.length]
  exact k _ H (Same.refl H) rp_int) (by decide) (by decide) he hpl
def tyN : D → Option String
  | .non => some "NoneType" | .bl _ => some "bool" | .int _ => some "int" | .str _ => some "str" | .tup _ => some "tuple" | .lst _ => some "list" | .val _ => none
theorem tyN_is {K : PySem.W.Frag} {H : Hp} {v : V} {t : String} (r : Rp H d v) (h : tyN d = some t) : TyX K H v (.type t) := by
  cases d with
  | non => rw [Rp] at r; subst r; cases h; exact .base .non
  | bl b => rw [Rp] at r; subst r; cases h; exact .base (.bl b)
  | int i => rw [Rp] at r; subst r; cases h; exact .base (.int i)
  | str i => rw [Rp] at r; subst r; cases h; exact .base (.str i)
  | tup i => rw [Rp] at r; obtain ⟨_, _, rfl, h1, _⟩ := r; cases h; exact .base (.tup h1)
  | lst i => rw [Rp] at r; obtain ⟨_, _, rfl, h1, _⟩ := r; cases h; exact .base (.lst h1)
  | val v => cases h
theorem boot_isi : bootBuiltins "isinstance" = some (.builtin "isinstance") := by decide +kernel
/-- isinstance(x, T) -/
theorem x_isi {t T : String} (hm : X.mg "isinstance" = none) (ha : XE X G ds a d) (hb : XE X G ds b (.val (.ty T))) (ht : tyN d = some t) (hk : kitB t T = some c) (hg : Gl X "isinstance" := by rfl)
    (he : starEach [a, b] X.env = (false, eval a X.env) :: starEach [b] X.env := by rfl) (hs2 : starEach [b] X.env = (false, eval b X.env) :: starEach [] X.env := by rfl) (hpl : (backTo pos (starEach [b] X.env)).any (·.1) = false := by rfl) :
    XE X G ds (.Call (.Name "isinstance" p) [a, b] [] pos) (.bl c) := x_callB call_isi hg hm boot_isi (xa_cons ha (xa_cons hb xa_nil hs2) he) (fun vs H Q _ r k => by
  obtain ⟨v, u, rfl, q, q2⟩ := rpAll2 r
  refine ⟨v, u, .type t, .type T, c, rfl, ?_, tyN_is q ht, kit_ty hk, k _ H (Same.refl H) rp_bl⟩
  rw [rp_v q2]
  exact .ty T) (by decide) (by decide) he hpl
theorem boot_all : bootBuiltins "all" = some (.builtin "all") := by decide +kernel
theorem x_all {bs : List Bool} (hm : X.mg "all" = none) (ha : XE X G ds a (.lst (bs.map .bl))) (hca : X.calm = true := by rfl) (hg : Gl X "all" := by rfl) (he : starEach [a] X.env = (false, eval a X.env) :: starEach [] X.env := by rfl) (hpl : (backTo pos (starEach [] X.env)).any (·.1) = false := by rfl) :
    XE X G ds (.Call (.Name "all" p) [a] [] pos) (.bl (bs.all id)) := x_callB (cr_all hca) hg hm boot_all (xa_cons ha xa_nil he) (fun vs H Q _ r k => by
  obtain ⟨v, rfl, q⟩ := rpAll1 r
  rw [Rp] at q
  obtain ⟨t, us, rfl, h1, rr⟩ := q
  rw [rpAll_bls.mp rr] at h1
  exact ⟨t, bs, rfl, SqL.of h1, k _ H (Same.refl H) rp_bl⟩) (by decide) (by decide) he hpl
theorem x_sum {ns : List Int} (hm : X.mg "sum" = none) (hv : bootBuiltins "sum" = some (.builtin "sum")) (ha : XE X G ds a (.lst (ns.map .int))) (hca : X.calm = true := by rfl) (hg : Gl X "sum" := by rfl) (he : starEach [a] X.env = (false, eval a X.env) :: starEach [] X.env := by rfl) (hpl : (backTo pos (starEach [] X.env)).any (·.1) = false := by rfl) :
    XE X G ds (.Call (.Name "sum" p) [a] [] pos) (.int ns.sum) := x_callB (cr_sum hca) hg hm hv (xa_cons ha xa_nil he) (fun vs H Q _ r k => by
  obtain ⟨v, rfl, q⟩ := rpAll1 r
  rw [Rp] at q
  obtain ⟨t, us, rfl, h1, rr⟩ := q
  rw [rpAll_ints.mp rr] at h1
  exact ⟨t, ns, rfl, SqL.of h1, k _ H (Same.refl H) rp_int⟩) (by decide) (by decide) he hpl
/-- tuple(a list) -/
theorem x_tupleOf {xs : List D} (hm : X.mg "tuple" = none) (hv : bootBuiltins "tuple" = some (.type "tuple")) (ha : XE X G ds a (.lst xs)) (hg : Gl X "tuple" := by rfl) (he : starEach [a] X.env = (false, eval a X.env) :: starEach [] X.env := by rfl) (hpl : (backTo pos (starEach [] X.env)).any (·.1) = false := by rfl) :
    XE X G ds (.Call (.Name "tuple" p) [a] [] pos) (.tup xs) := x_callTy call_tuple_of hg hm hv (xa_cons ha xa_nil he) (fun vs H Q _ r k => by
  obtain ⟨v, rfl, q⟩ := rpAll1 r
  rw [Rp] at q
  obtain ⟨t, us, rfl, h1, rr⟩ := q
  exact ⟨t, us, rfl, .inl ⟨SqL.of h1, fun l hl => k _ _ (Ex.new hl) (rp_tup upd_same (rr.ex (Ex.new hl)))⟩⟩) (by decide) (by decide) he hpl
/-! ### own defs -/
/-- part of the cells -/
structure Sub (G' G : GG) : Prop where
  nd : (G.map (·.1)).Nodup → (G'.map (·.1)).Nodup
  mem : ∀ p ∈ G', p ∈ G
theorem sub_nil : Sub [] G := ⟨fun _ => List.nodup_nil, fun _ h => nomatch h⟩
theorem sub_one {c : Addr × Cell} (h : c ∈ G) : Sub [c] G := ⟨fun _ => by simp, fun p hp => by rw [List.mem_singleton] at hp; subst hp; exact h⟩
theorem sub_refl : Sub G G := ⟨id, fun _ => id⟩
theorem Sat.part {P : Program} {w : World} {G' : GG} {H : Hp} (s : Sat P w G H) (h : Sub G' G) : Sat P w G' H := s.sub (h.nd s.1) h.mem
/-- a promise of a def that changes nothing: from Γ's cells and data to data -/
def spP (P : Program) (w : World) (F : GG → List D → D → Prop) : Sp := fun vs H Q _ => ∃ G ds d, RpAll H ds vs ∧ Sat P w G H ∧ F G ds d ∧ ∀ v H', Ex H H' → Rp H' d v → Q v H'
/-- .. to a new list -/
def spN (P : Program) (w : World) (F : GG → List D → List D → Prop) : Sp := fun vs H Q _ => ∃ G ds dl, RpAll H ds vs ∧ Sat P w G H ∧ F G ds dl ∧ ∀ p xs H', H p = none → Ex H H' → H' p = some (.lst xs) → RpAll H' dl xs → Q (.ref p) H'
/-- a def of the module, known by its promise -/
structure Fn0 (P : Program) (w : World) (K : PySem.W.Frag) (mg : Str → Option Value) (base : Heap) (k : Nat) (x : Str) (ps : List Str) (sp : Sp) : Prop where
  ex : ∃ f fd, FnOk P w K mg base CX0 k f fd ps sp ∧ mg x = some (.ref f) ∧ PySem.W.keepIn K (.ref f) = true ∧ Binds K fd ps []
/-- a method of the class at C -/
structure Me0 (P : Program) (w : World) (K : PySem.W.Frag) (mg : Str → Option Value) (base : Heap) (C : Addr) (k : Nat) (m : Str) (ps : List Str) (sp : Sp) : Prop where
  ex : ∃ f fd, FnOk P w K mg base CX0 k f fd ps sp ∧ Meth K C m f ∧ Binds K fd ps []
theorem e_call {k : Nat} {x : Str} {ps : List Str} {sp : Sp} (F : Fn0 X.prog X.w X.K X.mg X.base k x ps sp) (hr : Room k X.A) (hg : Gl X x) (hd : (x == ("__debug__" : Str)) = false := by decide)
    (he : starEach (e :: es) X.env = (false, eval e X.env) :: starEach es X.env := by rfl) (hpl : (backTo pos (starEach es X.env)).any (·.1) = false := by rfl) : ∃ t, PE X (.Call (.Name x p) (e :: es) [] pos) t ∧
      ∀ σ H Q, wpA X (e :: es) σ H (fun vs H1 => sp vs H1 Q E0) → t σ H Q := by
  obtain ⟨f, fd, h, hm, hk, hb⟩ := F.ex
  refine ⟨_, pe_call h hr hg hm hk hb .nil pass0 paS hd he hpl, fun σ H Q q => ?_⟩
  show wpA X (e :: es) σ H (fun vs H1 => sp (vs ++ []) H1 Q E0)
  simpa only [List.append_nil] using q
theorem x_call {k : Nat} {x : Str} {ps : List Str} {Fs : GG → List D → D → Prop} {G' : GG} (F : Fn0 X.prog X.w X.K X.mg X.base k x ps (spP X.prog X.w Fs)) (hr : Room k X.A) (hg : Gl X x) (ha : XA X G ds (e :: es) dl) (hF : Fs G' dl d) (hG : Sub G' G)
    (hd : (x == ("__debug__" : Str)) = false := by decide) (he : starEach (e :: es) X.env = (false, eval e X.env) :: starEach es X.env := by rfl) (hpl : (backTo pos (starEach es X.env)).any (·.1) = false := by rfl) : XE X G ds (.Call (.Name x p) (e :: es) [] pos) d := by
  intro σ H Q l s k
  obtain ⟨t, h, q⟩ := e_call (p := p) (pos := pos) F hr hg hd he hpl
  refine ewp h (q σ H Q ?_)
  exact ha σ H _ l s fun vs H1 e1 rs => ⟨G', dl, d, rs, (s.ex e1).part hG, hF, fun v H' e2 r => k v H' (e1.trans e2) r⟩
theorem xn_call {k : Nat} {x : Str} {ps : List Str} {Fs : GG → List D → List D → Prop} {G' : GG} {rl : List D} (F : Fn0 X.prog X.w X.K X.mg X.base k x ps (spN X.prog X.w Fs)) (hr : Room k X.A) (hg : Gl X x) (ha : XA X G ds (e :: es) dl) (hF : Fs G' dl rl) (hG : Sub G' G)
    (hd : (x == ("__debug__" : Str)) = false := by decide) (he : starEach (e :: es) X.env = (false, eval e X.env) :: starEach es X.env := by rfl) (hpl : (backTo pos (starEach es X.env)).any (·.1) = false := by rfl) : XN X G ds (.Call (.Name x p) (e :: es) [] pos) rl := by
  intro σ H Q l s k
  obtain ⟨t, h, q⟩ := e_call (p := p) (pos := pos) F hr hg hd he hpl
  refine ewp h (q σ H Q ?_)
  exact ha σ H _ l s fun vs H1 e1 rs => ⟨G', dl, rl, rs, (s.ex e1).part hG, hF, fun a xs H' n e2 h1 r => k a xs H' (Same.free e1 n) (e1.trans e2) h1 r⟩
end
end RS
end TxtL2

section TxtL3
set_option Elab.async false
set_option linter.all false
set_option maxRecDepth 100000
set_option maxHeartbeats 1000000
/-! targets, what is walked, comprehensions, methods -/
namespace RS
open PySem PySem.Spec PyProof.Rows L2
theorem wipe_get {σ : L2.St} {j : Nat} : ∀ {vs : List Nat}, (wipe σ vs)[j]? = if j ∈ vs then (σ[j]?).map (fun _ => none) else σ[j]?
  | [] => by simp [wipe]
  | v :: vs => by
    unfold wipe
    by_cases e : v = j
    · subst e
      rw [if_pos List.mem_cons_self]
      by_cases h : v < σ.length
      · rw [List.getElem?_set_self (by rw [wipe_length]; exact h), List.getElem?_eq_getElem h]; rfl
      · rw [List.getElem?_eq_none (by rw [List.length_set, wipe_length]; omega), List.getElem?_eq_none (by omega)]; rfl
    · rw [List.getElem?_set_ne e, wipe_get]
      have : (j ∈ v :: vs) = (j ∈ vs) := by
        simp only [List.mem_cons, eq_iff_iff]
        exact ⟨fun h => h.elim (fun z => absurd z.symm e) id, Or.inr⟩
      simp only [this]
theorem wipe_same {σ σ' : L2.St} {vs : List Nat} (hl : σ'.length = σ.length) (h : ∀ j, j ∉ vs → σ'[j]? = (wipe σ vs)[j]?) : wipe σ' vs = wipe σ vs := by
  refine List.ext_getElem? fun j => ?_
  by_cases hj : j ∈ vs
  · rw [wipe_get, wipe_get, if_pos hj, if_pos hj]
    by_cases h2 : j < σ.length
    · rw [List.getElem?_eq_getElem h2, List.getElem?_eq_getElem (by omega)]; rfl
    · rw [List.getElem?_eq_none (by omega), List.getElem?_eq_none (by omega)]
  · rw [wipe_get, if_neg hj]
    exact h j hj
def wipeD (ds : LD) : List Nat → LD
  | [] => ds
  | v :: vs => (wipeD ds vs).set v none
theorem Loc.wipe {σ : L2.St} {H : Hp} {ds : LD} (l : Loc σ H ds) : ∀ vs : List Nat, Loc (L2.wipe σ vs) H (wipeD ds vs)
  | [] => l
  | v :: vs => (Loc.wipe l vs).unset
/-! ### targets -/
structure wpG (X : Cx) (tg : Expr) (v : V) (σ : L2.St) (H : Hp) (Q : L2.St → Hp → Prop) : Prop where
  run : ∀ (pins : List (Addr × Obj)) (s : Shared) (u : Value), Inv X pins σ H s → RelV v u →
  wpAny (model X.prog X.w) X.A (assign tg X.env u) (fun _ s' => ∃ σ' H', Inv X pins σ' H' s' ∧ Q σ' H') X.xe s
theorem pgS {X : Cx} {tg : Expr} : PG X tg (wpG X tg) := ⟨fun pins s σ H v u Q I r h => h.run pins s u I r⟩
theorem gwp {X : Cx} {tg : Expr} {g : TG} (h : PG X tg g) {v : V} {σ : L2.St} {H : Hp} {Q : L2.St → Hp → Prop} (q : g v σ H Q) : wpG X tg v σ H Q := ⟨fun pins s u I r => h.run pins s σ H v u Q I r q⟩
structure wpGs (X : Cx) (ts : List Expr) (vs : List V) (σ : L2.St) (H : Hp) (Q : L2.St → Hp → Prop) : Prop where
  run : ∀ (pins : List (Addr × Obj)) (s : Shared) (us : List Value), Inv X pins σ H s → Vals vs us →
  wpAny (model X.prog X.w) X.A (assignInOrder ((assignEach ts X.env).map (·.2)) us) (fun _ s' => ∃ σ' H', Inv X pins σ' H' s' ∧ Q σ' H') X.xe s
theorem pgsS {X : Cx} {ts : List Expr} : PGs X ts (wpGs X ts) := ⟨fun pins s σ H v u Q I r h => h.run pins s u I r⟩
theorem gswp {X : Cx} {ts : List Expr} {g : TGs} (h : PGs X ts g) {vs : List V} {σ : L2.St} {H : Hp} {Q : L2.St → Hp → Prop} (q : g vs σ H Q) : wpGs X ts vs σ H Q := ⟨fun pins s u I r => h.run pins s σ H vs u Q I r q⟩
/-- tg takes d: ds becomes ds', the slots outside ix are as they were -/
def XG (X : Cx) (tg : Expr) (d : D) (ds ds' : LD) (ix : List Nat) : Prop := ∀ (σ : L2.St) (H : Hp) (v : V) (Q : L2.St → Hp → Prop), Loc σ H ds → Rp H d v → (∀ σ', Loc σ' H ds' → σ'.length = σ.length → (∀ j, j ∉ ix → σ'[j]? = σ[j]?) → Q σ' H) → wpG X tg v σ H Q
def XGs (X : Cx) (ts : List Expr) (dl : List D) (ds ds' : LD) (ix : List Nat) : Prop := ∀ (σ : L2.St) (H : Hp) (vs : List V) (Q : L2.St → Hp → Prop), Loc σ H ds → RpAll H dl vs → (∀ σ', Loc σ' H ds' → σ'.length = σ.length → (∀ j, j ∉ ix → σ'[j]? = σ[j]?) → Q σ' H) → wpGs X ts vs σ H Q
section
variable {X : Cx} {ds ds' ds1 : LD} {d : D} {dl : List D} {ix ix' : List Nat} {pos : Pos}
theorem xg_name (i : Nat) {x : Str} (hi : X.N[i]? = some x) (hN : X.N.Nodup) (hx : L2.Loc X.env.scope x) (hf : X.fn x = true ∨ X.env.scope.names.lookup x = some .local := by first | exact .inl rfl | exact .inr rfl) : XG X (.Name x pos) d ds (ds.set i (some d)) [i] := by
  intro σ H v Q l r k
  refine gwp (pg_name hN hi hx hf) (k _ (l.set r) (by simp) fun j hj => ?_)
  have : i ≠ j := fun e => hj (by simp [e])
  exact List.getElem?_set_ne this
theorem xgs_nil : XGs X [] [] ds ds [] := fun σ H vs Q l r k => gswp pgs_nil ⟨by rwa [RpAll] at r, k σ l rfl fun _ _ => rfl⟩
theorem xgs_cons {e : Expr} {es : List Expr} (h1 : XG X e d ds ds1 ix) (h2 : XGs X es dl ds1 ds' ix')
    (hs : (assignEach (e :: es) X.env).map (·.2) = assign e X.env :: (assignEach es X.env).map (·.2) := by rfl) : XGs X (e :: es) (d :: dl) ds ds' (ix ++ ix') := by
  intro σ H vs Q l r k
  rw [RpAll] at r
  obtain ⟨v, vs', rfl, r1, r2⟩ := r
  refine gswp (pgs_cons pgS pgsS hs) ⟨v, vs', rfl, ?_⟩
  refine h1 σ H v _ l r1 fun σ1 l1 e1 o1 => ?_
  refine h2 σ1 H vs' _ l1 r2 fun σ2 l2 e2 o2 => ?_
  refine k σ2 l2 (e2.trans e1) fun j hj => ?_
  rw [List.mem_append, not_or] at hj
  rw [o2 j hj.2, o1 j hj.1]
theorem xg_tup {es : List Expr} {k : Nat} (h : XGs X es dl ds ds' ix) (hn : (assignEach es X.env).length = dl.length) (hc : X.calm = true := by rfl) (hst : (assignEach es X.env).findIdx? (·.1) = none := by rfl) : XG X (.Tuple es k pos) (.tup dl) ds ds' ix := by
  intro σ H v Q l r kk
  rw [Rp] at r
  obtain ⟨a, xs, rfl, h1, q⟩ := r
  refine gwp (pg_tup hc pgsS rfl hst) ⟨a, xs, rfl, SqT.of h1, by rw [q.length, hn], ?_⟩
  exact h σ H xs Q l q kk
end
/-! ### what is walked -/
def YD (dl : List D) : Nat → Hp → V → Hp → Prop := fun i H x H' => Ex H H' ∧ ∃ d, dl[i]? = some d ∧ Rp H' d x
structure wpI (X : Cx) (tg iter : Expr) (σ : L2.St) (H : Hp) (R : It → Hp → Prop) : Prop where
  run : ∀ (pins : List (Addr × Obj)) (s : Shared), Inv X pins σ H s →
  wpAny (model X.prog X.w) X.A (eval iter X.env) (fun v s1 => wpAny (model X.prog X.w) X.A (pyIter v) (PIE X pins σ tg R) X.xe s1) X.xe s
theorem piS {X : Cx} {tg iter : Expr} : PI X tg iter (wpI X tg iter) := ⟨fun pins s σ H R I h => h.run pins s I⟩
theorem iwp {X : Cx} {tg iter : Expr} {wi : TI} (h : PI X tg iter wi) {σ : L2.St} {H : Hp} {R : It → Hp → Prop} (q : wi σ H R) : wpI X tg iter σ H R := ⟨fun pins s I => h.run pins s σ H R I q⟩
/-- iter gives dl, one after the other; Gm tells which later heaps it goes on in -/
def XI (X : Cx) (G : GG) (ds : LD) (tg iter : Expr) (dl : List D) (Gm : Hp → Hp → Prop) : Prop := ∀ (σ : L2.St) (H : Hp) (R : It → Hp → Prop), Loc σ H ds → Sat X.prog X.w G H →
  (∀ J H1 Gd, Ex H H1 → (∀ H2, Gm H1 H2 → Gd H2) → Walk J dl.length Gd (YD dl) → R J H1) → wpI X tg iter σ H R
section
variable {X : Cx} {G : GG} {ds : LD} {tg a b : Expr} {dl el : List D} {pos p : Pos} {Gm : Hp → Hp → Prop}
theorem XI.ex (h : XI X G ds tg a dl Tu) : XI X G ds tg a dl Ex := fun σ H R l s k => h σ H R l s fun J H1 Gd e g w => k J H1 Gd e (fun H2 q => g H2 (Ex.tu q)) w
theorem wd_tup {K : PySem.W.Frag} {q : Addr} {xs : List V} : Walk (Itt K q) dl.length (fun H => H q = some (.tup xs) ∧ RpAll H dl xs) (YD dl) := by
  refine ⟨fun i H hi g => ?_, fun H g => ⟨xs, SqT.of g.1, by rw [g.2.length]; exact Nat.le_refl _⟩, fun i H x H' hi g y => ?_⟩
  · have hl := g.2.length
    exact ⟨xs, xs[i]'(by omega), SqT.of g.1, List.getElem?_eq_getElem (by omega)⟩
  · obtain ⟨e, y⟩ := y
    subst e
    obtain ⟨d, h1, h2⟩ := g.2.get' (y xs (SqT.of g.1))
    exact ⟨Same.refl _, d, h1, h2⟩
theorem xi_tup (ha : XE X G ds a (.tup dl)) (ht : tpAll dl = true) : XI X G ds tg a dl Tu := by
  intro σ H R l s k
  refine iwp (pi_tup peS) ?_
  refine ha σ H _ l s fun v H1 e1 r => ?_
  rw [Rp] at r
  obtain ⟨q, xs, rfl, h1, rr⟩ := r
  exact ⟨q, rfl, ⟨xs, SqT.of h1⟩, k _ H1 _ e1 (fun H2 t => ⟨t _ _ h1, rr.tu t ht⟩) wd_tup⟩
/-- a list, the heap only growing -/
theorem wd_lst {K : PySem.W.Frag} {q : Addr} : Walk (Itl K q) dl.length (fun H => ∃ xs, H q = some (.lst xs) ∧ RpAll H dl xs) (YD dl) := by
  refine ⟨fun i H hi g => ?_, fun H g => ?_, fun i H x H' hi g y => ?_⟩
  · obtain ⟨xs, g1, g2⟩ := g
    have hl := g2.length
    exact ⟨xs, xs[i]'(by omega), SqL.of g1, List.getElem?_eq_getElem (by omega)⟩
  · obtain ⟨xs, g1, g2⟩ := g
    exact ⟨xs, SqL.of g1, by rw [g2.length]; exact Nat.le_refl _⟩
  · obtain ⟨xs, g1, g2⟩ := g
    obtain ⟨e, y⟩ := y
    subst e
    obtain ⟨d, h1, h2⟩ := g2.get' (y xs (SqL.of g1))
    exact ⟨Same.refl _, d, h1, h2⟩
theorem xi_lst (ha : XE X G ds a (.lst dl)) : XI X G ds tg a dl Ex := by
  intro σ H R l s k
  refine iwp (pi_list peS) ?_
  refine ha σ H _ l s fun v H1 e1 r => ?_
  rw [Rp] at r
  obtain ⟨q, xs, rfl, h1, rr⟩ := r
  exact ⟨q, rfl, ⟨xs, SqL.of h1⟩, k _ H1 _ e1 (fun H2 t => ⟨xs, t _ _ h1, rr.ex t⟩) wd_lst⟩
/-- a list that is a cell -/
theorem xi_cell {q : Addr} (ha : XE X G ds a (.val (.ref q))) (hG : (q, Cell.lst dl) ∈ G) : XI X G ds tg a dl (fun _ H2 => CellAt X.prog X.w H2 q (.lst dl)) := by
  intro σ H R l s k
  refine iwp (pi_list peS) ?_
  refine ha σ H _ l s fun v H1 e1 r => ?_
  obtain ⟨xs, h1, rr⟩ := (s.2 _ hG).ex e1
  exact ⟨q, rp_v r, ⟨xs, SqL.of h1⟩, k _ H1 _ e1 (fun H2 t => t) wd_lst⟩
theorem xi_range1 {n : Int} (hm : X.mg "range" = none) (ha : XE X G ds a (.int n)) (h1 : -(2 ^ 62) ≤ n) (h2 : n < 2 ^ 62) (hg : Gl X "range" := by rfl) (hs : starEach [a] X.env = [(false, eval a X.env)] := by rfl) :
    XI X G ds tg (.Call (.Name "range" p) [a] [] pos) ((List.range n.toNat).map fun i => .int (i : Nat)) Tu := by
  intro σ H R l s k
  refine iwp (pi_range1 hg hm paS hs) ?_
  refine xa_cons ha xa_nil hs σ H _ l s fun vs H1 e1 r => ?_
  obtain ⟨v, rfl, q⟩ := rpAll1 r
  rw [rp_i q]
  refine ⟨n, rfl, h1, h2, k _ H1 _ e1 (fun H2 t => True.intro) ?_⟩
  rw [List.length_map, List.length_range]
  refine walk_range.mono (fun _ h => h) fun i H x H' hi _ y => ⟨by rw [y.1]; exact Same.refl _, .int (i : Nat), ?_, ?_⟩
  · rw [List.getElem?_map, List.getElem?_range hi]; rfl
  · rw [y.2]; show Rp H' (.int (i : Nat)) (.int (0 + (i : Nat))); rw [Int.zero_add]; exact rp_int
theorem xi_range2 {m n : Int} (hm : X.mg "range" = none) (ha : XE X G ds a (.int m)) (hb : XE X G ds b (.int n)) (h1 : -(2 ^ 62) ≤ m ∧ m < 2 ^ 62 ∧ -(2 ^ 62) ≤ n ∧ n < 2 ^ 62) (hg : Gl X "range" := by rfl)
    (hs : starEach [a, b] X.env = [(false, eval a X.env), (false, eval b X.env)] := by rfl) (hs2 : starEach [b] X.env = [(false, eval b X.env)] := by rfl) :
    XI X G ds tg (.Call (.Name "range" p) [a, b] [] pos) ((List.range (n - m).toNat).map fun i => .int (m + (i : Nat))) Tu := by
  intro σ H R l s k
  refine iwp (pi_range2 hg hm paS hs hs2) ?_
  refine xa_cons ha (xa_cons hb xa_nil hs2) (by rw [hs, hs2]) σ H _ l s fun vs H1 e1 r => ?_
  obtain ⟨v, u, rfl, q, q2⟩ := rpAll2 r
  rw [rp_i q, rp_i q2]
  refine ⟨m, n, rfl, h1, k _ H1 _ e1 (fun H2 t => True.intro) ?_⟩
  rw [List.length_map, List.length_range]
  refine walk_range.mono (fun _ h => h) fun i H x H' hi _ y => ⟨by rw [y.1]; exact Same.refl _, .int (m + (i : Nat)), ?_, ?_⟩
  · rw [List.getElem?_map, List.getElem?_range hi]; rfl
  · rw [y.2]; exact rp_int
/-- (0, x0), (1, x1), .. -/
def enD (dl : List D) : List D := dl.mapIdx fun i d => .tup [.int (i : Nat), d]
theorem enD_len : (enD dl).length = dl.length := by unfold enD; simp
theorem enD_get {i : Nat} : (enD dl)[i]? = (dl[i]?).map fun d => .tup [.int (i : Nat), d] := by unfold enD; simp
theorem yp_of {xs : List V} {i : Nat} {H H' : Hp} {x : V} (g : RpAll H dl xs) (y : YPair (fun i => some (.int (i : Nat))) (fun i => xs[i]?) i H x H') : YD (enD dl) i H x H' := by
  obtain ⟨T, u, z, e1, h1, e2, h2, h3⟩ := y
  subst e1 e2
  cases h2
  obtain ⟨d, q1, q2⟩ := g.get' h3
  refine ⟨Ex.new h1, .tup [.int (i : Nat), d], by rw [enD_get, q1]; rfl, rp_tup upd_same (.cons rp_int (.cons (q2.ex (Ex.new h1)) .nil))⟩
theorem xi_enumT {elts : List Expr} {kk : Nat} {tpos : Pos} (hm : X.mg "enumerate" = none) (ha : XE X G ds a (.tup dl)) (ht : tpAll dl = true) (hg : Gl X "enumerate" := by rfl) (hs : starEach [a] X.env = [(false, eval a X.env)] := by rfl) :
    XI X G ds (.Tuple elts kk tpos) (.Call (.Name "enumerate" p) [a] [] pos) (enD dl) Tu := by
  intro σ H R l s k
  refine iwp (pi_enumT hg hm paS hs) ?_
  refine xa_cons ha xa_nil hs σ H _ l s fun vs H1 e1 r => ?_
  obtain ⟨v, rfl, q⟩ := rpAll1 r
  rw [Rp] at q
  obtain ⟨q, xs, rfl, h1, rr⟩ := q
  have hl := rr.length
  refine ⟨q, xs, rfl, SqT.of h1, k _ H1 (fun H => H q = some (.tup xs) ∧ RpAll H dl xs) e1 (fun H2 t => ⟨t _ _ h1, rr.tu t ht⟩) ?_⟩
  have w := walk_enumT (K := X.K) (a := q) (xs := xs)
  rw [enD_len, ← hl]
  exact w.mono (fun H g => SqT.of g.1) fun i H x H' hi g y => yp_of g.2 y
theorem xi_enumC {elts : List Expr} {kk : Nat} {tpos : Pos} {q : Addr} (hm : X.mg "enumerate" = none) (ha : XE X G ds a (.val (.ref q))) (hG : (q, Cell.lst dl) ∈ G) (hg : Gl X "enumerate" := by rfl) (hs : starEach [a] X.env = [(false, eval a X.env)] := by rfl) :
    XI X G ds (.Tuple elts kk tpos) (.Call (.Name "enumerate" p) [a] [] pos) (enD dl) (fun _ H2 => CellAt X.prog X.w H2 q (.lst dl)) := by
  intro σ H R l s k
  refine iwp (pi_enum hg hm paS hs) ?_
  refine xa_cons ha xa_nil hs σ H _ l s fun vs H1 e1 r => ?_
  obtain ⟨v, rfl, rv⟩ := rpAll1 r
  obtain ⟨xs, h1, rr⟩ := (s.2 _ hG).ex e1
  refine ⟨q, xs, by rw [rp_v rv], SqL.of h1, k _ H1 (fun H => ∃ xs, H q = some (.lst xs) ∧ RpAll H dl xs) e1 (fun H2 t => t) ?_⟩
  rw [enD_len]
  refine ⟨fun i H hi g => ?_, fun H g => ?_, fun i H x H' hi g y => ?_⟩
  · obtain ⟨ys, g1, g2⟩ := g
    have hl := g2.length
    exact ⟨ys, ys[i]'(by omega), SqL.of g1, List.getElem?_eq_getElem (by omega)⟩
  · obtain ⟨ys, g1, g2⟩ := g
    exact ⟨ys, SqL.of g1, by rw [g2.length]; exact Nat.le_refl _⟩
  · obtain ⟨ys, g1, g2⟩ := g
    obtain ⟨T, z, e1, h1, e2, h3⟩ := y
    exact yp_of g2 ⟨T, .int (i : Nat), z, e1, h1, e2, rfl, h3 ys (SqL.of g1)⟩
/-- zip -/
def zipD (dl el : List D) : List D := List.zipWith (fun d e => .tup [d, e]) dl el
theorem zipD_len (h : dl.length = el.length) : (zipD dl el).length = dl.length := by unfold zipD; rw [List.length_zipWith, h, Nat.min_self]
theorem zp_of {xs ys : List V} {i : Nat} {H H' : Hp} {x : V} (g : RpAll H dl xs) (g2 : RpAll H el ys) (y : YPair (fun i => xs[i]?) (fun i => ys[i]?) i H x H') : YD (zipD dl el) i H x H' := by
  obtain ⟨T, u, z, e1, h1, e2, h2, h3⟩ := y
  subst e1 e2
  obtain ⟨d, q1, q2⟩ := g.get' h2
  obtain ⟨d', q3, q4⟩ := g2.get' h3
  refine ⟨Ex.new h1, .tup [d, d'], ?_, rp_tup upd_same (.cons (q2.ex (Ex.new h1)) (.cons (q4.ex (Ex.new h1)) .nil))⟩
  unfold zipD
  rw [List.getElem?_zipWith, q1, q3]
theorem xi_zipS {elts : List Expr} {kk j : Nat} {tpos kp cp : Pos} (hm : X.mg "zip" = none) (ha : XE X G ds a (.tup dl)) (hb : XE X G ds b (.lst el)) (hl : dl.length = el.length) (hg : Gl X "zip" := by rfl)
    (he : backTo pos (starEach [a, b] X.env) = (false, eval a X.env) :: backTo pos (starEach [b] X.env) := by rfl) (hpl : (backTo pos (starEach [a, b] X.env)).any (·.1) = false := by rfl)
    (hs : starEach [a, b] X.env = (false, eval a X.env) :: starEach [b] X.env := by rfl) (hs2 : starEach [b] X.env = (false, eval b X.env) :: starEach [] X.env := by rfl) :
    XI X G ds (.Tuple elts kk tpos) (.Call (.Name "zip" p) [a, b] [⟨some (Str.ofString "strict"), .Constant (.bool true) j cp, kp⟩] pos) (zipD dl el) Ex := by
  intro σ H R l s k
  refine iwp (pi_zipS hg hm paS he hpl) ?_
  refine xa_cons ha (xa_cons hb xa_nil hs2) hs σ H _ l s fun vs H1 e1 r => ?_
  obtain ⟨v, u, rfl, q, q2⟩ := rpAll2 r
  rw [Rp] at q
  rw [Rp] at q2
  obtain ⟨c, xs, rfl, h1, rr⟩ := q
  obtain ⟨c2, ys, rfl, h2, rr2⟩ := q2
  have l1 := rr.length
  have l2 := rr2.length
  refine ⟨c, c2, xs, ys, rfl, SqT.of h1, SqL.of h2, k _ H1 (fun H => (H c = some (.tup xs) ∧ RpAll H dl xs) ∧ H c2 = some (.lst ys) ∧ RpAll H el ys) e1 (fun H2 t => ⟨⟨t _ _ h1, rr.ex t⟩, t _ _ h2, rr2.ex t⟩) ?_⟩
  have w := walk_zipS (K := X.K) (a := c) (b := c2) (xs := xs) (ys := ys) (by omega)
  rw [zipD_len hl, ← l1]
  exact w.mono (fun H g => ⟨SqT.of g.1.1, SqL.of g.2.1⟩) fun i H x H' hi g y => zp_of g.1.2 g.2.2 y
theorem xi_zipTT {elts : List Expr} {kk : Nat} {tpos : Pos} (hm : X.mg "zip" = none) (ha : XE X G ds a (.tup dl)) (hb : XE X G ds b (.tup el)) (hl : dl.length = el.length) (hg : Gl X "zip" := by rfl)
    (hs : starEach [a, b] X.env = (false, eval a X.env) :: starEach [b] X.env := by rfl) (hs2 : starEach [b] X.env = (false, eval b X.env) :: starEach [] X.env := by rfl) (hpl : (backTo pos (starEach [b] X.env)).any (·.1) = false := by rfl) :
    XI X G ds (.Tuple elts kk tpos) (.Call (.Name "zip" p) [a, b] [] pos) (zipD dl el) Ex := by
  intro σ H R l s k
  refine iwp (RZ.pi_zipA hg hm paS hs hpl) ?_
  refine xa_cons ha (xa_cons hb xa_nil hs2) hs σ H _ l s fun vs H1 e1 r => ?_
  obtain ⟨v, u, rfl, q, q2⟩ := rpAll2 r
  rw [Rp] at q q2
  obtain ⟨c, xs, rfl, h1, rr⟩ := q
  obtain ⟨c2, ys, rfl, h2, rr2⟩ := q2
  have l1 := rr.length
  have l2 := rr2.length
  refine ⟨c, c2, xs, ys, rfl, .inr ⟨SqT.of h1, SqT.of h2, k _ H1 (fun H => (H c = some (.tup xs) ∧ RpAll H dl xs) ∧ H c2 = some (.tup ys) ∧ RpAll H el ys) e1 (fun H2 t => ⟨⟨t _ _ h1, rr.ex t⟩, t _ _ h2, rr2.ex t⟩) ?_⟩⟩
  have w := walk_zipT (K := X.K) (a := c) (b := c2) (xs := xs) (ys := ys) (by omega)
  rw [zipD_len hl, ← l1]
  exact w.mono (fun H g => ⟨SqT.of g.1.1, SqT.of g.2.1⟩) fun i H x H' hi g y => zp_of g.1.2 g.2.2 y
theorem xi_zipLL {elts : List Expr} {kk : Nat} {tpos : Pos} (hm : X.mg "zip" = none) (ha : XE X G ds a (.lst dl)) (hb : XE X G ds b (.lst el)) (hl : dl.length = el.length) (hg : Gl X "zip" := by rfl)
    (hs : starEach [a, b] X.env = (false, eval a X.env) :: starEach [b] X.env := by rfl) (hs2 : starEach [b] X.env = (false, eval b X.env) :: starEach [] X.env := by rfl) (hpl : (backTo pos (starEach [b] X.env)).any (·.1) = false := by rfl) :
    XI X G ds (.Tuple elts kk tpos) (.Call (.Name "zip" p) [a, b] [] pos) (zipD dl el) Ex := by
  intro σ H R l s k
  refine iwp (RZ.pi_zipA hg hm paS hs hpl) ?_
  refine xa_cons ha (xa_cons hb xa_nil hs2) hs σ H _ l s fun vs H1 e1 r => ?_
  obtain ⟨v, u, rfl, q, q2⟩ := rpAll2 r
  rw [Rp] at q q2
  obtain ⟨c, xs, rfl, h1, rr⟩ := q
  obtain ⟨c2, ys, rfl, h2, rr2⟩ := q2
  have l1 := rr.length
  have l2 := rr2.length
  refine ⟨c, c2, xs, ys, rfl, .inl ⟨SqL.of h1, SqL.of h2, k _ H1 (fun H => (H c = some (.lst xs) ∧ RpAll H dl xs) ∧ H c2 = some (.lst ys) ∧ RpAll H el ys) e1 (fun H2 t => ⟨⟨t _ _ h1, rr.ex t⟩, t _ _ h2, rr2.ex t⟩) ?_⟩⟩
  have w := walk_zip (K := X.K) (a := c) (b := c2) (xs := xs) (ys := ys) (n := xs.length) (by omega)
  rw [zipD_len hl, ← l1]
  exact w.mono (fun H g => ⟨SqL.of g.1.1, SqL.of g.2.1⟩) fun i H x H' hi g y => zp_of g.1.2 g.2.2 y
end
/-! ### comprehensions -/
abbrev Cx.bk (X : Cx) (scope : Scope) (s : Shared) (H : Hp) (C : Addr) (cl : List (Str × Addr)) (fp : List Addr) : Cx := X.blk s H scope (compEnvC scope cl C X.env) fp
def tBG (X : Cx) (scope : Scope) (tg : Expr) : TG := fun v σ H Q => ∀ s H' C cl fp, wpG (Cx.bk X scope s H' C cl fp) tg v σ H Q
def tBE (X : Cx) (scope : Scope) (e : Expr) : TE := fun σ H Q => ∀ s H' C cl fp, wpE (Cx.bk X scope s H' C cl fp) e σ H Q
def tBT (X : Cx) (scope : Scope) (e : Expr) : TT := fun σ H Q => ∀ s H' C cl fp, wpT (Cx.bk X scope s H' C cl fp) e σ H Q
theorem tpAll_get : ∀ {ds : List D} {i : Nat} {d : D}, tpAll ds = true → ds[i]? = some d → tp d = true
  | [], i, d, _, h => by simp at h
  | x :: ds, 0, d, t, h => by rw [tpAll, Bool.and_eq_true] at t; simp at h; subst h; exact t.1
  | x :: ds, i + 1, d, t, h => by rw [tpAll, Bool.and_eq_true] at t; exact tpAll_get t.2 (by simpa using h)
theorem tpAll_take : ∀ {ds : List D} (n : Nat), tpAll ds = true → tpAll (ds.take n) = true
  | [], n, _ => by rw [List.take_nil]; rfl
  | x :: ds, 0, t => rfl
  | x :: ds, n + 1, t => by rw [tpAll, Bool.and_eq_true] at t; rw [List.take_succ_cons, tpAll, t.1, tpAll_take n t.2]; rfl
theorem take_snoc {α : Type} {l : List α} {i : Nat} {x : α} (h : l[i]? = some x) : l.take (i + 1) = l.take i ++ [x] := by
  rw [List.take_add_one, h]; rfl
theorem upd_tu {H : Hp} {a : Addr} {xs : List V} {o : HO} (h : H a = some (.lst xs)) : Tu H (upd H a o) := fun b ys q => by
  rw [upd_ne (fun z => by subst z; rw [h] at q; cases q)]
  exact q
section
variable {X : Cx} {G : GG} {ds : LD} {tg iter elt : Expr} {dl rl : List D} {pos : Pos} {scope : Scope} {own : List (Str × Nat)}
theorem lc_turn {σ : L2.St} {H H1 : Hp} {D : Addr} {r : RS.D} {xs : List V} {i : Nat} {Pn : Hp → Prop} (hD : H1 D = none) (ht : tpAll rl = true) (hi : rl[i]? = some r) (h1 : Ex H1 H) (h2 : H D = some (.lst xs)) (h3 : RpAll H (rl.take i) xs) (hz : rl.length ≤ 100000) (hs : Sat X.prog X.w G H) {ds' : LD} (l : Loc σ H ds')
    (hE : ∀ s H C cl fp, XE (Cx.bk X scope s H C cl fp) G ds' elt r) (k : ∀ H' ys, Ex H1 H' → H' D = some (.lst ys) → RpAll H' (rl.take (i + 1)) ys → Pn H') :
    tBE X scope elt σ H fun y H4 => ∃ acc, H4 D = some (.lst acc) ∧ acc.length < sizeLine ∧ Pn (upd H4 D (.lst (acc ++ [y]))) := by
  intro s2 H2 C2 cl2 fp2
  refine hE s2 H2 C2 cl2 fp2 σ H _ l hs fun v H3 e3 r3 => ?_
  have hlx := h3.length
  rw [List.length_take] at hlx
  have hi' := (List.getElem?_eq_some_iff.mp hi).1
  have hd3 := e3 _ _ h2
  refine ⟨xs, hd3, by rw [sizeLine_eq]; omega, k _ (xs ++ [v]) (Ex.mut (Same.trans h1 e3) hD) upd_same ?_⟩
  rw [take_snoc hi]
  exact ((h3.ex e3).tu (upd_tu hd3) (tpAll_take i ht)).append (.cons (r3.tu (upd_tu hd3) (tpAll_get ht hi)) .nil)
theorem xn_lc (hN : X.N.Nodup) (hi : XI X G ds tg iter dl Ex) (ok : BlkOk X.N X.env.scope scope own) (hl : rl.length = dl.length) (hz : rl.length ≤ 100000) (ht : tpAll rl = true)
    (he : ∀ (k : Nat) d r, dl[k]? = some d → rl[k]? = some r → ∃ ds' ix, (∀ j ∈ ix, j ∈ own.map (·.2)) ∧ ∀ s H C cl fp, XG (Cx.bk X scope s H C cl fp) tg d (wipeD ds (own.map (·.2))) ds' ix ∧ XE (Cx.bk X scope s H C cl fp) G ds' elt r)
    (hc : X.calm = true := by rfl) (hs : ∀ x, foldedSetIterable iter X.env x = pure x := by intro _; rfl) : XN X G ds (.ListComp elt [⟨tg, iter, [], 0⟩] scope pos) rl := by
  intro σ H0 Q l s k
  refine ewp (pe_lc (own := own) (wi := wpI X tg iter) (g := tBG X scope tg) (tt := tYes) (te := tBE X scope elt) hc hN piS ok
    (fun s H C cl fp => ⟨fun pins s' σ H' v u Q I r h => (h s H C cl fp).run pins s' u I r⟩) (fun _ _ _ _ _ => pts_nil) (fun s H C cl fp => ⟨fun pins s' σ H' Q I h => (h s H C cl fp).run pins s' I⟩) hs) ?_
  refine hi σ H0 _ l s fun J H1 Gd e1 gd w D hD => ?_
  refine lc_it (vs := own.map (·.2)) (σ := σ) (D := D) (H1 := H1) (g := tBG X scope tg) (tt := tYes) (te := tBE X scope elt) (Qd := fun H => Q (.ref D) H) w (fun i H => ∃ xs, Ex H1 H ∧ H D = some (.lst xs) ∧ RpAll H (rl.take i) xs) ?_ ?_ ?_ ?_
  · exact ⟨[], Ex.new hD, upd_same, by rw [List.take_zero]; exact .nil⟩
  · intro i H _ h
    obtain ⟨_, h, _⟩ := h
    exact gd H h
  · intro i x H H' hi' h y
    obtain ⟨xs, h1, h2, h3⟩ := h
    obtain ⟨e2, d, hd, rd⟩ := y
    have hir : i < rl.length := by omega
    have hr : rl[i]? = some rl[i] := List.getElem?_eq_getElem hir
    obtain ⟨ds', ix, hix, hb⟩ := he i d _ hd hr
    intro s' H'' C cl fp
    have lw := ((l.ex e1).ex (h1.trans e2)).wipe (own.map (·.2))
    refine (hb s' H'' C cl fp).1 _ H' x _ lw rd fun σ' l' hl' ho => ?_
    refine ⟨wipe_same (by rw [hl', wipe_length]) fun j hj => ho j fun q => hj (hix j q), ?_⟩
    dsimp only [tYes]
    rw [if_pos rfl]
    exact lc_turn (Pn := fun H' => ∃ xs, Ex H1 H' ∧ H' D = some (HO.lst xs) ∧ RpAll H' (rl.take (i + 1)) xs) hD ht hr (h1.trans e2) (e2 _ _ h2) (h3.ex e2) hz (s.ex ((e1.trans h1).trans e2)) l' (fun s H C cl fp => (hb s H C cl fp).2) fun H' ys q1 q2 q3 => ⟨ys, q1, q2, q3⟩
  · intro H h
    obtain ⟨xs, h1, h2, h3⟩ := h
    rw [← hl, List.take_length] at h3
    exact k D xs H (Same.free e1 hD) (e1.trans h1) h2 h3
theorem lc0_read {c : Expr} {te : TE} (hi : XI X G ds tg iter dl Ex)
    (he : ∀ (k : Nat) d, dl[k]? = some d → ∃ ds' ix, (∀ j ∈ ix, j ∈ own.map (·.2)) ∧ ∀ s H C cl fp, XG (Cx.bk X scope s H C cl fp) tg d (wipeD ds (own.map (·.2))) ds' ix ∧ XT (Cx.bk X scope s H C cl fp) G ds' c false)
    {σ : L2.St} {H0 : Hp} {Q : VK} (l : Loc σ H0 ds) (s : Sat X.prog X.w G H0) (k : ∀ p xs H', H0 p = none → Ex H0 H' → H' p = some (.lst xs) → RpAll H' [] xs → Q (.ref p) H') : tLc (wpI X tg iter) (tBG X scope tg) (tBT X scope c) te (own.map (·.2)) σ H0 Q := by
  refine hi σ H0 _ l s fun J H1 Gd e1 gd w D hD => ?_
  refine lc_it (vs := own.map (·.2)) (σ := σ) (D := D) (H1 := H1) (g := tBG X scope tg) (tt := tBT X scope c) (te := te) (Qd := fun H => Q (.ref D) H) w (fun i H => Ex H1 H ∧ H D = some (.lst [])) ?_ ?_ ?_ ?_
  · exact ⟨Ex.new hD, upd_same⟩
  · intro i H _ h
    exact gd H h.1
  · intro i x H H' hi' h y
    obtain ⟨h1, h2⟩ := h
    obtain ⟨e2, d, hd, rd⟩ := y
    obtain ⟨ds', ix, hix, hb⟩ := he i d hd
    intro s' H'' C cl fp
    have lw := ((l.ex e1).ex (h1.trans e2)).wipe (own.map (·.2))
    refine (hb s' H'' C cl fp).1 _ H' x _ lw rd fun σ' l' hl' ho => ?_
    refine ⟨wipe_same (by rw [hl', wipe_length]) fun j hj => ho j fun q => hj (hix j q), ?_⟩
    intro s2 H2 C2 cl2 fp2
    refine (hb s2 H2 C2 cl2 fp2).2 σ' H' _ l' (s.ex ((e1.trans h1).trans e2)) fun H3 e3 => ?_
    rw [if_neg Bool.false_ne_true]
    exact ⟨(h1.trans e2).trans e3, e3 _ _ (e2 _ _ h2)⟩
  · intro H h
    exact k D [] H (Same.free e1 hD) (e1.trans h.1) h.2 .nil
/-- [elt for .. if c], nothing passes -/
theorem xn_lc0 {c : Expr} (hN : X.N.Nodup) (hi : XI X G ds tg iter dl Ex) (ok : BlkOk X.N X.env.scope scope own)
    (he : ∀ (k : Nat) d, dl[k]? = some d → ∃ ds' ix, (∀ j ∈ ix, j ∈ own.map (·.2)) ∧ ∀ s H C cl fp, XG (Cx.bk X scope s H C cl fp) tg d (wipeD ds (own.map (·.2))) ds' ix ∧ XT (Cx.bk X scope s H C cl fp) G ds' c false)
    (hc : X.calm = true := by rfl) (hs : ∀ x, foldedSetIterable iter X.env x = pure x := by intro _; rfl) {te : TE} (hE : ∀ s H C cl fp, PE (Cx.bk X scope s H C cl fp) elt te) : XN X G ds (.ListComp elt [⟨tg, iter, [c], 0⟩] scope pos) [] := by
  intro σ H0 Q l s k
  exact ewp (pe_lc (own := own) (wi := wpI X tg iter) (g := tBG X scope tg) (tt := tBT X scope c) (te := te) hc hN piS ok
    (fun s H C cl fp => ⟨fun pins s' σ H' v u Q I r h => (h s H C cl fp).run pins s' u I r⟩) (fun s H C cl fp => pts_one ⟨fun pins s' σ H' Q I h => (h s H C cl fp).run pins s' I⟩) hE hs) (lc0_read hi he l s k)
end
/-! ### methods -/
section
variable {X : Cx} {G G' : GG} {ds : LD} {o e : Expr} {es : List Expr} {d : D} {dl rl : List D} {pos apos : Pos} {C l : Addr} {fs : List (Str × D)} {k : Nat} {m : Str} {ps : List Str}
theorem x_meth {Fs : GG → List D → D → Prop} {pl : Sem Bool} (F : Me0 X.prog X.w X.K X.mg X.base C k m ps (spP X.prog X.w Fs)) (hr : Room k X.A) (c : Cls X.K C) (ho : XE X G ds o (.val (.ref l))) (hG : (l, Cell.ins C fs) ∈ G) (hl : fs.lookup m = none)
    (ha : XA X G ds (e :: es) dl) (hF : Fs G' (.val (.ref l) :: dl) d) (hG' : Sub G' G)
    (hst : starEach (e :: es) X.env = (false, eval e X.env) :: starEach es X.env := by rfl) (hpl : (backTo pos (starEach es X.env)).any (·.1) = false := by rfl)
    (ht : eval (.Call (.Attribute o m apos) (e :: es) [] pos) X.env = (do
      let ov ← eval o X.env
      standAt apos.atName
      let (f, first) ← holding [ov] (getMethod ov m pl)
      callWith pos f first (backTo pos (starEach (e :: es) X.env)) (backToKw pos (keywordEach [] X.env))) := by rfl) : XE X G ds (.Call (.Attribute o m apos) (e :: es) [] pos) d := by
  intro σ H Q lo s kk
  obtain ⟨f, fd, h, hm, hb⟩ := F.ex
  refine ewp (pe_meth peS c hm h hr hb .nil pass0 paS hst hpl ht) ?_
  refine ho σ H _ lo s fun v H1 e1 r => ?_
  obtain ⟨dx, gs, h1, q⟩ := (s.2 _ hG).ex e1
  refine ⟨l, dx, gs, rp_v r, h1, fall_none q hl, ?_⟩
  refine ha σ H1 _ (lo.ex e1) (s.ex e1) fun vs H2 e2 rs => ?_
  rw [List.append_nil, rp_v r]
  exact ⟨G', _, d, .cons rp_val rs, (s.ex (e1.trans e2)).part hG', hF, fun v H' e3 q => kk v H' ((e1.trans e2).trans e3) q⟩
theorem xn_meth {Fs : GG → List D → List D → Prop} {pl : Sem Bool} (F : Me0 X.prog X.w X.K X.mg X.base C k m ps (spN X.prog X.w Fs)) (hr : Room k X.A) (c : Cls X.K C) (ho : XE X G ds o (.val (.ref l))) (hG : (l, Cell.ins C fs) ∈ G) (hl : fs.lookup m = none)
    (ha : XA X G ds (e :: es) dl) (hF : Fs G' (.val (.ref l) :: dl) rl) (hG' : Sub G' G)
    (hst : starEach (e :: es) X.env = (false, eval e X.env) :: starEach es X.env := by rfl) (hpl : (backTo pos (starEach es X.env)).any (·.1) = false := by rfl)
    (ht : eval (.Call (.Attribute o m apos) (e :: es) [] pos) X.env = (do
      let ov ← eval o X.env
      standAt apos.atName
      let (f, first) ← holding [ov] (getMethod ov m pl)
      callWith pos f first (backTo pos (starEach (e :: es) X.env)) (backToKw pos (keywordEach [] X.env))) := by rfl) : XN X G ds (.Call (.Attribute o m apos) (e :: es) [] pos) rl := by
  intro σ H Q lo s kk
  obtain ⟨f, fd, h, hm, hb⟩ := F.ex
  refine ewp (pe_meth peS c hm h hr hb .nil pass0 paS hst hpl ht) ?_
  refine ho σ H _ lo s fun v H1 e1 r => ?_
  obtain ⟨dx, gs, h1, q⟩ := (s.2 _ hG).ex e1
  refine ⟨l, dx, gs, rp_v r, h1, fall_none q hl, ?_⟩
  refine ha σ H1 _ (lo.ex e1) (s.ex e1) fun vs H2 e2 rs => ?_
  rw [List.append_nil, rp_v r]
  exact ⟨G', _, rl, .cons rp_val rs, (s.ex (e1.trans e2)).part hG', hF, fun a xs H' n e3 h2 q => kk a xs H' (Same.free (e1.trans e2) n) ((e1.trans e2).trans e3) h2 q⟩
theorem x_meth0 {Fs : GG → List D → D → Prop} {pl : Sem Bool} (F : Me0 X.prog X.w X.K X.mg X.base C k m ps (spP X.prog X.w Fs)) (hr : Room k X.A) (c : Cls X.K C) (ho : XE X G ds o (.val (.ref l))) (hG : (l, Cell.ins C fs) ∈ G) (hl : fs.lookup m = none)
    (hF : Fs G' [.val (.ref l)] d) (hG' : Sub G' G)
    (ht : eval (.Call (.Attribute o m apos) [] [] pos) X.env = (do
      let ov ← eval o X.env
      standAt apos.atName
      let (f, first) ← holding [ov] (getMethod ov m pl)
      callWith pos f first (backTo pos (starEach [] X.env)) (backToKw pos (keywordEach [] X.env))) := by rfl) : XE X G ds (.Call (.Attribute o m apos) [] [] pos) d := by
  intro σ H Q lo s kk
  obtain ⟨f, fd, h, hm, hb⟩ := F.ex
  refine ewp (pe_meth0 peS c hm h hr hb .nil pass0 ht) ?_
  refine ho σ H _ lo s fun v H1 e1 r => ?_
  obtain ⟨dx, gs, h1, q⟩ := (s.2 _ hG).ex e1
  refine ⟨l, dx, gs, rp_v r, h1, fall_none q hl, ?_⟩
  obtain rfl : v = .ref l := rp_v r
  exact ⟨G', _, d, .cons rp_val .nil, (s.ex e1).part hG', hF, fun v H' e3 q => kk v H' (e1.trans e3) q⟩
theorem xn_meth0 {Fs : GG → List D → List D → Prop} {pl : Sem Bool} (F : Me0 X.prog X.w X.K X.mg X.base C k m ps (spN X.prog X.w Fs)) (hr : Room k X.A) (c : Cls X.K C) (ho : XE X G ds o (.val (.ref l))) (hG : (l, Cell.ins C fs) ∈ G) (hl : fs.lookup m = none)
    (hF : Fs G' [.val (.ref l)] rl) (hG' : Sub G' G)
    (ht : eval (.Call (.Attribute o m apos) [] [] pos) X.env = (do
      let ov ← eval o X.env
      standAt apos.atName
      let (f, first) ← holding [ov] (getMethod ov m pl)
      callWith pos f first (backTo pos (starEach [] X.env)) (backToKw pos (keywordEach [] X.env))) := by rfl) : XN X G ds (.Call (.Attribute o m apos) [] [] pos) rl := by
  intro σ H Q lo s kk
  obtain ⟨f, fd, h, hm, hb⟩ := F.ex
  refine ewp (pe_meth0 peS c hm h hr hb .nil pass0 ht) ?_
  refine ho σ H _ lo s fun v H1 e1 r => ?_
  obtain ⟨dx, gs, h1, q⟩ := (s.2 _ hG).ex e1
  refine ⟨l, dx, gs, rp_v r, h1, fall_none q hl, ?_⟩
  obtain rfl : v = .ref l := rp_v r
  exact ⟨G', _, rl, .cons rp_val .nil, (s.ex e1).part hG', hF, fun a xs H' n e3 h2 q => kk a xs H' (Same.free e1 n) (e1.trans e3) h2 q⟩
end
end RS
end TxtL3

section TxtL4
set_option Elab.async false
set_option linter.all false
set_option maxRecDepth 100000
set_option maxHeartbeats 1000000
/-! expressions that change cells -/
namespace RS
open PySem PySem.Spec PyProof.Rows L2
/-- tuples and lists are as they were -/
def TL (H H' : Hp) : Prop := (∀ b xs, H b = some (.tup xs) → H' b = some (.tup xs)) ∧ ∀ b xs, H b = some (.lst xs) → H' b = some (.lst xs)
theorem Ex.tl {H H' : Hp} (e : Ex H H') : TL H H' := ⟨fun b xs h => e b _ h, fun b xs h => e b _ h⟩
section
variable {H H' : Hp}
mutual
theorem Rp.tl (e : TL H H') : ∀ {d : D} {v : V}, Rp H d v → Rp H' d v
  | .non, _, r => r
  | .bl _, _, r => r
  | .int _, _, r => r
  | .str _, _, r => r
  | .val _, _, r => r
  | .tup ds, _, r => by
    rw [Rp] at r ⊢
    obtain ⟨a, xs, e1, h, q⟩ := r
    exact ⟨a, xs, e1, e.1 _ _ h, RpAll.tl e q⟩
  | .lst ds, _, r => by
    rw [Rp] at r ⊢
    obtain ⟨a, xs, e1, h, q⟩ := r
    exact ⟨a, xs, e1, e.2 _ _ h, RpAll.tl e q⟩
theorem RpAll.tl (e : TL H H') : ∀ {ds : List D} {vs : List V}, RpAll H ds vs → RpAll H' ds vs
  | [], _, r => r
  | d :: ds, _, r => by
    rw [RpAll] at r ⊢
    obtain ⟨v, vs, e1, h, q⟩ := r
    exact ⟨v, vs, e1, Rp.tl e h, RpAll.tl e q⟩
end
end
theorem TL.upd {H : Hp} {a : Addr} {o : HO} (h1 : ∀ xs, H a ≠ some (.tup xs)) (h2 : ∀ xs, H a ≠ some (.lst xs)) : TL H (upd H a o) :=
  ⟨fun b xs h => by rw [upd_ne (fun z => by subst z; exact h1 xs h)]; exact h, fun b xs h => by rw [upd_ne (fun z => by subst z; exact h2 xs h)]; exact h⟩
theorem TL.tu {H H' : Hp} (t : TL H H') : Tu H H' := t.1
structure At (P : Program) (w : World) (H0 : Hp) (M : List Addr) (ds : LD) (G : GG) (σ : L2.St) (H : Hp) : Prop where
  lo : Loc σ H ds
  sa : Sat P w G H
  fr : Fr M H0 H
section
variable {P : Program} {w : World} {H0 H H' : Hp} {M : List Addr} {ds : LD} {G : GG} {σ : L2.St} {p : Addr} {c c' : Cell} {o : HO} {j : Nat}
theorem At.ex (a : At P w H0 M ds G σ H) (e : Ex H H') : At P w H0 M ds G σ H' := ⟨a.lo.ex e, a.sa.ex e, a.fr.ex e⟩
theorem CellAt.tl (t : TL H H') (e : ∀ o, H p = Option.some o → H' p = Option.some o) (x : CellAt P w H p c) : CellAt P w H' p c := by
  cases c with
  | lst ds => obtain ⟨xs, h, r⟩ := x; exact ⟨xs, e _ h, r.tl t⟩
  | ins C fs => obtain ⟨dx, gs, h, r1, r2⟩ := x; exact ⟨dx, gs, e _ h, r1, r2.tl t⟩
  | dk kvs => obtain ⟨vs, h, r1, r2⟩ := x; exact ⟨vs, e _ h, r1, r2.tl t⟩
  | dn kvs => obtain ⟨vs, h, r1, r2⟩ := x; exact ⟨vs, h.keeps e t.tu, r1, r2.tl t⟩
def Cell.isLst : Cell → Bool
  | .lst _ => true
  | _ => false
theorem CellAt.nolst (x : CellAt P w H p c) (h : c.isLst = false) : ∀ xs, H p ≠ Option.some (.lst xs) := by
  intro ys
  cases c with
  | lst ds => cases h
  | ins C fs => obtain ⟨dx, gs, h, _⟩ := x; rw [h]; intro z; cases z
  | dk kvs => obtain ⟨vs, h, _⟩ := x; rw [h]; intro z; cases z
  | dn kvs => obtain ⟨vs, ⟨_, xs, h, _⟩, _⟩ := x; rw [h]; intro z; cases z
theorem fst_set {q : Cell} (h : G[j]? = some (p, c)) : (G.set j (p, q)).map (·.1) = G.map (·.1) := by
  have hj := (List.getElem?_eq_some_iff.mp h).1
  rw [List.map_set]
  have : (G.map (·.1))[j]? = Option.some p := by rw [List.getElem?_map, h]; rfl
  exact List.ext_getElem? fun k => by
    by_cases e : j = k
    · subst e
      rw [List.getElem?_set_self (by simpa using hj), this]
    · rw [List.getElem?_set_ne e]
/-- one object that is no list is changed -/
theorem Sat.setN (s : Sat P w G H) (h : G[j]? = Option.some (p, c)) (hl : c.isLst = false) (hc : TL H (upd H p o) → CellAt P w (upd H p o) p c') : Sat P w (G.set j (p, c')) (upd H p o) := by
  have t : TL H (upd H p o) := TL.upd (s.get h).notup ((s.get h).nolst hl)
  have hj := (List.getElem?_eq_some_iff.mp h).1
  refine ⟨by rw [fst_set h]; exact s.1, fun q hq => ?_⟩
  obtain ⟨k, hk⟩ := List.mem_iff_getElem?.mp hq
  by_cases e : j = k
  · subst e
    rw [List.getElem?_set_self hj] at hk
    cases hk
    exact hc t
  · rw [List.getElem?_set_ne e] at hk
    have hne : q.1 ≠ p := fun z => by
      have q1 : (G.map (·.1))[k]? = Option.some p := by rw [List.getElem?_map, hk]; exact congrArg Option.some z
      have q2 : (G.map (·.1))[j]? = Option.some p := by rw [List.getElem?_map, h]; rfl
      exact e (nd_ix s.1 q2 q1)
    exact (s.2 q (List.mem_of_getElem? hk)).tl t fun u hu => by rw [upd_ne hne]; exact hu
theorem Loc.tl (t : TL H H') (l : Loc σ H ds) : Loc σ H' ds := ⟨l.1, fun i d h => by
  obtain ⟨v, h1, r⟩ := l.2 i d h
  exact ⟨v, h1, r.tl t⟩⟩
theorem At.setN (a : At P w H0 M ds G σ H) (h : G[j]? = Option.some (p, c)) (hl : c.isLst = false) (hp : p ∈ M ∨ H0 p = none) (hc : TL H (upd H p o) → CellAt P w (upd H p o) p c') : At P w H0 M ds (G.set j (p, c')) σ (upd H p o) ∧ Tu H (upd H p o) := by
  have t : TL H (upd H p o) := TL.upd (a.sa.get h).notup ((a.sa.get h).nolst hl)
  exact ⟨⟨a.lo.tl t, a.sa.setN h hl hc, a.fr.upd hp (a.sa.get h).notup⟩, t.tu⟩
/-- a list is changed -/
theorem At.set (a : At P w H0 M ds G σ H) (h : G[j]? = Option.some (p, c)) (hg : gTp G = true) (hd : ldTp ds = true) (hp : p ∈ M ∨ H0 p = none) (hc : Tu H (upd H p o) → CellAt P w (upd H p o) p c') : At P w H0 M ds (G.set j (p, c')) σ (upd H p o) ∧ Tu H (upd H p o) := by
  have nt := (a.sa.get h).notup
  have t : Tu H (L2.upd H p o) := fun b xs q => by
    rw [upd_ne (fun z => by subst z; exact nt xs q)]
    exact q
  exact ⟨⟨a.lo.tu t hd, a.sa.set h hg hc, a.fr.upd hp nt⟩, t⟩
theorem At.new (a : At P w H0 M ds G σ H) (e : Ex H H') (hp : H p = none) (hc : CellAt P w H' p c) : At P w H0 M ds ((p, c) :: G) σ H' := ⟨a.lo.ex e, a.sa.new (o := .lst []) hp e hc, a.fr.ex e⟩
end
def XW (X : Cx) (H0 : Hp) (M : List Addr) (ds : LD) (G : GG) (e : Expr) (K : D → GG → Prop) : Prop := ∀ (σ : L2.St) (H : Hp) (Q : VK), At X.prog X.w H0 M ds G σ H →
  (∀ d G' v H', K d G' → At X.prog X.w H0 M ds G' σ H' → Tu H H' → Rp H' d v → Q v H') → wpE X e σ H Q
def XV (X : Cx) (H0 : Hp) (M : List Addr) (ds : LD) (G : GG) (e : Expr) (K : Bool → GG → Prop) : Prop := ∀ (σ : L2.St) (H : Hp) (Q : Bool → Hp → Prop), At X.prog X.w H0 M ds G σ H →
  (∀ b G' H', K b G' → At X.prog X.w H0 M ds G' σ H' → Tu H H' → Q b H') → wpT X e σ H Q
def XVw (X : Cx) (H0 : Hp) (M : List Addr) (ds : LD) (G : GG) (e : Expr) (K : Bool → GG → Prop) : Prop := ∀ (σ : L2.St) (H : Hp) (Q : Bool → Hp → Prop), At X.prog X.w H0 M ds G σ H →
  (∀ b G' H', K b G' → At X.prog X.w H0 M ds G' σ H' → Tu H H' → Q b H') → wpW X e σ H Q
def XAw (X : Cx) (H0 : Hp) (M : List Addr) (ds : LD) (G : GG) (es : List Expr) (K : List D → GG → Prop) : Prop := ∀ (σ : L2.St) (H : Hp) (Q : List V → Hp → Prop), At X.prog X.w H0 M ds G σ H →
  (∀ dl G' vs H', K dl G' → At X.prog X.w H0 M ds G' σ H' → Tu H H' → RpAll H' dl vs → Q vs H') → wpA X es σ H Q
section
variable {X : Cx} {H0 : Hp} {M : List Addr} {ds : LD} {G : GG} {e a b o : Expr} {es : List Expr} {K : D → GG → Prop} {KB : Bool → GG → Prop} {KL : List D → GG → Prop} {pos apos : Pos} {d : D}
theorem xw_e (h : XE X G ds e d) (k : K d G) : XW X H0 M ds G e K := fun σ H Q a kk => h σ H Q a.lo a.sa fun v H' e r => kk d G v H' k (a.ex e) e.tu r
theorem xw_n {dl : List D} (h : XN X G ds e dl) (k : ∀ p, H0 p = none → K (.val (.ref p)) ((p, .lst dl) :: G)) : XW X H0 M ds G e K := fun σ H Q a kk => h σ H Q a.lo a.sa fun p xs H' hp e h1 r =>
  kk _ _ _ H' (k p (a.fr.trk p hp)) (a.new e hp ⟨xs, h1, r⟩) e.tu rp_val
theorem xv_t {c : Bool} (h : XT X G ds e c) (k : KB c G) : XV X H0 M ds G e KB := fun σ H Q a kk => h σ H Q a.lo a.sa fun H' e => kk c G H' k (a.ex e) e.tu
theorem xvw_t {c : Bool} (h : XTw X G ds e c) (k : KB c G) : XVw X H0 M ds G e KB := fun σ H Q a kk => h σ H Q a.lo a.sa fun H' e => kk c G H' k (a.ex e) e.tu
theorem xaw_a {dl : List D} (h : XA X G ds es dl) (k : KL dl G) : XAw X H0 M ds G es KL := fun σ H Q a kk => h σ H Q a.lo a.sa fun vs H' e r => kk dl G vs H' k (a.ex e) e.tu r
theorem XW.imp {K' : D → GG → Prop} (h : XW X H0 M ds G e K) (hk : ∀ d G', K d G' → K' d G') : XW X H0 M ds G e K' := fun σ H Q a kk => h σ H Q a fun d G' v H' k => kk d G' v H' (hk d G' k)
theorem xaw_cons (ha : XW X H0 M ds G e fun d G1 => tp d = true ∧ XAw X H0 M ds G1 es fun dl G2 => KL (d :: dl) G2) (hs : starEach (e :: es) X.env = (false, eval e X.env) :: starEach es X.env := by rfl) : XAw X H0 M ds G (e :: es) KL := by
  intro σ H Q a kk
  refine awp (pa_cons peS paS hs) ?_
  refine ha σ H _ a fun d G1 x H1 k1 a1 t1 r1 => ?_
  refine k1.2 σ H1 _ a1 fun dl G2 vs H2 k2 a2 t2 r2 => ?_
  exact kk _ _ _ H2 k2 a2 (t1.trans t2) (.cons (r1.tu t2 k1.1) r2)
theorem xaw_nil (k : KL [] G) : XAw X H0 M ds G [] KL := xaw_a xa_nil k
/-- the effect first, the rest not changing anything -/
theorem xaw_cons1 (ha : XW X H0 M ds G e fun d G1 => ∃ dl, XA X G1 ds es dl ∧ KL (d :: dl) G1) (hs : starEach (e :: es) X.env = (false, eval e X.env) :: starEach es X.env := by rfl) : XAw X H0 M ds G (e :: es) KL := by
  intro σ H Q a kk
  refine awp (pa_cons peS paS hs) ?_
  refine ha σ H _ a fun d G1 x H1 k1 a1 t1 r1 => ?_
  obtain ⟨dl, h2, k2⟩ := k1
  refine h2 σ H1 _ a1.lo a1.sa fun vs H2 e2 r2 => ?_
  exact kk _ _ _ H2 k2 (a1.ex e2) (t1.trans e2.tu) (.cons (r1.ex e2) r2)
theorem xw_op {op : Operator} {r : R2} (ho : OpR X (binaryOp op) r) (ha : XW X H0 M ds G a fun da G1 => tp da = true ∧ XW X H0 M ds G1 b fun db G2 => ∃ d, K d G2 ∧
    ∀ x y H Q, Sat X.prog X.w G2 H → Rp H da x → Rp H db y → (∀ v H', Ex H H' → Rp H' d v → Q v H') → r x y H Q) : XW X H0 M ds G (.BinOp a op b pos) K := by
  intro σ H Q at0 kk
  refine ewp (pe_op ho peS peS) ?_
  refine ha σ H _ at0 fun da G1 x H1 k1 a1 t1 r1 => ?_
  refine k1.2 σ H1 _ a1 fun db G2 y H2 k2 a2 t2 r2 => ?_
  obtain ⟨d, kd, hr⟩ := k2
  exact hr x y H2 Q a2.sa (r1.tu t2 k1.1) r2 fun v H' e rv => kk d G2 v H' kd (a2.ex e) ((t1.trans t2).trans e.tu) rv
theorem xw_add (ha : XW X H0 M ds G a fun da G1 => ∃ i, da = .int i ∧ XW X H0 M ds G1 b fun db G2 => ∃ j, db = .int j ∧ K (.int (i + j)) G2) : XW X H0 M ds G (.BinOp a .Add b pos) K :=
  xw_op op_add (ha.imp fun da G1 h => by
    obtain ⟨i, rfl, h⟩ := h
    refine ⟨rfl, h.imp fun db G2 h2 => ?_⟩
    obtain ⟨j, rfl, k⟩ := h2
    exact ⟨_, k, rI0_of fun _ => rp_int⟩)
/-- an effect at the right of a comparison with a value: i == j -/
theorem xw_cmp {op : CmpOp} {r : R2} (ho : OpR X (compareOp op) r) (hm : behindInMarks op b = false) (ha : XW X H0 M ds G a fun da G1 => tp da = true ∧ XW X H0 M ds G1 b fun db G2 => ∃ d, K d G2 ∧
    ∀ x y H Q, Sat X.prog X.w G2 H → Rp H da x → Rp H db y → (∀ v H', Ex H H' → Rp H' d v → Q v H') → r x y H Q) : XW X H0 M ds G (.Compare a [op] [b] pos) K := by
  intro σ H Q at0 kk
  refine ewp (pe_cmpR ho peS peS hm) ?_
  refine ha σ H _ at0 fun da G1 x H1 k1 a1 t1 r1 => ?_
  refine k1.2 σ H1 _ a1 fun db G2 y H2 k2 a2 t2 r2 => ?_
  obtain ⟨d, kd, hr⟩ := k2
  exact hr x y H2 Q a2.sa (r1.tu t2 k1.1) r2 fun v H' e rv => kk d G2 v H' kd (a2.ex e) ((t1.trans t2).trans e.tu) rv
theorem xv_cmp {op : CmpOp} {r : R2} (ho : OpR X (compareOp op) r) (hm : behindInMarks op b = false) (ha : XW X H0 M ds G a fun da G1 => tp da = true ∧ XW X H0 M ds G1 b fun db G2 => ∃ c, KB c G2 ∧
    ∀ x y H Q, Sat X.prog X.w G2 H → Rp H da x → Rp H db y → (∀ v H', Ex H H' → Rp H' (.bl c) v → Q v H') → r x y H Q) : XV X H0 M ds G (.Compare a [op] [b] pos) KB := by
  intro σ H Q at0 kk
  refine twp (pt_cmpR ho peS peS hm) ?_
  refine ha σ H _ at0 fun da G1 x H1 k1 a1 t1 r1 => ?_
  refine k1.2 σ H1 _ a1 fun db G2 y H2 k2 a2 t2 r2 => ?_
  obtain ⟨c, kd, hr⟩ := k2
  exact hr x y H2 _ a2.sa (r1.tu t2 k1.1) r2 fun v H' e rv => ⟨c, rp_b rv, kk c G2 H' kd (a2.ex e) ((t1.trans t2).trans e.tu)⟩
theorem xv_val (ha : XW X H0 M ds G e fun d G1 => ∃ c, d = .bl c ∧ KB c G1) (he : ∀ whole, isTrue e X.env whole = (do let v ← whole; standAt e.pos; holding [v] (truthy v)) := by intro _; rfl) : XV X H0 M ds G e KB := by
  intro σ H Q at0 kk
  refine twp (pt_val peS he) ?_
  refine ha σ H _ at0 fun d G1 x H1 k1 a1 t1 r1 => ?_
  obtain ⟨c, rfl, k⟩ := k1
  exact ⟨c, rp_b r1, kk c G1 H1 k a1 t1⟩
theorem xv_not (ha : XV X H0 M ds G e fun c G1 => KB (!c) G1) : XV X H0 M ds G (.UnaryOp .Not e pos) KB := fun σ H Q at0 kk => twp (pt_not ptS) (ha σ H _ at0 fun c G1 H1 k1 a1 t1 => kk _ G1 H1 k1 a1 t1)
theorem XVw.V (h : XVw X H0 M ds G e KB) : XV X H0 M ds G e KB := fun σ H Q l kk => twp pwS.pt (h σ H Q l kk)
theorem xv_or1 (h : XV X H0 M ds G e KB) : XVw X H0 M ds G (.BoolOp .Or [e] pos) KB := fun σ H Q l kk => wwp (pw_or1 ptS) (h σ H Q l kk)
theorem xv_or {rest : List Expr} (ha : XV X H0 M ds G a fun c G1 => (c = true → KB true G1) ∧ (c = false → XVw X H0 M ds G1 (.BoolOp .Or (b :: rest) pos) KB)) : XVw X H0 M ds G (.BoolOp .Or (a :: b :: rest) pos) KB := by
  intro σ H Q at0 kk
  refine wwp (pw_or ptS pwS) ?_
  refine ha σ H _ at0 fun c G1 H1 k1 a1 t1 => ?_
  cases c with
  | false => exact k1.2 rfl σ H1 Q a1 fun c2 G2 H2 k2 a2 t2 => kk c2 G2 H2 k2 a2 (t1.trans t2)
  | true => exact kk true G1 H1 (k1.1 rfl) a1 t1
theorem xw_one {op} (h : XW X H0 M ds G a K) : XW X H0 M ds G (.BoolOp op [a] pos) K := fun σ H Q at0 kk => ewp (pe_one peS) (h σ H Q at0 kk)
theorem xw_and {rest : List Expr} (ha : XW X H0 M ds G a fun d G1 => ∃ c, d = .bl c ∧ (c = false → K (.bl false) G1) ∧ (c = true → XW X H0 M ds G1 (.BoolOp .And (b :: rest) pos) K)) : XW X H0 M ds G (.BoolOp .And (a :: b :: rest) pos) K := by
  intro σ H Q at0 kk
  refine ewp (pe_and peS peS) ?_
  refine ha σ H _ at0 fun d G1 x H1 k1 a1 t1 r1 => ?_
  obtain ⟨c, rfl, kf, kt⟩ := k1
  refine ⟨c, rp_b r1, ?_⟩
  cases c with
  | true => exact kt rfl σ H1 Q a1 fun d2 G2 v H2 k2 a2 t2 r2 => kk d2 G2 v H2 k2 a2 (t1.trans t2) r2
  | false => exact kk _ G1 _ H1 (kf rfl) a1 t1 rp_bl
theorem xw_tup {x1} (h : XAw X H0 M ds G es fun dl G1 => dl.length ≤ 100000 ∧ K (.tup dl) G1) : XW X H0 M ds G (.Tuple es x1 pos) K := by
  intro σ H Q at0 kk
  refine ewp (pe_tup paS) ?_
  refine h σ H _ at0 fun dl G1 xs H1 k1 a1 t1 r => ⟨by rw [r.length, sizeLine_eq]; omega, fun p hp => ?_⟩
  exact kk _ G1 _ _ k1.2 (a1.ex (Ex.new hp)) (t1.trans (Ex.new hp).tu) (rp_tup upd_same (r.ex (Ex.new hp)))
/-- a list that is a cell, its index an effect -/
theorem xw_ixC (ha : XW X H0 M ds G a fun da G1 => ∃ p, da = .val (.ref p) ∧ XW X H0 M ds G1 b fun db G2 => ∃ i xs d, db = .int i ∧ (p, Cell.lst xs) ∈ G2 ∧ atI xs i = some d ∧ K d G2) (hs : PlainIx b := by exact fun _ _ => rfl) : XW X H0 M ds G (.Subscript a b pos) K := by
  intro σ H Q at0 kk
  refine ewp (pe_ix ix_list peS peS hs) ?_
  refine ha σ H _ at0 fun da G1 x H1 k1 a1 t1 r1 => ?_
  obtain ⟨p, rfl, hb⟩ := k1
  have ex := rp_v r1
  refine hb σ H1 _ a1 fun db G2 y H2 k2 a2 t2 r2 => ?_
  obtain ⟨i, xs, d, rfl, hG, hat, kd⟩ := k2
  obtain ⟨us, h1, rr⟩ := a2.sa.2 _ hG
  obtain ⟨v, hv, q⟩ := at_rp rr hat
  exact ⟨p, us, i, v, ex, rp_i r2, SqL.of h1, hv, kk d G2 v H2 kd a2 (t1.trans t2) q⟩
/-! ### methods of lists, of dicts -/
theorem rpAll_snoc {H : Hp} {xs : List D} {us : List V} {v : V} (r : RpAll H xs us) (q : Rp H d v) : RpAll H (xs ++ [d]) (us ++ [v]) := r.append (.cons q .nil)
theorem xw_lm {m : Str} {id : String} {p : Addr} {xs0 : List D} {r : V → List V → Hp → VK → Prop} (slot : Slot "list" m id) (hty : typeOf (.builtin id) = pure (.type "method_descriptor")) (hm : MtR X id r) (ho : XE X G ds o (.val (.ref p))) (hG : (p, Cell.lst xs0) ∈ G)
    (ha : XAw X H0 M ds G (e :: es) fun dl G1 => ∀ σ H vs Q, At X.prog X.w H0 M ds G1 σ H → RpAll H dl vs → (∀ d G' v H', K d G' → At X.prog X.w H0 M ds G' σ H' → Tu H H' → Rp H' d v → Q v H') → r (.ref p) vs H Q)
    (hbase : attributeBase o m X.env (eval o X.env) = eval o X.env)
    (hfew : ((backTo pos (starEach (e :: es) X.env)).all (fun x => !x.1) && (backToKw pos (keywordEach [] X.env)).all (fun x => x.1.isSome)
      && decide ((e :: es).length + ([] : List Keyword).length + (if ([] : List Keyword).isEmpty then 0 else 1) < 30)) = true)
    (hline : (apos.endLine == pos.line) = true) (hs : starEach (e :: es) X.env = (false, eval e X.env) :: starEach es X.env) (hpl : (backTo pos (starEach es X.env)).any (·.1) = false) : XW X H0 M ds G (.Call (.Attribute o m apos) (e :: es) [] pos) K := by
  intro σ H Q at0 kk
  refine ewp (pe_bm PySem.F.plainAttrs_list slot hty hm peS paS hbase hfew hline hs hpl) ?_
  refine ho σ H _ at0.lo at0.sa fun v H1 e1 r1 => ?_
  obtain rfl : v = .ref p := rp_v r1
  obtain ⟨xs, h1, _⟩ := (at0.sa.ex e1).2 _ hG
  refine ⟨.inl ⟨rfl, xs, SqL.of h1⟩, ?_⟩
  refine ha σ H1 _ (at0.ex e1) fun dl G1 vs H2 k2 a2 t2 r2 => ?_
  exact k2 σ H2 vs Q a2 r2 fun d G' v H' k a t r => kk d G' v H' k a ((e1.tu.trans t2).trans t) r
theorem xw_append {p : Addr} {xs0 : List D} (ho : XE X G ds o (.val (.ref p))) (hG : (p, Cell.lst xs0) ∈ G) (he : XW X H0 M ds G e fun d G1 => ∃ j xs, G1[j]? = some (p, .lst xs) ∧ tp d = true ∧ xs.length < 100000 ∧ gTp G1 = true ∧ K .non (G1.set j (p, .lst (xs ++ [d]))))
    (hp : p ∈ M ∨ H0 p = none) (hd : ldTp ds = true)
    (hbase : attributeBase o "append" X.env (eval o X.env) = eval o X.env := by rfl)
    (hfew : ((backTo pos (starEach [e] X.env)).all (fun x => !x.1) && (backToKw pos (keywordEach [] X.env)).all (fun x => x.1.isSome)
      && decide (([e] : List Expr).length + ([] : List Keyword).length + (if ([] : List Keyword).isEmpty then 0 else 1) < 30)) = true := by rfl)
    (hline : (apos.endLine == pos.line) = true := by rfl) (hs : starEach [e] X.env = (false, eval e X.env) :: starEach [] X.env := by rfl) : XW X H0 M ds G (.Call (.Attribute o "append" apos) [e] [] pos) K := by
  refine xw_lm PySem.F.slot_list_append PySem.F.type_list_append mt_append ho hG (xaw_cons1 (he.imp fun d G1 h => ⟨[], xa_nil, ?_⟩) hs) hbase hfew hline hs rfl
  obtain ⟨j, xs, hj, td, hz, gt, k⟩ := h
  intro σ H vs Q a r kk
  obtain ⟨v, rfl, q⟩ := rpAll1 r
  obtain ⟨us, h1, rr⟩ := a.sa.get hj
  have hl := rr.length
  refine ⟨p, us, v, rfl, rfl, h1, by rw [sizeLine_eq]; omega, ?_⟩
  obtain ⟨a2, t2⟩ := a.set (o := .lst (us ++ [v])) (c' := .lst (xs ++ [d])) hj gt hd hp fun t => ⟨_, upd_same, rpAll_snoc (rr.tu t (List.all_eq_true.mp gt _ (List.mem_of_getElem? hj))) (q.tu t td)⟩
  exact kk _ _ _ _ k a2 t2 rp_non
theorem xw_extend {p : Addr} {xs0 : List D} (ho : XE X G ds o (.val (.ref p))) (hG : (p, Cell.lst xs0) ∈ G) (he : XW X H0 M ds G e fun d G1 => ∃ j xs q ys, d = .val (.ref q) ∧ G1[j]? = some (p, .lst xs) ∧ (q, Cell.lst ys) ∈ G1 ∧ xs.length + ys.length ≤ 100000 ∧ gTp G1 = true ∧ K .non (G1.set j (p, .lst (xs ++ ys))))
    (hp : p ∈ M ∨ H0 p = none) (hd : ldTp ds = true)
    (hbase : attributeBase o "extend" X.env (eval o X.env) = eval o X.env := by rfl)
    (hfew : ((backTo pos (starEach [e] X.env)).all (fun x => !x.1) && (backToKw pos (keywordEach [] X.env)).all (fun x => x.1.isSome)
      && decide (([e] : List Expr).length + ([] : List Keyword).length + (if ([] : List Keyword).isEmpty then 0 else 1) < 30)) = true := by rfl)
    (hline : (apos.endLine == pos.line) = true := by rfl) (hs : starEach [e] X.env = (false, eval e X.env) :: starEach [] X.env := by rfl) : XW X H0 M ds G (.Call (.Attribute o "extend" apos) [e] [] pos) K := by
  refine xw_lm PySem.F.slot_list_extend PySem.F.type_list_extend mt_extend ho hG (xaw_cons1 (he.imp fun d G1 h => ⟨[], xa_nil, ?_⟩) hs) hbase hfew hline hs rfl
  obtain ⟨j, xs, q, ys, rfl, hj, hq, hz, gt, k⟩ := h
  intro σ H vs Q a r kk
  obtain ⟨v, rfl, rv⟩ := rpAll1 r
  obtain rfl : v = .ref q := rp_v rv
  obtain ⟨us, h1, rr⟩ := a.sa.get hj
  obtain ⟨ws, h2, rr2⟩ := a.sa.2 _ hq
  have hl := rr.length
  have hl2 := rr2.length
  refine ⟨p, q, us, ws, rfl, rfl, h1, h2, by rw [sizeLine_eq]; omega, ?_⟩
  obtain ⟨a2, t2⟩ := a.set (o := .lst (us ++ ws)) (c' := .lst (xs ++ ys)) hj gt hd hp fun t => ⟨_, upd_same, (rr.tu t (List.all_eq_true.mp gt _ (List.mem_of_getElem? hj))).append (rr2.tu t (List.all_eq_true.mp gt _ hq))⟩
  exact kk _ _ _ _ k a2 t2 rp_non
theorem xw_insert {p : Addr} {xs0 : List D} {e2 : Expr} (ho : XE X G ds o (.val (.ref p))) (hG : (p, Cell.lst xs0) ∈ G) (he : XW X H0 M ds G e fun d1 G1 => ∃ d, XE X G1 ds e2 d ∧ ∃ i j xs, d1 = .int i ∧ 0 ≤ i ∧ i < 2 ^ 63 ∧ G1[j]? = some (p, .lst xs) ∧ tp d = true ∧ xs.length < 100000 ∧ gTp G1 = true ∧
      K .non (G1.set j (p, .lst (xs.take i.toNat ++ [d] ++ xs.drop i.toNat))))
    (hp : p ∈ M ∨ H0 p = none) (hd : ldTp ds = true)
    (hbase : attributeBase o "insert" X.env (eval o X.env) = eval o X.env := by rfl)
    (hfew : ((backTo pos (starEach [e, e2] X.env)).all (fun x => !x.1) && (backToKw pos (keywordEach [] X.env)).all (fun x => x.1.isSome)
      && decide (([e, e2] : List Expr).length + ([] : List Keyword).length + (if ([] : List Keyword).isEmpty then 0 else 1) < 30)) = true := by rfl)
    (hline : (apos.endLine == pos.line) = true := by rfl) (hs : starEach [e, e2] X.env = (false, eval e X.env) :: starEach [e2] X.env := by rfl) (hs2 : starEach [e2] X.env = (false, eval e2 X.env) :: starEach [] X.env := by rfl)
    (hpl : (backTo pos (starEach [e2] X.env)).any (·.1) = false := by rfl) : XW X H0 M ds G (.Call (.Attribute o "insert" apos) [e, e2] [] pos) K := by
  refine xw_lm PySem.F.slot_list_insert PySem.F.type_list_insert mt_insert ho hG (xaw_cons1 (he.imp fun d1 G1 h => ?_) hs) hbase hfew hline hs hpl
  obtain ⟨d, hx, i, j, xs, rfl, i0, i1, hj, td, hz, gt, k⟩ := h
  refine ⟨[d], xa_cons hx xa_nil hs2, ?_⟩
  intro σ H vs Q a r kk
  obtain ⟨v, u, rfl, rv, q⟩ := rpAll2 r
  obtain rfl : v = .int i := rp_i rv
  obtain ⟨us, h1, rr⟩ := a.sa.get hj
  have hl := rr.length
  refine ⟨p, us, i, u, rfl, rfl, h1, by rw [sizeLine_eq]; omega, i0, i1, ?_⟩
  obtain ⟨a2, t2⟩ := a.set (o := .lst (us.take i.toNat ++ [u] ++ us.drop i.toNat)) (c' := .lst (xs.take i.toNat ++ [d] ++ xs.drop i.toNat)) hj gt hd hp fun t => by
    have rt := rr.tu t (List.all_eq_true.mp gt _ (List.mem_of_getElem? hj))
    exact ⟨_, upd_same, (rpAll_snoc (rt.take _) (q.tu t td)).append (rt.drop _)⟩
  exact kk _ _ _ _ k a2 t2 rp_non
theorem xw_popAt {p : Addr} {xs0 : List D} (ho : XE X G ds o (.val (.ref p))) (hG : (p, Cell.lst xs0) ∈ G) (he : XW X H0 M ds G e fun d1 G1 => ∃ i j xs d, d1 = .int i ∧ 0 ≤ i ∧ xs[i.toNat]? = some d ∧ G1[j]? = some (p, .lst xs) ∧ xs.length < 100000 ∧ gTp G1 = true ∧ K d (G1.set j (p, .lst (xs.eraseIdx i.toNat))))
    (hp : p ∈ M ∨ H0 p = none) (hd : ldTp ds = true)
    (hbase : attributeBase o "pop" X.env (eval o X.env) = eval o X.env := by rfl)
    (hfew : ((backTo pos (starEach [e] X.env)).all (fun x => !x.1) && (backToKw pos (keywordEach [] X.env)).all (fun x => x.1.isSome)
      && decide (([e] : List Expr).length + ([] : List Keyword).length + (if ([] : List Keyword).isEmpty then 0 else 1) < 30)) = true := by rfl)
    (hline : (apos.endLine == pos.line) = true := by rfl) (hs : starEach [e] X.env = (false, eval e X.env) :: starEach [] X.env := by rfl) : XW X H0 M ds G (.Call (.Attribute o "pop" apos) [e] [] pos) K := by
  refine xw_lm PySem.F.slot_list_pop PySem.F.type_list_pop mt_popAt ho hG (xaw_cons1 (he.imp fun d G1 h => ⟨[], xa_nil, ?_⟩) hs) hbase hfew hline hs rfl
  obtain ⟨i, j, xs, d, rfl, i0, hi, hj, hz, gt, k⟩ := h
  intro σ H vs Q a r kk
  obtain ⟨v, rfl, rv⟩ := rpAll1 r
  obtain rfl : v = .int i := rp_i rv
  obtain ⟨us, h1, rr⟩ := a.sa.get hj
  have hl := rr.length
  obtain ⟨y, hy, ry⟩ := rr.get hi
  have hil := (List.getElem?_eq_some_iff.mp hi).1
  have tl := List.all_eq_true.mp gt _ (List.mem_of_getElem? hj)
  refine ⟨p, us, i, i.toNat, y, rfl, rfl, h1, by omega, by omega, ?_, hy, ?_⟩
  · unfold seqIndex?
    simp only [hl]
    try (first | omega | (split <;> first | omega | simp_all | rfl))
  obtain ⟨a2, t2⟩ := a.set (o := .lst (us.eraseIdx i.toNat)) (c' := .lst (xs.eraseIdx i.toNat)) hj gt hd hp fun t => ⟨_, upd_same, (rr.tu t tl).erase _⟩
  exact kk _ _ _ _ k a2 t2 (ry.tu t2 (tpAll_get tl hi))
theorem xw_clear {p : Addr} {xs0 : List D} {j : Nat} (ho : XE X G ds o (.val (.ref p))) (hj : G[j]? = some (p, .lst xs0)) (gt : gTp G = true) (k : K .non (G.set j (p, .lst [])))
    (hp : p ∈ M ∨ H0 p = none) (hd : ldTp ds = true)
    (hbase : attributeBase o "clear" X.env (eval o X.env) = eval o X.env := by rfl)
    (hline : (apos.endLine == pos.line) = true := by rfl) : XW X H0 M ds G (.Call (.Attribute o "clear" apos) [] [] pos) K := by
  intro σ H Q at0 kk
  refine ewp (pe_bm0 PySem.F.plainAttrs_list PySem.F.slot_list_clear PySem.F.type_list_clear mt_clear peS hbase hline) ?_
  refine ho σ H _ at0.lo at0.sa fun v H1 e1 r1 => ?_
  obtain rfl : v = .ref p := rp_v r1
  have a1 := at0.ex e1
  obtain ⟨us, h1, rr⟩ := a1.sa.get hj
  refine ⟨.inl ⟨rfl, us, SqL.of h1⟩, p, us, rfl, rfl, h1, ?_⟩
  obtain ⟨a2, t2⟩ := a1.set (o := .lst []) (c' := .lst []) hj gt hd hp fun t => ⟨_, upd_same, .nil⟩
  exact kk _ _ _ _ k a2 (e1.tu.trans t2) rp_non
end
end RS
end TxtL4

section TxtL5
set_option Elab.async false
set_option linter.all false
set_option maxRecDepth 100000
set_option maxHeartbeats 1000000
/-! dicts; calls that change cells; constructors -/
namespace RS
open PySem PySem.Spec PyProof.Rows L2
section
variable {κ : Type} [DecidableEq κ]
def valD (kvs : List (κ × D)) (k : κ) : Option D := (kvs.find? fun kv => decide (kv.1 = k)).map (·.2)
def putD (kvs : List (κ × D)) (k : κ) (v : D) : List (κ × D) :=
  if (kvs.any fun kv => decide (kv.1 = k)) = true then kvs.map (fun kv => if kv.1 = k then (kv.1, v) else kv) else kvs ++ [(k, v)]
theorem valD_any (k : κ) : ∀ kvs : List (κ × D), (kvs.any fun kv => decide (kv.1 = k)) = (valD kvs k).isSome
  | [] => rfl
  | p :: r => by
    by_cases e : p.1 = k
    · simp [valD, e, List.find?_cons]
    · have := valD_any k r
      simp only [valD] at this
      simp [valD, e, List.find?_cons, this]
end
section
variable {κ κ' : Type} [DecidableEq κ] [DecidableEq κ'] {f : κ → κ'} {H : Hp}
theorem prs_val (hf : ∀ a b, f a = f b → a = b) : ∀ {kvs : List (κ × D)} {vs : List (κ' × V)}, vs.map (·.1) = kvs.map (fun p => f p.1) → RpAll H (kvs.map (·.2)) (vs.map (·.2)) → ∀ k, (valV vs (f k) = none ∧ valD kvs k = none) ∨ ∃ v d, valV vs (f k) = some v ∧ valD kvs k = some d ∧ Rp H d v
  | [], vs, h, _, k => by
    have : vs = [] := by simpa using h
    subst this
    exact .inl ⟨rfl, rfl⟩
  | (j, d) :: kvs, [], h, _, k => by simp at h
  | (j, d) :: kvs, (j', v) :: vs, h, r, k => by
    simp only [List.map_cons, List.cons.injEq] at h r
    obtain ⟨h1, h2⟩ := h
    rw [RpAll] at r
    obtain ⟨v', vs', e, r1, r2⟩ := r
    cases e
    by_cases e : j = k
    · subst e
      refine .inr ⟨v, d, valV_pos h1, ?_, r1⟩
      simp [valD, List.find?_cons]
    · have e2 : ¬ j' = f k := fun z => e (hf _ _ (h1.symm.trans z))
      have q := prs_val hf (kvs := kvs) (vs := vs) h2 r2 k
      have q1 : valV ((j', v) :: vs) (f k) = valV vs (f k) := valV_neg e2
      have q2 : valD ((j, d) :: kvs) k = valD kvs k := by simp [valD, List.find?_cons, e]
      rw [q1, q2]
      exact q
theorem prs_put (hf : ∀ a b, f a = f b → a = b) {kvs : List (κ × D)} {vs : List (κ' × V)} {d : D} {v : V} (h : vs.map (·.1) = kvs.map (fun p => f p.1)) (r : RpAll H (kvs.map (·.2)) (vs.map (·.2))) (rv : Rp H d v) (k : κ) :
    (putK vs (f k) v).map (·.1) = (putD kvs k d).map (fun p => f p.1) ∧ RpAll H ((putD kvs k d).map (·.2)) ((putK vs (f k) v).map (·.2)) := by
  have hany : (vs.any fun kv => decide (kv.1 = f k)) = (kvs.any fun kv => decide (kv.1 = k)) := by
    rw [valV_any, valD_any]
    rcases prs_val hf h r k with ⟨h1, h2⟩ | ⟨v, d, h1, h2, _⟩ <;> rw [h1, h2] <;> rfl
  unfold putK putD
  rw [hany]
  split
  · rename_i hx
    clear hx hany
    induction kvs generalizing vs with
    | nil =>
      have : vs = [] := by simpa using h
      subst this
      exact ⟨rfl, .nil⟩
    | cons p kvs ih =>
      cases vs with
      | nil => simp at h
      | cons q vs =>
        simp only [List.map_cons, List.cons.injEq] at h r
        obtain ⟨h1, h2⟩ := h
        rw [RpAll] at r
        obtain ⟨v', vs', e, r1, r2⟩ := r
        cases e
        have ih := ih h2 r2
        by_cases e : p.1 = k
        · have e2 : q.1 = f k := by rw [h1, e]
          simp only [List.map_cons, e, e2, if_true]
          simp only [List.map_cons, List.cons.injEq, true_and]
          exact ⟨ih.1, .cons rv ih.2⟩
        · have e2 : ¬ q.1 = f k := fun z => e (hf _ _ (h1.symm.trans z))
          simp only [List.map_cons, if_neg e, if_neg e2]
          simp only [List.map_cons, List.cons.injEq]
          exact ⟨⟨h1, ih.1⟩, .cons r1 ih.2⟩
  · rw [List.map_append, List.map_append, List.map_append, List.map_append, h]
    exact ⟨rfl, r.append (.cons rv .nil)⟩
end
theorem inl_inj : ∀ a b : Int, (Sum.inl a : Key) = Sum.inl b → a = b := fun a b h => by cases h; rfl
section
variable {X : Cx} {H0 : Hp} {M : List Addr} {ds : LD} {G : GG} {e a b o i : Expr} {es : List Expr} {K : D → GG → Prop} {KB : Bool → GG → Prop} {KL : List D → GG → Prop} {pos apos : Pos} {d : D} {p : Addr}
/-! ### dicts of ints -/
theorem dk_get {H : Hp} {kvs : List (Int × D)} {n : Int} (x : CellAt X.prog X.w H p (.dk kvs)) : (DGet H p (.int n) none ∧ valD kvs n = none) ∨ ∃ v d, DGet H p (.int n) (some v) ∧ valD kvs n = some d ∧ Rp H d v := by
  obtain ⟨vs, h, r1, r2⟩ := x
  have g : DGet H p (kV (Sum.inl n)) (valV vs (Sum.inl n)) := DGet.k h
  rcases prs_val inl_inj r1 r2 n with ⟨h1, h2⟩ | ⟨v, d, h1, h2, h3⟩
  · rw [h1] at g; exact .inl ⟨g, h2⟩
  · rw [h1] at g; exact .inr ⟨v, d, g, h2, h3⟩
theorem x_dget {kvs : List (Int × D)} {n : Int} (hu : X.A.units + 64 < cLine) (ho : XE X G ds o (.val (.ref p))) (hG : (p, Cell.dk kvs) ∈ G) (hi : XE X G ds i (.int n)) (hv : valD kvs n = some d) (hs : NoSl i := by exact fun _ _ => rfl) : XE X G ds (.Subscript o i pos) d := by
  intro σ H Q lo sa k
  refine ewp (pe_dget (by omega) peS peS hs) ?_
  refine ho σ H _ lo sa fun x H1 e1 rx => ?_
  refine hi σ H1 _ (lo.ex e1) (sa.ex e1) fun y H2 e2 ry => ?_
  obtain rfl : x = .ref p := rp_v rx
  obtain rfl : y = .int n := rp_i ry
  rcases dk_get (n := n) ((sa.ex (e1.trans e2)).2 _ hG) with ⟨_, h2⟩ | ⟨v, d', g, h2, r⟩
  · rw [hv] at h2; cases h2
  · rw [hv] at h2; cases h2
    exact ⟨p, v, rfl, g, k v H2 (e1.trans e2) r⟩
theorem x_din {kvs : List (Int × D)} {n : Int} (hu : X.A.units + 64 < cLine) (hi : XE X G ds i (.int n)) (ho : XE X G ds o (.val (.ref p))) (hG : (p, Cell.dk kvs) ∈ G) (hm : behindInMarks .In o = false := by rfl) : XE X G ds (.Compare i [.In] [o] pos) (.bl (valD kvs n).isSome) := by
  intro σ H Q lo sa k
  refine ewp (pe_cmp (pc_din (by omega) peS peS) hm) ?_
  refine hi σ H _ lo sa fun y H1 e1 ry => ?_
  refine ho σ H1 _ (lo.ex e1) (sa.ex e1) fun x H2 e2 rx => ?_
  obtain rfl : x = .ref p := rp_v rx
  obtain rfl : y = .int n := rp_i ry
  rcases dk_get (n := n) ((sa.ex (e1.trans e2)).2 _ hG) with ⟨g, h2⟩ | ⟨v, d', g, h2, r⟩
  · exact ⟨p, none, rfl, g, k _ H2 (e1.trans e2) (by rw [h2]; exact rp_bl)⟩
  · exact ⟨p, some v, rfl, g, k _ H2 (e1.trans e2) (by rw [h2]; exact rp_bl)⟩
theorem x_dnotin {kvs : List (Int × D)} {n : Int} (hu : X.A.units + 64 < cLine) (hi : XE X G ds i (.int n)) (ho : XE X G ds o (.val (.ref p))) (hG : (p, Cell.dk kvs) ∈ G) (hm : behindInMarks .NotIn o = false := by rfl) : XE X G ds (.Compare i [.NotIn] [o] pos) (.bl (!(valD kvs n).isSome)) := by
  intro σ H Q lo sa k
  refine ewp (pe_cmp (pc_dnotin (by omega) peS peS) hm) ?_
  refine hi σ H _ lo sa fun y H1 e1 ry => ?_
  refine ho σ H1 _ (lo.ex e1) (sa.ex e1) fun x H2 e2 rx => ?_
  obtain rfl : x = .ref p := rp_v rx
  obtain rfl : y = .int n := rp_i ry
  rcases dk_get (n := n) ((sa.ex (e1.trans e2)).2 _ hG) with ⟨g, h2⟩ | ⟨v, d', g, h2, r⟩
  · exact ⟨p, none, rfl, g, k _ H2 (e1.trans e2) (by rw [h2]; exact rp_bl)⟩
  · exact ⟨p, some v, rfl, g, k _ H2 (e1.trans e2) (by rw [h2]; exact rp_bl)⟩
/-- {k: v} -/
theorem xw_disp1 {kx vx : Expr} {n : Int} (hk : XE X G ds kx (.int n)) (hv : XE X G ds vx d) (k : ∀ p, H0 p = none → K (.val (.ref p)) ((p, .dk [(n, d)]) :: G)) : XW X H0 M ds G (.Dict [some kx] [vx] pos) K := by
  intro σ H Q at0 kk
  refine ewp (pe_disp (pps_cons peS peS pps_nil) rfl rfl (by simp) (by simp)) ?_
  intro p hp
  have e0 : Ex H (upd H p (.dK [])) := Ex.new hp
  have a0 := at0.ex e0
  refine hk σ _ _ a0.lo a0.sa fun y H1 e1 ry => ?_
  refine hv σ H1 _ (a0.lo.ex e1) (a0.sa.ex e1) fun v H2 e2 rv => ?_
  obtain rfl : y = .int n := rp_i ry
  have hd : H2 p = some (.dK []) := e2 _ _ (e1 _ _ upd_same)
  refine ⟨hd, [(Sum.inl n, v)], rfl, by simp, ?_⟩
  have t : TL H2 (upd H2 p (.dK (mergeK [] [(Sum.inl n, v)]))) := TL.upd (by rw [hd]; intro xs z; cases z) (by rw [hd]; intro xs z; cases z)
  have e3 : Ex H (upd H2 p (.dK (mergeK [] [(Sum.inl n, v)]))) := Ex.mut ((e0.trans e1).trans e2) hp
  exact kk _ _ _ _ (k p (at0.fr.trk p hp)) (at0.new e3 hp ⟨_, upd_same, rfl, .cons (rv.tl t) .nil⟩) e3.tu rp_val
/-- {i: v, j: u} -/
theorem xw_disp2 {kx vx kx2 vx2 : Expr} {n m : Int} {d2 : D} (hk : XE X G ds kx (.int n)) (hv : XE X G ds vx d) (hk2 : XE X G ds kx2 (.int m)) (hv2 : XE X G ds vx2 d2) (k : ∀ p, H0 p = none → K (.val (.ref p)) ((p, .dk (putD [(n, d)] m d2)) :: G)) : XW X H0 M ds G (.Dict [some kx, some kx2] [vx, vx2] pos) K := by
  intro σ H Q at0 kk
  refine ewp (pe_disp (pps_cons peS peS (pps_cons peS peS pps_nil)) rfl rfl (by simp) (by simp)) ?_
  intro p hp
  have e0 : Ex H (upd H p (.dK [])) := Ex.new hp
  have a0 := at0.ex e0
  refine hk σ _ _ a0.lo a0.sa fun y H1 e1 ry => ?_
  refine hv σ H1 _ (a0.lo.ex e1) (a0.sa.ex e1) fun v H2 e2 rv => ?_
  have a2 := (a0.ex e1).ex e2
  refine hk2 σ H2 _ a2.lo a2.sa fun y2 H3 e3 ry2 => ?_
  refine hv2 σ H3 _ (a2.lo.ex e3) (a2.sa.ex e3) fun v2 H4 e4 rv2 => ?_
  obtain rfl : y = .int n := rp_i ry
  obtain rfl : y2 = .int m := rp_i ry2
  have hd : H4 p = some (.dK []) := e4 _ _ (e3 _ _ (e2 _ _ (e1 _ _ upd_same)))
  refine ⟨hd, [(Sum.inl n, v), (Sum.inl m, v2)], rfl, by simp, ?_⟩
  have t : TL H4 (upd H4 p (.dK (mergeK [] [(Sum.inl n, v), (Sum.inl m, v2)]))) := TL.upd (by rw [hd]; intro xs z; cases z) (by rw [hd]; intro xs z; cases z)
  have e5 : Ex H (upd H4 p (.dK (mergeK [] [(Sum.inl n, v), (Sum.inl m, v2)]))) := Ex.mut ((((e0.trans e1).trans e2).trans e3).trans e4) hp
  have q := prs_put (H := H4) inl_inj (kvs := [(n, d)]) (vs := [(Sum.inl n, v)]) (d := d2) (v := v2) rfl (.cons ((rv.ex e3).ex e4) .nil) rv2 m
  exact kk _ _ _ _ (k p (at0.fr.trk p hp)) (at0.new e5 hp ⟨_, upd_same, q.1, q.2.tl t⟩) e5.tu rp_val
def mergeD (kvs more : List (Int × D)) : List (Int × D) := more.foldl (fun acc kv => putD acc kv.1 kv.2) kvs
theorem prs_merge {H : Hp} : ∀ {more : List (Int × D)} {ms : List (Key × V)} {kvs : List (Int × D)} {vs : List (Key × V)}, vs.map (·.1) = kvs.map (fun p => Sum.inl p.1) → RpAll H (kvs.map (·.2)) (vs.map (·.2)) →
    ms.map (·.1) = more.map (fun p => Sum.inl p.1) → RpAll H (more.map (·.2)) (ms.map (·.2)) →
    (mergeK vs ms).map (·.1) = (mergeD kvs more).map (fun p => Sum.inl p.1) ∧ RpAll H ((mergeD kvs more).map (·.2)) ((mergeK vs ms).map (·.2))
  | [], ms, kvs, vs, h, r, h2, r2 => by
    have : ms = [] := by simpa using h2
    subst this
    exact ⟨h, r⟩
  | (j, d) :: more, [], kvs, vs, h, r, h2, r2 => by simp at h2
  | (j, d) :: more, (j', v) :: ms, kvs, vs, h, r, h2, r2 => by
    simp only [List.map_cons, List.cons.injEq] at h2 r2
    obtain ⟨q1, q2⟩ := h2
    subst q1
    rw [RpAll] at r2
    obtain ⟨v', vs', e, r3, r4⟩ := r2
    cases e
    obtain ⟨z1, z2⟩ := prs_put inl_inj h r r3 j
    exact prs_merge (more := more) (ms := ms) z1 z2 q2 r4
/-- d.update(e) -/
theorem xw_update (ho : XE X G ds o (.val (.ref p))) {kvs0 : List (Int × D)} (hG : (p, Cell.dk kvs0) ∈ G) (he : XW X H0 M ds G e fun d G1 => ∃ j kvs q j' more, d = .val (.ref q) ∧ j' ≠ j ∧ G1[j]? = some (p, .dk kvs) ∧ G1[j']? = some (q, Cell.dk more) ∧ kvs.length + more.length ≤ 100000 ∧ K .non (G1.set j (p, .dk (mergeD kvs more))))
    (hp : p ∈ M ∨ H0 p = none)
    (hbase : attributeBase o "update" X.env (eval o X.env) = eval o X.env := by rfl)
    (hfew : ((backTo pos (starEach [e] X.env)).all (fun x => !x.1) && (backToKw pos (keywordEach [] X.env)).all (fun x => x.1.isSome)
      && decide (([e] : List Expr).length + ([] : List Keyword).length + (if ([] : List Keyword).isEmpty then 0 else 1) < 30)) = true := by rfl)
    (hline : (apos.endLine == pos.line) = true := by rfl) (hs : starEach [e] X.env = (false, eval e X.env) :: starEach [] X.env := by rfl) : XW X H0 M ds G (.Call (.Attribute o "update" apos) [e] [] pos) K := by
  intro σ H Q at0 kk
  refine ewp (pe_bm PySem.F.plainAttrs_dict PySem.F.slot_dict_update PySem.F.type_dict_update mt_update peS (pa_cons peS pa_nil hs) hbase hfew hline hs rfl) ?_
  refine ho σ H _ at0.lo at0.sa fun v H1 e1 r1 => ?_
  obtain rfl : v = .ref p := rp_v r1
  obtain ⟨vs0, h1, _⟩ := (at0.sa.ex e1).2 _ hG
  refine ⟨.inr (.inr (.inl ⟨rfl, .inl ⟨_, h1⟩⟩)), ?_⟩
  refine he σ H1 _ (at0.ex e1) fun d G1 u H2 k2 a2 t2 r2 => ?_
  obtain ⟨j, kvs, q, j', more, rfl, hjj, hj, hq, hz, k⟩ := k2
  have hne : q ≠ p := fun z => by
    have q1 : (G1.map (·.1))[j]? = Option.some p := by rw [List.getElem?_map, hj]; rfl
    have q2 : (G1.map (·.1))[j']? = Option.some p := by rw [List.getElem?_map, hq]; exact congrArg Option.some z
    exact hjj (nd_ix a2.sa.1 q2 q1)
  have hq := List.mem_of_getElem? hq
  obtain rfl : u = .ref q := rp_v r2
  obtain ⟨vs, g1, g2, g3⟩ := a2.sa.get hj
  obtain ⟨ms, m1, m2, m3⟩ := a2.sa.2 _ hq
  have l1 : vs.length = kvs.length := by simpa using congrArg List.length g2
  have l2 : ms.length = more.length := by simpa using congrArg List.length m2
  refine ⟨p, q, vs, ms, rfl, rfl, Ne.symm hne, g1, m1, by rw [sizeLine_eq]; omega, ?_⟩
  obtain ⟨z1, z2⟩ := prs_merge g2 g3 m2 m3
  obtain ⟨a3, t3⟩ := a2.setN (o := .dK (mergeK vs ms)) (c' := .dk (mergeD kvs more)) hj rfl hp fun t => ⟨_, upd_same, z1, z2.tl t⟩
  exact kk _ _ _ _ k a3 ((e1.tu.trans t2).trans t3) rp_non
theorem x_lenK {kvs : List (Int × D)} {p2 : Pos} (hm : X.mg "len" = none) (ha : XE X G ds a (.val (.ref p))) (hG : (p, Cell.dk kvs) ∈ G) (hg : Gl X "len" := by rfl) (he : starEach [a] X.env = (false, eval a X.env) :: starEach [] X.env := by rfl) (hpl : (backTo pos (starEach [] X.env)).any (·.1) = false := by rfl) :
    XE X G ds (.Call (.Name "len" p2) [a] [] pos) (.int (kvs.length : Int)) := x_callB call_lenD hg hm PySem.boot_len (xa_cons ha xa_nil he) (fun vs H Q s r k => by
  obtain ⟨v, rfl, q⟩ := rpAll1 r
  obtain rfl : v = .ref p := rp_v q
  obtain ⟨us, h1, h2, _⟩ := s.2 _ hG
  have l1 : us.length = kvs.length := by simpa using congrArg List.length h2
  refine ⟨p, us, rfl, h1, ?_⟩
  rw [l1]
  exact k _ H (Same.refl H) rp_int) (by decide) (by decide) he hpl
end
end RS
end TxtL5

section TxtL6
set_option Elab.async false
set_option linter.all false
set_option maxRecDepth 100000
set_option maxHeartbeats 1000000
/-! calls that change cells; constructors; dicts keyed by pairs -/
namespace RS
open PySem PySem.Spec PyProof.Rows L2
/-- a promise of a def that changes the cells handed in and may leave new ones: R cells arguments (result, new cells, cells) -/
def spA (P : Program) (w : World) (R : GG → List D → (D → GG → GG → Prop) → Prop) : Sp := fun vs H Q _ => ∃ G ds K, RpAll H ds vs ∧ Sat P w G H ∧ R G ds K ∧
  ∀ d N G' v H', K d N G' → G'.map (·.1) = G.map (·.1) → (∀ p ∈ N, H p.1 = none) → Sat P w (N ++ G') H' → Fr (G.map (·.1)) H H' → Rp H' d v → Q v H'
def setAll (G : GG) : List Nat → GG → GG
  | j :: js, c :: cs => setAll (G.set j c) js cs
  | _, _ => G
theorem setAll_fst : ∀ {js : List Nat} {cs : GG} {G : GG}, js.map (fun j => (G.map (·.1))[j]?) = cs.map (fun c => some c.1) → (setAll G js cs).map (·.1) = G.map (·.1)
  | [], cs, G, _ => by cases cs <;> rfl
  | j :: js, [], G, _ => rfl
  | j :: js, c :: cs, G, h => by
    simp only [List.map_cons, List.cons.injEq] at h
    have hj : (G.map (·.1))[j]? = some c.1 := h.1
    have e : (G.set j c).map (·.1) = G.map (·.1) := by
      rw [List.getElem?_map] at hj
      obtain ⟨q, hq, e⟩ := Option.map_eq_some_iff.mp hj
      have := fst_set (p := c.1) (c := q.2) (q := c.2) (G := G) (j := j) (by rw [hq, ← e])
      exact this
    unfold setAll
    rw [setAll_fst (by rw [e]; exact h.2), e]
theorem setAll_mem : ∀ {js : List Nat} {cs : GG} {G : GG} {p : Addr × Cell}, js.length = cs.length → p ∈ setAll G js cs → p ∈ cs ∨ ∃ k, k ∉ js ∧ G[k]? = some p
  | [], [], G, p, _, h => by
    obtain ⟨k, hk⟩ := List.mem_iff_getElem?.mp h
    exact .inr ⟨k, by simp, hk⟩
  | [], _ :: _, G, p, h, _ => by simp at h
  | _ :: _, [], G, p, h, _ => by simp at h
  | j :: js, c :: cs, G, p, hl, h => by
    unfold setAll at h
    rcases setAll_mem (by simpa using hl) h with q | ⟨k, hk, q⟩
    · exact .inl (List.mem_cons_of_mem _ q)
    · by_cases e : j = k
      · subst e
        rw [List.getElem?_set] at q
        simp only [if_true] at q
        split at q
        · cases q; exact .inl List.mem_cons_self
        · cases q
      · rw [List.getElem?_set_ne e] at q
        exact .inr ⟨k, by simp only [List.mem_cons, not_or]; exact ⟨fun z => e z.symm, hk⟩, q⟩
abbrev Pick (G : GG) (js : List Nat) (Gs : GG) : Prop := js.map (fun j => G[j]?) = Gs.map some
theorem Pick.sub {G Gs : GG} {js : List Nat} (h : Pick G js Gs) : ∀ p ∈ Gs, ∃ j ∈ js, G[j]? = some p := fun p hp => by
  have : some p ∈ js.map (fun j => G[j]?) := by rw [h]; exact List.mem_map_of_mem hp
  exact List.mem_map.mp this
theorem nodup_picked {as : List Addr} (hn : as.Nodup) : ∀ {js : List Nat} {bs : List Addr}, js.Nodup → js.map (fun j => as[j]?) = bs.map some → bs.Nodup
  | [], [], _, _ => List.nodup_nil
  | [], _ :: _, _, h => by simp at h
  | _ :: _, [], _, h => by simp at h
  | j :: js, b :: bs, hj, h => by
    simp only [List.map_cons, List.cons.injEq] at h
    rw [List.nodup_cons] at hj ⊢
    refine ⟨fun hb => ?_, nodup_picked hn hj.2 h.2⟩
    have : some b ∈ js.map (fun j => as[j]?) := by rw [h.2]; exact List.mem_map_of_mem hb
    obtain ⟨k, hk, e⟩ := List.mem_map.mp this
    have := nd_ix hn h.1 e
    subst this
    exact hj.1 hk
section
variable {P : Program} {w : World} {H0 H H' : Hp} {M : List Addr} {ds : LD} {G Gs G' N : GG} {σ : L2.St} {js : List Nat}
theorem Pick.fst (h : Pick G js Gs) : js.map (fun j => (G.map (·.1))[j]?) = (Gs.map (·.1)).map some := by
  have := congrArg (List.map (Option.map (·.1))) h
  rw [List.map_map, List.map_map] at this
  rw [List.map_map]
  refine Eq.trans (List.map_congr_left fun j _ => ?_) this
  rw [List.getElem?_map]; rfl
theorem Sat.pick (s : Sat P w G H) (hp : Pick G js Gs) (hj : js.Nodup) : Sat P w Gs H :=
  ⟨nodup_picked s.1 hj hp.fst, fun p h => let ⟨j, _, e⟩ := hp.sub p h; s.2 p (List.mem_of_getElem? e)⟩
theorem at_call (a : At P w H0 M ds G σ H) (hp : Pick G js Gs) (hj : js.Nodup) (hM : ∀ p ∈ Gs, p.1 ∈ M ∨ H0 p.1 = none) (hd : ldTp ds = true) (hg : gTp G = true) (f : Fr (Gs.map (·.1)) H H') (e : G'.map (·.1) = Gs.map (·.1)) (hN : ∀ p ∈ N, H p.1 = none)
    (s : Sat P w (N ++ G') H') : At P w H0 M ds (N ++ setAll G js G') σ H' := by
  have hs := setAll_fst (G := G) (js := js) (cs := G') (by
    rw [hp.fst, ← e, List.map_map]; rfl)
  have hl : js.length = G'.length := by
    have h1 := congrArg List.length hp
    have h2 := congrArg List.length e
    simp only [List.length_map] at h1 h2
    omega
  refine ⟨a.lo.tu f.tu hd, ⟨?_, fun p hp' => ?_⟩, a.fr.trans f fun m hm => ?_⟩
  · have s1 := s.1
    rw [List.map_append] at s1 ⊢
    rw [hs]
    refine List.nodup_append.mpr ⟨(List.nodup_append.mp s1).1, a.sa.1, fun x hx y hy e => ?_⟩
    subst e
    obtain ⟨p, hp1, rfl⟩ := List.mem_map.mp hx
    obtain ⟨q, hq1, e2⟩ := List.mem_map.mp hy
    obtain ⟨u, hu⟩ := (a.sa.2 q hq1).some
    have e3 : q.1 = p.1 := e2
    rw [e3, hN p hp1] at hu
    cases hu
  · rcases List.mem_append.mp hp' with h | h
    · exact s.2 p (List.mem_append_left _ h)
    rcases setAll_mem hl h with h | ⟨k, hk, h⟩
    · exact s.2 p (List.mem_append_right _ h)
    have hm := List.mem_of_getElem? h
    refine (a.sa.2 p hm).tu f.tu (fun o ho => f.keep _ o ho fun z => ?_) (List.all_eq_true.mp hg p hm)
    obtain ⟨q, hq, e2⟩ := List.mem_map.mp z
    obtain ⟨j, hj2, e3⟩ := hp.sub q hq
    have i1 : (G.map (·.1))[j]? = Option.some p.1 := by rw [List.getElem?_map, e3]; exact congrArg Option.some e2
    have i2 : (G.map (·.1))[k]? = Option.some p.1 := by rw [List.getElem?_map, h]; rfl
    have := nd_ix a.sa.1 i1 i2
    subst this
    exact hk hj2
  · obtain ⟨q, hq, rfl⟩ := List.mem_map.mp hm
    exact hM q hq
end
abbrev RR := GG → List D → (D → GG → GG → Prop) → Prop
/-- what a caller shows of a call that changes cells -/
def Eff (H0 : Hp) (M : List Addr) (ds : LD) (R : RR) (G : GG) (dl : List D) (K : D → GG → Prop) : Prop := ∃ js Gs Kc, Pick G js Gs ∧ js.Nodup ∧ (∀ p ∈ Gs, p.1 ∈ M ∨ H0 p.1 = none) ∧ ldTp ds = true ∧ gTp G = true ∧ R Gs dl Kc ∧
  ∀ d N G', Kc d N G' → G'.map (·.1) = Gs.map (·.1) → (∀ p ∈ N, H0 p.1 = none) → K d (N ++ setAll G js G')
section
variable {X : Cx} {H0 : Hp} {M : List Addr} {ds : LD} {G : GG} {e a b o i : Expr} {es : List Expr} {K : D → GG → Prop} {KB : Bool → GG → Prop} {KL : List D → GG → Prop} {pos apos p2 : Pos} {d : D} {p C : Addr} {k : Nat} {x m : Str} {ps : List Str} {R : RR}
theorem eff_run {σ : L2.St} {H : Hp} {dl : List D} {vs : List V} {Q : VK} {E : XK} (at0 : At X.prog X.w H0 M ds G σ H) (r : RpAll H dl vs) (h : Eff H0 M ds R G dl K)
    (kk : ∀ d G' v H', K d G' → At X.prog X.w H0 M ds G' σ H' → Tu H H' → Rp H' d v → Q v H') : spA X.prog X.w R vs H Q E := by
  obtain ⟨js, Gs, Kc, hp, hj, hM, hd, hg, hR, hk⟩ := h
  refine ⟨Gs, dl, Kc, r, at0.sa.pick hp hj, hR, fun d N G' v H' kc e hN s f rv => ?_⟩
  exact kk d _ v H' (hk d N G' kc e fun p hp => at0.fr.trk _ (hN p hp)) (at_call at0 hp hj hM hd hg f e hN s) f.tu rv
theorem xw_call (F : Fn0 X.prog X.w X.K X.mg X.base k x ps (spA X.prog X.w R)) (hr : Room k X.A) (hg : Gl X x) (ha : XAw X H0 M ds G (e :: es) fun dl G1 => Eff H0 M ds R G1 dl K)
    (hd : (x == ("__debug__" : Str)) = false := by decide) (he : starEach (e :: es) X.env = (false, eval e X.env) :: starEach es X.env := by rfl) (hpl : (backTo pos (starEach es X.env)).any (·.1) = false := by rfl) : XW X H0 M ds G (.Call (.Name x p2) (e :: es) [] pos) K := by
  intro σ H Q at0 kk
  obtain ⟨t, h, q⟩ := e_call (p := p2) (pos := pos) F hr hg hd he hpl
  refine ewp h (q σ H Q ?_)
  refine ha σ H _ at0 fun dl G1 vs H1 k1 a1 t1 r1 => ?_
  exact eff_run a1 r1 k1 fun d G' v H' k a t r => kk d G' v H' k a (t1.trans t) r
/-- a call that changes nothing, its arguments effects -/
theorem xw_callP {Fs : GG → List D → D → Prop} (F : Fn0 X.prog X.w X.K X.mg X.base k x ps (spP X.prog X.w Fs)) (hr : Room k X.A) (hg : Gl X x) (ha : XAw X H0 M ds G (e :: es) fun dl G1 => ∃ G' d, Fs G' dl d ∧ Sub G' G1 ∧ K d G1)
    (hd : (x == ("__debug__" : Str)) = false := by decide) (he : starEach (e :: es) X.env = (false, eval e X.env) :: starEach es X.env := by rfl) (hpl : (backTo pos (starEach es X.env)).any (·.1) = false := by rfl) : XW X H0 M ds G (.Call (.Name x p2) (e :: es) [] pos) K := by
  intro σ H Q at0 kk
  obtain ⟨t, h, q⟩ := e_call (p := p2) (pos := pos) F hr hg hd he hpl
  refine ewp h (q σ H Q ?_)
  refine ha σ H _ at0 fun dl G1 vs H1 k1 a1 t1 r1 => ?_
  obtain ⟨G', d, hF, hG, k⟩ := k1
  exact ⟨G', dl, d, r1, a1.sa.part hG, hF, fun v H' e2 r => kk d G1 v H' k (a1.ex e2) (t1.trans e2.tu) r⟩
theorem xw_meth {l : Addr} {fs : List (Str × D)} {pl : Sem Bool} (F : Me0 X.prog X.w X.K X.mg X.base C k m ps (spA X.prog X.w R)) (hr : Room k X.A) (c : Cls X.K C) (ho : XE X G ds o (.val (.ref l))) (hG : (l, Cell.ins C fs) ∈ G) (hl : fs.lookup m = none)
    (ha : XAw X H0 M ds G (e :: es) fun dl G1 => Eff H0 M ds R G1 (.val (.ref l) :: dl) K)
    (hst : starEach (e :: es) X.env = (false, eval e X.env) :: starEach es X.env := by rfl) (hpl : (backTo pos (starEach es X.env)).any (·.1) = false := by rfl)
    (ht : eval (.Call (.Attribute o m apos) (e :: es) [] pos) X.env = (do
      let ov ← eval o X.env
      standAt apos.atName
      let (f, first) ← holding [ov] (getMethod ov m pl)
      callWith pos f first (backTo pos (starEach (e :: es) X.env)) (backToKw pos (keywordEach [] X.env))) := by rfl) : XW X H0 M ds G (.Call (.Attribute o m apos) (e :: es) [] pos) K := by
  intro σ H Q at0 kk
  obtain ⟨f, fd, h, hm, hb⟩ := F.ex
  refine ewp (pe_meth peS c hm h hr hb .nil pass0 paS hst hpl ht) ?_
  refine ho σ H _ at0.lo at0.sa fun v H1 e1 r => ?_
  obtain ⟨dx, gs, h1, q⟩ := (at0.sa.ex e1).2 _ hG
  obtain rfl : v = .ref l := rp_v r
  refine ⟨l, dx, gs, rfl, h1, fall_none q hl, ?_⟩
  refine ha σ H1 _ (at0.ex e1) fun dl G1 vs H2 k2 a2 t2 r2 => ?_
  rw [List.append_nil]
  exact eff_run a2 (.cons rp_val r2) k2 fun d G' v H' k a t r => kk d G' v H' k a ((e1.tu.trans t2).trans t) r
theorem xw_meth0 {pl : Sem Bool} (F : Me0 X.prog X.w X.K X.mg X.base C k m ps (spA X.prog X.w R)) (hr : Room k X.A) (c : Cls X.K C) (ho : XW X H0 M ds G o fun d G1 => ∃ l fs, d = .val (.ref l) ∧ (l, Cell.ins C fs) ∈ G1 ∧ fs.lookup m = none ∧ Eff H0 M ds R G1 [.val (.ref l)] K)
    (ht : eval (.Call (.Attribute o m apos) [] [] pos) X.env = (do
      let ov ← eval o X.env
      standAt apos.atName
      let (f, first) ← holding [ov] (getMethod ov m pl)
      callWith pos f first (backTo pos (starEach [] X.env)) (backToKw pos (keywordEach [] X.env))) := by rfl) : XW X H0 M ds G (.Call (.Attribute o m apos) [] [] pos) K := by
  intro σ H Q at0 kk
  obtain ⟨f, fd, h, hm, hb⟩ := F.ex
  refine ewp (pe_meth0 peS c hm h hr hb .nil pass0 ht) ?_
  refine ho σ H _ at0 fun d G1 v H1 k1 a1 t1 r => ?_
  obtain ⟨l, fs, rfl, hG, hl, hE⟩ := k1
  obtain ⟨dx, gs, h1, q⟩ := a1.sa.2 _ hG
  obtain rfl : v = .ref l := rp_v r
  exact ⟨l, dx, gs, rfl, h1, fall_none q hl, eff_run (E := E0) a1 (.cons rp_val .nil) hE fun d G' v H' k a t r => kk d G' v H' k a (t1.trans t) r⟩
/-- a class of the module, known by the promise of its __init__ -/
structure Mk0 (P : Program) (w : World) (K : PySem.W.Frag) (mg : Str → Option Value) (base : Heap) (k : Nat) (x : Str) (C : Addr) (ps : List Str) (R : RR) : Prop where
  ex : ∃ f fd, FnOk P w K mg base CX0 k f fd ps (spA P w R) ∧ Mk K C f ∧ mg x = some (.ref C) ∧ Binds K fd ps []
/-- C(..) -/
theorem xw_make (F : Mk0 X.prog X.w X.K X.mg X.base k x C ps R) (hr : Room (k + 1) X.A) (hg : Gl X x) (ha : XAw X H0 M ds G (e :: es) fun dl G1 => ∃ js Gs, Pick G1 js Gs ∧ js.Nodup ∧ (∀ p ∈ Gs, p.1 ∈ M ∨ H0 p.1 = none) ∧ ldTp ds = true ∧ gTp G1 = true ∧
      ∀ y, H0 y = none → ∃ Kc, R ((y, .ins C []) :: Gs) (.val (.ref y) :: dl) Kc ∧ ∀ d N G', Kc d N G' → d = .non ∧ ∃ c Gn, G' = (y, c) :: Gn ∧ (Gn.map (·.1) = Gs.map (·.1) → (∀ p ∈ N, H0 p.1 = none) → K (.val (.ref y)) (N ++ (y, c) :: setAll G1 js Gn)))
    (hd : (x == ("__debug__" : Str)) = false := by decide) (he : starEach (e :: es) X.env = (false, eval e X.env) :: starEach es X.env := by rfl) (hpl : (backTo pos (starEach es X.env)).any (·.1) = false := by rfl) : XW X H0 M ds G (.Call (.Name x p2) (e :: es) [] pos) K := by
  intro σ H Q at0 kk
  obtain ⟨f, fd, h, hm, hmg, hb⟩ := F.ex
  refine ewp (pe_make hm h hr hg hmg hb .nil pass0 paS hd he hpl) ?_
  refine ha σ H _ at0 fun dl G1 vs H1 k1 a1 t1 r1 => ?_
  obtain ⟨js, Gs, hp, hj, hM, hld, hgt, hR⟩ := k1
  intro y dx hy hdx hne
  have y0 := a1.fr.trk y hy
  obtain ⟨Kc, hRc, hk⟩ := hR y y0
  have e2 : Ex H1 (upd (upd H1 dx (.own y)) y (.ins C dx [])) := Ex.mut (Ex.new hdx) hy
  rw [List.append_nil]
  have a2 := a1.ex e2
  have a3 : At X.prog X.w H0 M ds ((y, .ins C []) :: G1) σ (upd (upd H1 dx (.own y)) y (.ins C dx [])) := a1.new e2 hy ⟨dx, [], upd_same, rfl, .nil⟩
  have hp' : Pick ((y, Cell.ins C []) :: G1) (0 :: js.map (· + 1)) ((y, .ins C []) :: Gs) := by
    unfold Pick at hp ⊢
    rw [List.map_cons, List.map_cons, List.map_map]
    exact congrArg (List.cons _) hp
  have hj' : (0 :: js.map (· + 1)).Nodup := by
    rw [List.nodup_cons]
    exact ⟨by simp, List.Pairwise.map _ (fun a b h => by omega) hj⟩
  refine ⟨_, _, Kc, .cons rp_val (r1.ex e2), a3.sa.pick hp' hj', hRc, fun d N G' v H' kc e hN s f rv => ?_⟩
  obtain ⟨rfl, c, Gn, rfl, hkk⟩ := hk d N G' kc
  have en : Gn.map (·.1) = Gs.map (·.1) := by simpa using e
  have a4 := at_call a3 hp' hj' (fun p hp => (List.mem_cons.mp hp).elim (fun z => by subst z; exact .inr y0) (hM p)) hld (by
    rw [gTp, List.all_cons]
    exact Bool.and_eq_true_iff.mpr ⟨rfl, hgt⟩) f e hN s
  have shf : ∀ (js : List Nat) (cs : GG) (G : GG) (q : Addr × Cell), setAll (q :: G) (js.map (· + 1)) cs = q :: setAll G js cs := by
    intro js
    induction js with
    | nil => intro cs G q; cases cs <;> rfl
    | cons j js ih => intro cs G q; cases cs with
      | nil => rfl
      | cons c cs => exact ih cs (G.set j c) q
  have e5 : setAll ((y, Cell.ins C []) :: G1) (0 :: js.map (· + 1)) ((y, c) :: Gn) = (y, c) :: setAll G1 js Gn := shf js Gn G1 (y, c)
  rw [e5] at a4
  refine ⟨by rwa [Rp] at rv, ?_⟩
  exact kk _ _ _ H' (hkk en fun p hp => a3.fr.trk _ (hN p hp)) a4 ((t1.trans e2.tu).trans f.tu) rp_val
/-! ### dicts keyed by pairs of tuples of ints -/
def dS (s : List Int) : D := .tup (s.map .int)
def dKey (k : SKey) : D := .tup [dS k.1, dS k.2]
theorem key_at {H : Hp} {kk : SKey} {v : V} (r : Rp H (dKey kk) v) : ∃ b, v = .ref b ∧ KeyAt H b kk := by
  unfold dKey dS at r
  rw [Rp] at r
  obtain ⟨b, xs, rfl, h, q⟩ := r
  obtain ⟨u1, u2, rfl, q1, q2⟩ := rpAll2 q
  obtain ⟨a1, rfl, h1⟩ := rp_ints q1
  obtain ⟨a2, rfl, h2⟩ := rp_ints q2
  exact ⟨b, rfl, a1, a2, h, h1, h2⟩
theorem dn_val {H : Hp} {kvs : List (SKey × D)} (x : CellAt X.prog X.w H p (.dn kvs)) (kk : SKey) : ∃ vs, DN X.prog X.w H p vs ∧ vs.length = kvs.length ∧ ((valV vs kk = none ∧ valD kvs kk = none) ∨ ∃ v d, valV vs kk = some v ∧ valD kvs kk = some d ∧ Rp H d v) := by
  obtain ⟨vs, h, r1, r2⟩ := x
  exact ⟨vs, h, by simpa using congrArg List.length r1, prs_val (f := fun k : SKey => k) (fun _ _ z => z) r1 r2 kk⟩
theorem x_nget {kvs : List (SKey × D)} {kk : SKey} (hu : X.A.units + 64 < cLine) (ho : XE X G ds o (.val (.ref p))) (hG : (p, Cell.dn kvs) ∈ G) (hi : XE X G ds i (dKey kk)) (hv : valD kvs kk = some d) (hs : NoSl i := by exact fun _ _ => rfl) : XE X G ds (.Subscript o i pos) d := by
  intro σ H Q lo sa k
  refine ewp (pe_nget hu peS peS hs) ?_
  refine ho σ H _ lo sa fun x H1 e1 rx => ?_
  refine hi σ H1 _ (lo.ex e1) (sa.ex e1) fun y H2 e2 ry => ?_
  obtain rfl : x = .ref p := rp_v rx
  obtain ⟨b, rfl, hk⟩ := key_at ry
  obtain ⟨vs, hd, _, h⟩ := dn_val ((sa.ex (e1.trans e2)).2 _ hG) kk
  rcases h with ⟨_, h2⟩ | ⟨v, d', g, h2, r⟩
  · rw [hv] at h2; cases h2
  · rw [hv] at h2; cases h2
    exact ⟨p, b, vs, kk, v, rfl, rfl, hd, hk, g, k v H2 (e1.trans e2) r⟩
theorem x_nnotin {kvs : List (SKey × D)} {kk : SKey} (hu : X.A.units + 64 < cLine) (hi : XE X G ds i (dKey kk)) (ho : XE X G ds o (.val (.ref p))) (hG : (p, Cell.dn kvs) ∈ G) (hm : behindInMarks .NotIn o = false := by rfl) : XE X G ds (.Compare i [.NotIn] [o] pos) (.bl (!(valD kvs kk).isSome)) := by
  intro σ H Q lo sa k
  refine ewp (pe_cmp (pc_nnotin hu peS peS) hm) ?_
  refine hi σ H _ lo sa fun y H1 e1 ry => ?_
  refine ho σ H1 _ (lo.ex e1) (sa.ex e1) fun x H2 e2 rx => ?_
  obtain rfl : x = .ref p := rp_v rx
  obtain ⟨b, rfl, hk⟩ := key_at (ry.ex e2)
  obtain ⟨vs, hd, _, h⟩ := dn_val ((sa.ex (e1.trans e2)).2 _ hG) kk
  rcases h with ⟨h1, h2⟩ | ⟨v, d', h1, h2, r⟩
  · exact ⟨p, b, vs, kk, rfl, rfl, hd, hk, k _ H2 (e1.trans e2) (by rw [h1, h2]; exact rp_bl)⟩
  · exact ⟨p, b, vs, kk, rfl, rfl, hd, hk, k _ H2 (e1.trans e2) (by rw [h1, h2]; exact rp_bl)⟩
theorem xw_nnew (k : ∀ p, H0 p = none → K (.val (.ref p)) ((p, .dn []) :: G)) : XW X H0 M ds G (.Dict [] [] pos) K := by
  intro σ H Q at0 kk
  refine ewp pe_nnew ?_
  intro p φ hp hd
  exact kk _ _ _ _ (k p (at0.fr.trk p hp)) (at0.new (Ex.new hp) hp ⟨[], hd, rfl, .nil⟩) (Ex.new hp).tu rp_val
end
end RS
end TxtL6

section TxtL7
set_option Elab.async false
set_option linter.all false
set_option maxRecDepth 100000
set_option maxHeartbeats 1000000
/-! statements -/
namespace RS
open PySem PySem.Spec PyProof.Rows L2
structure wpSs (X : Cx) (sts : List Stmt) (D : Ends) (σ : L2.St) (H : Hp) : Prop where
  run : ∀ (pins : List (Addr × Obj)) (s : Shared), Inv X pins σ H s → wpAny (model X.prog X.w) X.A (execs sts X.env) (SP X pins D) X.xe s
section
variable {X : Cx} {sts : List Stmt}
theorem pssS : PSs X sts (wpSs X sts) := ⟨fun pins s σ H D I h => h.run pins s I⟩
theorem sswp {t : TS} (h : PSs X sts t) {D : Ends} {σ : L2.St} {H : Hp} (q : t D σ H) : wpSs X sts D σ H := ⟨fun pins s I => h.run pins s σ H D I q⟩
end
structure AK where
  nx : LD → GG → Prop
  rt : D → GG → Prop
  bk : LD → GG → Prop := fun _ _ => False
  ct : LD → GG → Prop := fun _ _ => False
structure Out (P : Program) (w : World) (H0 : Hp) (M : List Addr) (H : Hp) (K : AK) (E : Ends) : Prop where
  nx : ∀ ds G σ H', K.nx ds G → At P w H0 M ds G σ H' → Tu H H' → E.nx σ H'
  rt : ∀ d G v H', K.rt d G → Rp H' d v → Sat P w G H' → Fr M H0 H' → E.rt v H'
  bk : ∀ ds G σ H', K.bk ds G → At P w H0 M ds G σ H' → Tu H H' → E.bk σ H'
  ct : ∀ ds G σ H', K.ct ds G → At P w H0 M ds G σ H' → Tu H H' → E.ct σ H'
theorem Out.tu {P : Program} {w : World} {H0 H H1 : Hp} {M : List Addr} {K : AK} {E : Ends} (o : Out P w H0 M H K E) (t : Tu H H1) : Out P w H0 M H1 K E :=
  ⟨fun ds G σ H' k a u => o.nx ds G σ H' k a (t.trans u), o.rt, fun ds G σ H' k a u => o.bk ds G σ H' k a (t.trans u), fun ds G σ H' k a u => o.ct ds G σ H' k a (t.trans u)⟩
def XSs (X : Cx) (H0 : Hp) (M : List Addr) (ds : LD) (G : GG) (sts : List Stmt) (K : AK) : Prop := ∀ (σ : L2.St) (H : Hp) (E : Ends), At X.prog X.w H0 M ds G σ H → Out X.prog X.w H0 M H K E → wpSs X sts E σ H
/-- K with another next -/
abbrev AK.wnx (K : AK) (n : LD → GG → Prop) : AK := { K with nx := n }
/-- the instance's field f becomes v -/
def putFD (f : Str) (v : D) : List (Str × D) → List (Str × D)
  | [] => [(f, v)]
  | (g, x) :: r => if g = f then (g, v) :: r else (g, x) :: putFD f v r
theorem fall_put {H : Hp} {f : Str} {d : D} {v : V} (rv : Rp H d v) : ∀ {fs : List (Str × D)} {gs : List (Str × V)}, FAll H fs gs → FAll H (putFD f d fs) (putF f v gs)
  | [], gs, h => by
    have : gs = [] := List.eq_nil_of_length_eq_zero (by simpa using congrArg List.length h.1)
    rw [this]
    exact ⟨rfl, .cons rv .nil⟩
  | (g, x) :: fs, [], h => by have := congrArg List.length h.1; simp at this
  | (g, x) :: fs, (g', y) :: gs, h => by
    obtain ⟨h1, h2⟩ := h
    rw [List.map_cons, List.map_cons, RpAll] at h2
    obtain ⟨v', vs, e, r, rr⟩ := h2
    simp only [List.map_cons, List.cons.injEq] at h1 e
    obtain ⟨e1, e2⟩ := h1
    obtain ⟨e3, e4⟩ := e
    subst e1 e3 e4
    unfold putFD putF
    by_cases hf : g' = f
    · rw [if_pos hf, if_pos hf]
      exact ⟨by rw [List.map_cons, List.map_cons, e2], .cons rv rr⟩
    · rw [if_neg hf, if_neg hf]
      obtain ⟨q1, q2⟩ := fall_put (fs := fs) rv ⟨e2, rr⟩
      exact ⟨by rw [List.map_cons, List.map_cons, q1], .cons r q2⟩
theorem FAll.tl {H H' : Hp} {fs : List (Str × D)} {gs : List (Str × V)} (t : TL H H') (h : FAll H fs gs) : FAll H' fs gs := ⟨h.1, h.2.tl t⟩
section
variable {X : Cx} {H0 : Hp} {M : List Addr} {ds ds' : LD} {G G' : GG} {e a b o c i tg iter : Expr} {es : List Expr} {K : AK} {pos p2 p3 : Pos} {d : D} {dl : List D} {p q C : Addr} {f x : Str} {sts rest body orelse : List Stmt}
/-- what is known may be forgotten -/
theorem xs_weak (h : XSs X H0 M ds' G' sts K) (hl : ds'.length = ds.length) (hd : ∀ (i : Nat) d, ds'[i]? = some (some d) → ds[i]? = some (some d)) (hs : Sub G' G) : XSs X H0 M ds G sts K :=
  fun σ H E a o => h σ H E ⟨a.lo.weak hl hd, a.sa.part hs, a.fr⟩ o
theorem xs_nil (k : K.nx ds G) : XSs X H0 M ds G [] K := fun σ H E a o => sswp pss_nil (o.nx ds G σ H k a (Tu.refl H))
theorem xs_asg (i : Nat) (hN : X.N.Nodup) (he : XW X H0 M ds G e fun d G' => XSs X H0 M (ds.set i (some d)) G' rest K) (hi : X.N[i]? = some x := by rfl) (hx : L2.Loc X.env.scope x := by first | exact .inl rfl | exact .inr rfl)
    (hs : swapsWith e (some (.Name x p2)) pos.line X.env = pure false := by rfl) (hf : X.fn x = true ∨ X.env.scope.names.lookup x = some .local := by first | exact .inl rfl | exact .inr rfl) : XSs X H0 M ds G (.Assign [.Name x p2] e pos :: rest) K := by
  intro σ H E a o
  refine sswp (pss_cons (ps_set hN hi hx peS hs hf) pssS) ?_
  refine he σ H _ a fun d G' v H' k a1 t r => ?_
  exact k (σ.set i (some v)) H' E ⟨a1.lo.set r, a1.sa, a1.fr⟩ (o.tu t)
theorem xs_tgt (he : XW X H0 M ds G e fun d G' => ∃ ds' ix, XG X tg d ds ds' ix ∧ XSs X H0 M ds' G' rest K)
    (hs : swapsWithSole [tg] e pos.line X.env = pure false := by rfl) (hw : swappedStores [tg] e X.env = pure none := by rfl)
    (h1 : (assignEach [tg] X.env).map (·.2) = [assign tg X.env] := by rfl) : XSs X H0 M ds G (.Assign [tg] e pos :: rest) K := by
  intro σ H E a o
  refine sswp (pss_cons (ps_asg peS pgS hs hw h1) pssS) ?_
  refine he σ H _ a fun d G' v H' k a1 t r => ?_
  obtain ⟨ds', ix, hx, hr⟩ := k
  exact hx σ H' v _ a1.lo r fun σ2 l2 _ _ => hr σ2 H' E ⟨l2, a1.sa, a1.fr⟩ (o.tu t)
theorem xs_par (i j : Nat) {y : Str} {px py pt pt2 : Pos} {kt k2} (hN : X.N.Nodup) (he : XAw X H0 M ds G [a, b] fun dl G' => ∃ d1 d2, dl = [d1, d2] ∧ XSs X H0 M ((ds.set i (some d1)).set j (some d2)) G' rest K)
    (hc : X.calm = true := by rfl) (hi : X.N[i]? = some x := by rfl) (hj : X.N[j]? = some y := by rfl) (hij : i ≠ j := by decide) (hx : X.env.scope.names.lookup x = some .local := by rfl) (hy : X.env.scope.names.lookup y = some .local := by rfl)
    (hw : swappedStores [.Tuple [.Name x px, .Name y py] kt pt] (.Tuple [a, b] k2 pt2) X.env = pure (some [x, y]) := by rfl)
    (hs : swapsWithSole [.Tuple [.Name x px, .Name y py] kt pt] (.Tuple [a, b] k2 pt2) pos.line X.env = pure false := by rfl) : XSs X H0 M ds G (.Assign [.Tuple [.Name x px, .Name y py] kt pt] (.Tuple [a, b] k2 pt2) pos :: rest) K := by
  intro σ H E at0 o
  refine sswp (pss_cons (ps_par hc hN hi hj hij hx hy paS hw hs) pssS) ?_
  refine he σ H _ at0 fun dl G' vs H' k a1 t r => ?_
  obtain ⟨d1, d2, rfl, hr⟩ := k
  obtain ⟨v, u, rfl, r1, r2⟩ := rpAll2 r
  exact ⟨v, u, rfl, hr _ H' E ⟨(a1.lo.set r1).set r2, a1.sa, a1.fr⟩ (o.tu t)⟩
theorem xs_if {x1 x2 : List Stmt} (hc : XV X H0 M ds G c fun t G' => (t = true → XSs X H0 M ds G' x1 (K.wnx fun ds' G'' => XSs X H0 M ds' G'' rest K)) ∧ (t = false → XSs X H0 M ds G' x2 (K.wnx fun ds' G'' => XSs X H0 M ds' G'' rest K))) :
    XSs X H0 M ds G (.If c x1 x2 pos :: rest) K := by
  intro σ H E at0 o
  refine sswp (pss_cons (ps_if ptS pssS pssS) pssS) ?_
  refine hc σ H _ at0 fun t G' H' k a1 t1 => ?_
  have o2 : Out X.prog X.w H0 M H' (K.wnx fun ds' G'' => XSs X H0 M ds' G'' rest K) { E with nx := wpSs X rest E } :=
    ⟨fun ds' G2 σ' H2 kk a2 t2 => kk σ' H2 E a2 (o.tu (t1.trans t2)), o.rt, fun ds' G2 σ' H2 kk a2 t2 => o.bk ds' G2 σ' H2 kk a2 (t1.trans t2), fun ds' G2 σ' H2 kk a2 t2 => o.ct ds' G2 σ' H2 kk a2 (t1.trans t2)⟩
  cases t with
  | true => exact iteT (k.1 rfl σ H' _ a1 o2)
  | false => exact iteF (k.2 rfl σ H' _ a1 o2)
theorem xs_ifT {x1 x2 : List Stmt} {t : Bool} (hc : XT X G ds c t) (h1 : t = true → XSs X H0 M ds G x1 (K.wnx fun ds' G'' => XSs X H0 M ds' G'' rest K)) (h2 : t = false → XSs X H0 M ds G x2 (K.wnx fun ds' G'' => XSs X H0 M ds' G'' rest K)) :
    XSs X H0 M ds G (.If c x1 x2 pos :: rest) K := xs_if (xv_t hc ⟨h1, h2⟩)
theorem xs_ret (he : XW X H0 M ds G e K.rt) : XSs X H0 M ds G (.Return (some e) pos :: rest) K := by
  intro σ H E at0 o
  refine sswp (pss_cons (ps_ret peS) pssS) ?_
  exact he σ H _ at0 fun d G' v H' k a t r => o.rt d G' v H' k r a.sa a.fr
theorem xs_expr (he : XW X H0 M ds G e fun _ G' => XSs X H0 M ds G' rest K) (hs : swapsWith e none pos.line X.env = pure false := by rfl) : XSs X H0 M ds G (.Expr e pos :: rest) K := by
  intro σ H E at0 o
  refine sswp (pss_cons (ps_expr peS hs) pssS) ?_
  exact he σ H _ at0 fun d G' v H' k a t r => k σ H' E a (o.tu t)
theorem xs_continue (k : K.ct ds G) : XSs X H0 M ds G (.Continue pos :: rest) K := by
  intro σ H E at0 o
  exact sswp (pss_cons ps_continue pssS) (o.ct ds G σ H k at0 (Tu.refl H))
theorem xs_while (J : Nat → LD → GG → Prop) (m0 : Nat) (h0 : J m0 ds G) (hs : ∀ m ds' G', J m ds' G' → ∃ t, XT X G' ds' c t ∧ (t = true → XSs X H0 M ds' G' body ⟨fun ds G => ∃ m', m' < m ∧ J m' ds G, K.rt, fun ds G => XSs X H0 M ds G rest K, fun ds G => ∃ m', m' < m ∧ J m' ds G⟩) ∧
      (t = false → XSs X H0 M ds' G' rest K)) (hp : PassesOwn (model X.prog X.w) X.A X.env X.xe := by exact PassesOwn.never) : XSs X H0 M ds G (.While c body [] pos :: rest) K := by
  intro σ H E at0 o
  refine sswp (pss_cons (ps_while hp ptS pssS) pssS) ?_
  refine ⟨fun m σ' H' => ∃ ds' G', J m ds' G' ∧ At X.prog X.w H0 M ds' G' σ' H' ∧ Tu H H', ⟨m0, ds, G, h0, at0, Tu.refl H⟩, ?_⟩
  rintro m σ' H' ⟨ds', G', hj, a1, t1⟩
  obtain ⟨t, ht, h1, h2⟩ := hs m ds' G' hj
  refine ht σ' H' _ a1.lo a1.sa fun H2 e2 => ?_
  cases t with
  | true =>
    refine iteT ⟨fun σ' H' => ∃ m', m' < m ∧ ∃ ds' G', J m' ds' G' ∧ At X.prog X.w H0 M ds' G' σ' H' ∧ Tu H H', fun σ3 H3 h => h, ?_⟩
    refine h1 rfl σ' H2 _ (a1.ex e2) ⟨?_, o.rt, ?_, ?_⟩
    · rintro ds3 G3 σ3 H3 ⟨m', hm, j⟩ a3 t3
      exact ⟨m', hm, ds3, G3, j, a3, (t1.trans e2.tu).trans t3⟩
    · intro ds3 G3 σ3 H3 k a3 t3
      exact k σ3 H3 E a3 (o.tu ((t1.trans e2.tu).trans t3))
    · rintro ds3 G3 σ3 H3 ⟨m', hm, j⟩ a3 t3
      exact ⟨m', hm, ds3, G3, j, a3, (t1.trans e2.tu).trans t3⟩
  | false => exact iteF (h2 rfl σ' H2 E (a1.ex e2) (o.tu (t1.trans e2.tu)))
/-- what a for asks -/
structure Lp (X : Cx) (H0 : Hp) (M : List Addr) (ds : LD) (G : GG) (tg : Expr) (body rest : List Stmt) (K : AK) (dl : List D) (J : Nat → LD → GG → Prop) : Prop where
  h0 : J 0 ds G
  hs : ∀ i d ds' G', dl[i]? = some d → J i ds' G' → ∃ ds2 ix, XG X tg d ds' ds2 ix ∧ XSs X H0 M ds2 G' body ⟨J (i + 1), K.rt, fun ds G => XSs X H0 M ds G rest K, J (i + 1)⟩
  hd : ∀ ds' G', J dl.length ds' G' → XSs X H0 M ds' G' rest K
theorem xs_forI {Gm : Hp → Hp → Prop} (hi : XI X G ds tg iter dl Gm) (J : Nat → LD → GG → Prop) (hgm : ∀ i ds' G' σ H1 H, J i ds' G' → At X.prog X.w H0 M ds' G' σ H → Tu H1 H → Gm H1 H) (L : Lp X H0 M ds G tg body rest K dl J)
    (hp : PassesOwn (model X.prog X.w) X.A X.env X.xe := by exact PassesOwn.never) (hc : X.calm = true := by rfl) (hsf : ∀ x, foldedSetIterable iter X.env x = pure x := by intro _; rfl) : XSs X H0 M ds G (.For tg iter body [] pos :: rest) K := by
  intro σ H E at0 o
  refine sswp (pss_cons (ps_for hp hc piS pgS pssS hsf) pssS) ?_
  refine hi σ H _ at0.lo at0.sa fun J0 H1 Gd e gd w => ?_
  refine for_it w (fun i σ' H' => ∃ ds' G', J i ds' G' ∧ At X.prog X.w H0 M ds' G' σ' H' ∧ Tu H1 H') ⟨ds, G, L.h0, at0.ex e, Tu.refl _⟩ ?_ ?_ ?_
  · rintro i σ' H' _ ⟨ds', G', j, a1, t⟩
    exact gd H' (hgm i ds' G' σ' H1 H' j a1 t)
  · rintro i x σ' H' H2 hlt ⟨ds', G', j, a1, t⟩ ⟨e2, d, hd', rd⟩
    obtain ⟨ds2, ix, hx, hb⟩ := L.hs i d ds' G' hd' j
    refine hx σ' H2 x _ (a1.lo.ex e2) rd fun σ2 l2 _ _ => ?_
    exact hb σ2 H2 _ ⟨l2, a1.sa.ex e2, a1.fr.ex e2⟩ ⟨fun ds3 G3 σ3 H3 k a3 t3 => ⟨ds3, G3, k, a3, (t.trans e2.tu).trans t3⟩, o.rt, fun ds3 G3 σ3 H3 k a3 t3 => k σ3 H3 E a3 (o.tu (((e.tu.trans t).trans e2.tu).trans t3)),
      fun ds3 G3 σ3 H3 k a3 t3 => ⟨ds3, G3, k, a3, (t.trans e2.tu).trans t3⟩⟩
  · rintro σ' H' ⟨ds', G', j, a1, t⟩
    exact L.hd ds' G' j σ' H' E a1 (o.tu (e.tu.trans t))
theorem xs_for (hi : XI X G ds tg iter dl Tu) (J : Nat → LD → GG → Prop) (L : Lp X H0 M ds G tg body rest K dl J)
    (hp : PassesOwn (model X.prog X.w) X.A X.env X.xe := by exact PassesOwn.never) (hc : X.calm = true := by rfl) (hsf : ∀ x, foldedSetIterable iter X.env x = pure x := by intro _; rfl) : XSs X H0 M ds G (.For tg iter body [] pos :: rest) K :=
  xs_forI hi J (fun _ _ _ _ _ _ _ _ t => t) L hp hc hsf
theorem xs_forC {el : List D} (hi : XI X G ds tg iter dl (fun _ H2 => CellAt X.prog X.w H2 q (.lst el))) (J : Nat → LD → GG → Prop) (hj : ∀ i ds' G', J i ds' G' → (q, Cell.lst el) ∈ G') (L : Lp X H0 M ds G tg body rest K dl J)
    (hp : PassesOwn (model X.prog X.w) X.A X.env X.xe := by exact PassesOwn.never) (hc : X.calm = true := by rfl) (hsf : ∀ x, foldedSetIterable iter X.env x = pure x := by intro _; rfl) : XSs X H0 M ds G (.For tg iter body [] pos :: rest) K :=
  xs_forI hi J (fun i ds' G' σ H1 H j a _ => a.sa.2 _ (hj i ds' G' j)) L hp hc hsf
/-- over a list that the iterable makes, a cell from then on -/
theorem xs_forW (hi : XW X H0 M ds G iter fun d G' => ∃ q dl J, d = .val (.ref q) ∧ (q, Cell.lst dl) ∈ G' ∧ (∀ i ds' G', J i ds' G' → (q, Cell.lst dl) ∈ G') ∧ Lp X H0 M ds G' tg body rest K dl J)
    (hp : PassesOwn (model X.prog X.w) X.A X.env X.xe := by exact PassesOwn.never) (hc : X.calm = true := by rfl) (hsf : ∀ x, foldedSetIterable iter X.env x = pure x := by intro _; rfl) : XSs X H0 M ds G (.For tg iter body [] pos :: rest) K := by
  intro σ H E at0 o
  refine sswp (pss_cons (ps_for hp hc piS pgS pssS hsf) pssS) ?_
  refine iwp (pi_list peS) ?_
  refine hi σ H _ at0 fun d G1 v H1 k1 a1 t1 r1 => ?_
  obtain ⟨q, dl, J, rfl, hG, hj, L⟩ := k1
  obtain ⟨xs, h1, rr⟩ := a1.sa.2 _ hG
  refine ⟨q, rp_v r1, ⟨xs, SqL.of h1⟩, ?_⟩
  refine for_it (wd_lst (dl := dl)) (fun i σ' H' => ∃ ds' G', J i ds' G' ∧ At X.prog X.w H0 M ds' G' σ' H' ∧ Tu H1 H') ⟨ds, G1, L.h0, a1, Tu.refl _⟩ ?_ ?_ ?_
  · rintro i σ' H' _ ⟨ds', G', j, a2, t⟩
    exact a2.sa.2 _ (hj i ds' G' j)
  · rintro i x σ' H' H2 hlt ⟨ds', G', j, a2, t⟩ ⟨e2, d, hd', rd⟩
    obtain ⟨ds2, ix, hx, hb⟩ := L.hs i d ds' G' hd' j
    refine hx σ' H2 x _ (a2.lo.ex e2) rd fun σ2 l2 _ _ => ?_
    exact hb σ2 H2 _ ⟨l2, a2.sa.ex e2, a2.fr.ex e2⟩ ⟨fun ds3 G3 σ3 H3 k a3 t3 => ⟨ds3, G3, k, a3, (t.trans e2.tu).trans t3⟩, o.rt, fun ds3 G3 σ3 H3 k a3 t3 => k σ3 H3 E a3 (o.tu (((t1.trans t).trans e2.tu).trans t3)),
      fun ds3 G3 σ3 H3 k a3 t3 => ⟨ds3, G3, k, a3, (t.trans e2.tu).trans t3⟩⟩
  · rintro σ' H' ⟨ds', G', j, a2, t⟩
    exact L.hd ds' G' j σ' H' E a2 (o.tu (t1.trans t))
/-- the body changes no object -/
theorem xs_forE (hi : XI X G ds tg iter dl Ex) (J : Nat → LD → GG → Prop) (h0 : J 0 ds G) (hs : ∀ H1, Fr M H0 H1 → ∀ i d ds' G', dl[i]? = some d → J i ds' G' → ∃ ds2 ix, XG X tg d ds' ds2 ix ∧ XSs X H1 [] ds2 G' body ⟨J (i + 1), K.rt, fun ds G => XSs X H0 M ds G rest K, J (i + 1)⟩)
    (hd : ∀ ds' G', J dl.length ds' G' → XSs X H0 M ds' G' rest K)
    (hp : PassesOwn (model X.prog X.w) X.A X.env X.xe := by exact PassesOwn.never) (hc : X.calm = true := by rfl) (hsf : ∀ x, foldedSetIterable iter X.env x = pure x := by intro _; rfl) : XSs X H0 M ds G (.For tg iter body [] pos :: rest) K := by
  intro σ H E at0 o
  refine sswp (pss_cons (ps_for hp hc piS pgS pssS hsf) pssS) ?_
  refine hi σ H _ at0.lo at0.sa fun J0 H1 Gd e gd w => ?_
  have back : ∀ {ds G σ H'}, At X.prog X.w H1 [] ds G σ H' → At X.prog X.w H0 M ds G σ H' := fun a => ⟨a.lo, a.sa, (at0.fr.ex e).ex a.fr.to_ex⟩
  refine for_it w (fun i σ' H' => ∃ ds' G', J i ds' G' ∧ At X.prog X.w H1 [] ds' G' σ' H') ⟨ds, G, h0, (at0.ex e).lo, (at0.ex e).sa, Fr.refl⟩ ?_ ?_ ?_
  · rintro i σ' H' _ ⟨ds', G', j, a1⟩
    exact gd H' a1.fr.to_ex
  · rintro i x σ' H' H2 hlt ⟨ds', G', j, a1⟩ ⟨e2, d, hd', rd⟩
    obtain ⟨ds2, ix, hx, hb⟩ := hs H1 (at0.fr.ex e) i d ds' G' hd' j
    refine hx σ' H2 x _ (a1.lo.ex e2) rd fun σ2 l2 _ _ => ?_
    exact hb σ2 H2 _ ⟨l2, a1.sa.ex e2, a1.fr.ex e2⟩ ⟨fun ds3 G3 σ3 H3 k a3 t3 => ⟨ds3, G3, k, a3⟩, fun d3 G3 v3 H3 k r3 s3 f3 => o.rt d3 G3 v3 H3 k r3 s3 ((at0.fr.ex e).ex f3.to_ex), fun ds3 G3 σ3 H3 k a3 t3 => k σ3 H3 E (back a3) (o.tu (e.tu.trans (Ex.tu a3.fr.to_ex))),
      fun ds3 G3 σ3 H3 k a3 t3 => ⟨ds3, G3, k, a3⟩⟩
  · rintro σ' H' ⟨ds', G', j, a1⟩
    exact hd ds' G' j σ' H' E (back a1) (o.tu (e.tu.trans (Ex.tu a1.fr.to_ex)))
/-! ### stores -/
theorem xs_fld {p4 : Pos} {value : Expr} (hv : XW X H0 M ds G value fun d G' => XE X G' ds o (.val (.ref p)) ∧ ∃ j C fs, G'[j]? = some (p, .ins C fs) ∧ Cls X.K C ∧ NoAttr X.K C f ∧ fs.length < 1000 ∧ XSs X H0 M ds (G'.set j (p, .ins C (putFD f d fs))) rest K)
    (hp : p ∈ M ∨ H0 p = none) (hs : swapsWith value (some (.Attribute o f p4)) pos.line X.env = pure false := by rfl) : XSs X H0 M ds G (.Assign [.Attribute o f p4] value pos :: rest) K := by
  intro σ H E at0 oo
  refine sswp (pss_cons (ps_fld peS peS hs) pssS) ?_
  refine hv σ H _ at0 fun d G1 v H1 k1 a1 t1 r1 => ?_
  obtain ⟨ho, j, C, fs, hj, cl, na, hz, k⟩ := k1
  refine ho σ H1 _ a1.lo a1.sa fun y H2 e2 r2 => ?_
  obtain rfl : y = .ref p := rp_v r2
  have a2 := a1.ex e2
  obtain ⟨dx, gs, h1, h2⟩ := a2.sa.get hj
  have hl : gs.length = fs.length := by simpa using congrArg List.length h2.1
  refine ⟨p, C, dx, gs, rfl, h1, cl, na, by omega, ?_⟩
  obtain ⟨a3, t3⟩ := a2.setN (o := .ins C dx (putF f v gs)) (c' := .ins C (putFD f d fs)) hj rfl hp fun t => ⟨dx, _, upd_same, fall_put ((r1.ex e2).tl t) (h2.tl t)⟩
  exact k σ _ E a3 (oo.tu ((t1.trans e2.tu).trans t3))
theorem xs_dput {value : Expr} {p4 : Pos} (hu : X.A.units + 64 < cLine) (hv : XW X H0 M ds G value fun d G' => XE X G' ds o (.val (.ref p)) ∧ ∃ n j kvs, XE X G' ds i (.int n) ∧ G'[j]? = some (p, .dk kvs) ∧ kvs.length < 100000 ∧ XSs X H0 M ds (G'.set j (p, .dk (putD kvs n d))) rest K)
    (hp : p ∈ M ∨ H0 p = none) (hs : swapsWith value (some (.Subscript o i p4)) pos.line X.env = pure false := by rfl) : XSs X H0 M ds G (.Assign [.Subscript o i p4] value pos :: rest) K := by
  intro σ H E at0 oo
  refine sswp (pss_cons (ps_dput (by omega) peS peS peS hs) pssS) ?_
  refine hv σ H _ at0 fun d G1 v H1 k1 a1 t1 r1 => ?_
  obtain ⟨ho, n, j, kvs, hi, hj, hz, k⟩ := k1
  refine ho σ H1 _ a1.lo a1.sa fun y H2 e2 r2 => ?_
  refine hi σ H2 _ (a1.lo.ex e2) (a1.sa.ex e2) fun z H3 e3 r3 => ?_
  obtain rfl : y = .ref p := rp_v r2
  obtain rfl : z = .int n := rp_i r3
  have a2 := (a1.ex e2).ex e3
  obtain ⟨vs, h1, h2, h3⟩ := a2.sa.get hj
  have hl : vs.length = kvs.length := by simpa using congrArg List.length h2
  refine ⟨p, _, rfl, DPut.k (k := Sum.inl n) h1 (by rw [sizeLine_eq]; omega), ?_⟩
  have q := prs_put inl_inj h2 h3 ((r1.ex e2).ex e3) n
  obtain ⟨a3, t3⟩ := a2.setN (o := .dK (putK vs (Sum.inl n) v)) (c' := .dk (putD kvs n d)) hj rfl hp fun t => ⟨_, upd_same, q.1, q.2.tl t⟩
  exact k σ _ E a3 (oo.tu (((t1.trans e2.tu).trans e3.tu).trans t3))
theorem xs_nput {value : Expr} {p4 : Pos} (hu : X.A.units + 64 < cLine) (hv : XW X H0 M ds G value fun d G' => XE X G' ds o (.val (.ref p)) ∧ ∃ n j kvs, XE X G' ds i (dKey n) ∧ G'[j]? = some (p, .dn kvs) ∧ kvs.length ≤ 100000 ∧ XSs X H0 M ds (G'.set j (p, .dn (putD kvs n d))) rest K)
    (hp : p ∈ M ∨ H0 p = none) (hs : swapsWith value (some (.Subscript o i p4)) pos.line X.env = pure false := by rfl) : XSs X H0 M ds G (.Assign [.Subscript o i p4] value pos :: rest) K := by
  intro σ H E at0 oo
  refine sswp (pss_cons (ps_nput hu peS peS peS hs) pssS) ?_
  refine hv σ H _ at0 fun d G1 v H1 k1 a1 t1 r1 => ?_
  obtain ⟨ho, n, j, kvs, hi, hj, hz, k⟩ := k1
  refine ho σ H1 _ a1.lo a1.sa fun y H2 e2 r2 => ?_
  refine hi σ H2 _ (a1.lo.ex e2) (a1.sa.ex e2) fun z H3 e3 r3 => ?_
  obtain rfl : y = .ref p := rp_v r2
  obtain ⟨b, rfl, hk⟩ := key_at r3
  have a2 := (a1.ex e2).ex e3
  obtain ⟨vs, h1, h2, h3⟩ := a2.sa.get hj
  have hl : vs.length = kvs.length := by simpa using congrArg List.length h2
  refine ⟨p, b, vs, n, rfl, rfl, h1, by omega, hk, fun φ hd => ?_⟩
  have q := prs_put (f := fun k : SKey => k) (fun _ _ z => z) h2 h3 ((r1.ex e2).ex e3) n
  obtain ⟨a3, t3⟩ := a2.setN (o := .ext φ) (c' := .dn (putD kvs n d)) hj rfl hp fun t => ⟨_, hd, q.1, q.2.tl t⟩
  exact k σ _ E a3 (oo.tu (((t1.trans e2.tu).trans e3.tu).trans t3))
/-! ### defs -/
def locD (N : List Str) (dl : List D) : LD := dl.map some ++ List.replicate (N.length - dl.length) none
theorem rpAll_loc {H : Hp} {dl : List D} {vs : List V} {n : Nat} (r : RpAll H dl vs) : Loc (vs.map some ++ List.replicate n none) H (dl.map some ++ List.replicate n none) := by
  have hl := r.length
  refine ⟨by simp [hl], fun j d h => ?_⟩
  by_cases hj : j < dl.length
  · rw [List.getElem?_append_left (by simpa using hj), List.getElem?_map] at h
    obtain ⟨d', h1, e⟩ := Option.map_eq_some_iff.mp h
    cases e
    obtain ⟨v, hv, q⟩ := r.get h1
    refine ⟨v, ?_, q⟩
    rw [List.getElem?_append_left (by rw [List.length_map, hl]; exact hj), List.getElem?_map, hv]
    rfl
  · rw [List.getElem?_append_right (by simpa using hj), List.getElem?_replicate] at h
    split at h <;> cases h
theorem loc_start {N : List Str} {H : Hp} {dl : List D} {vs : List V} (r : RpAll H dl vs) : Loc (L2.start N vs) H (locD N dl) := by
  unfold L2.start locD
  rw [r.length]
  exact rpAll_loc r
end
/-- the context of a def -/
abbrev bx (P : Program) (w : World) (K : PySem.W.Frag) (mg : Str → Option Value) (base : Heap) (N : List Str) (qual : Str) (st : Stmt) (f : Addr) (cdv : Value) (A : Around) (outer : List Env) (s : Shared) (H : Hp) (E : XK) : Cx := (cxOf CX0 P w K mg base N qual (defScope st) f cdv A outer s H E).nox
section
variable {P : Program} {w : World} {K : PySem.W.Frag} {mg : Str → Option Value} {base : Heap} {x q : Str} {st : Stmt} {f : Addr} {fd : FuncData} {N ps : List Str} {k : Nat}
theorem fn_P {Fs : GG → List D → D → Prop} (F : Fun K x q st f fd) (S : FnScope N ps (defScope st)) (hl : ∀ G dl d, Fs G dl d → dl.length = ps.length)
    (h : ∀ cdv A outer s H E, Room k (A.deeper (envOfC q (defScope st) s.heap.objs.size f cdv)) → ∀ G dl d, Fs G dl d → XSs (bx P w K mg base N q st f cdv A outer s H E) H [] (locD N dl) G (defBody st) ⟨fun _ _ => d = .non, fun d' _ => d' = d, fun _ _ => False, fun _ _ => False⟩) :
    FnOk P w K mg base CX0 (k + 1) f fd ps (spP P w Fs) := by
  refine F.ok S (fun vs H Q E hs => ?_) (fun cdv A outer s H vs Q E hr hs => ?_)
  · obtain ⟨G, ds, d, r, _, hF, _⟩ := hs
    rw [r.length, hl G ds d hF]
  · obtain ⟨G, ds, d, r, sa, hF, kk⟩ := hs
    refine ⟨_, pssS, ?_⟩
    refine h cdv A outer s H E hr G ds d hF (L2.start N vs) H _ ⟨loc_start r, sa, Fr.refl⟩ ⟨?_, ?_, fun _ _ _ _ z => z.elim, fun _ _ _ _ z => z.elim⟩
    · intro ds' G' σ' H' k a t
      rw [k] at kk
      exact kk .non H' a.fr.to_ex rp_non
    · intro d' G' v H' k r s f
      rw [k] at r
      exact kk v H' f.to_ex r
theorem fn_N {Fs : GG → List D → List D → Prop} (F : Fun K x q st f fd) (S : FnScope N ps (defScope st)) (hl : ∀ G dl d, Fs G dl d → dl.length = ps.length)
    (h : ∀ cdv A outer s H E, Room k (A.deeper (envOfC q (defScope st) s.heap.objs.size f cdv)) → ∀ G dl rl, Fs G dl rl → XSs (bx P w K mg base N q st f cdv A outer s H E) H [] (locD N dl) G (defBody st) ⟨fun _ _ => False, fun d' G' => ∃ p, d' = .val (.ref p) ∧ H p = none ∧ (p, Cell.lst rl) ∈ G', fun _ _ => False, fun _ _ => False⟩) :
    FnOk P w K mg base CX0 (k + 1) f fd ps (spN P w Fs) := by
  refine F.ok S (fun vs H Q E hs => ?_) (fun cdv A outer s H vs Q E hr hs => ?_)
  · obtain ⟨G, ds, d, r, _, hF, _⟩ := hs
    rw [r.length, hl G ds d hF]
  · obtain ⟨G, ds, d, r, sa, hF, kk⟩ := hs
    refine ⟨_, pssS, ?_⟩
    refine h cdv A outer s H E hr G ds d hF (L2.start N vs) H _ ⟨loc_start r, sa, Fr.refl⟩ ⟨fun _ _ _ _ z => z.elim, ?_, fun _ _ _ _ z => z.elim, fun _ _ _ _ z => z.elim⟩
    intro d' G' v H' k r s f
    obtain ⟨p, rfl, hp, hG⟩ := k
    obtain ⟨xs, h1, rr⟩ := s.2 _ hG
    obtain rfl : v = .ref p := rp_v r
    exact kk p xs H' hp f.to_ex h1 rr
theorem fn_A {R : RR} (F : Fun K x q st f fd) (S : FnScope N ps (defScope st)) (hl : ∀ G dl Kc, R G dl Kc → dl.length = ps.length)
    (h : ∀ cdv A outer s H E, Room k (A.deeper (envOfC q (defScope st) s.heap.objs.size f cdv)) → ∀ G dl Kc, R G dl Kc → XSs (bx P w K mg base N q st f cdv A outer s H E) H (G.map (·.1)) (locD N dl) G (defBody st)
      ⟨fun _ G' => ∃ Nw Gn, G' = Nw ++ Gn ∧ Gn.map (·.1) = G.map (·.1) ∧ (∀ p ∈ Nw, H p.1 = none) ∧ Kc .non Nw Gn, fun d G' => ∃ Nw Gn, G' = Nw ++ Gn ∧ Gn.map (·.1) = G.map (·.1) ∧ (∀ p ∈ Nw, H p.1 = none) ∧ Kc d Nw Gn, fun _ _ => False, fun _ _ => False⟩) :
    FnOk P w K mg base CX0 (k + 1) f fd ps (spA P w R) := by
  refine F.ok S (fun vs H Q E hs => ?_) (fun cdv A outer s H vs Q E hr hs => ?_)
  · obtain ⟨G, ds, Kc, r, _, hF, _⟩ := hs
    rw [r.length, hl G ds Kc hF]
  · obtain ⟨G, ds, Kc, r, sa, hF, kk⟩ := hs
    refine ⟨_, pssS, ?_⟩
    refine h cdv A outer s H E hr G ds Kc hF (L2.start N vs) H _ ⟨loc_start r, sa, Fr.refl⟩ ⟨?_, ?_, fun _ _ _ _ z => z.elim, fun _ _ _ _ z => z.elim⟩
    · rintro ds' G' σ' H' ⟨Nw, Gn, rfl, e, hn, kc⟩ a t
      exact kk .non Nw Gn .non H' kc e hn a.sa a.fr rp_non
    · rintro d' G' v H' ⟨Nw, Gn, rfl, e, hn, kc⟩ r s f
      exact kk d' Nw Gn v H' kc e hn s f r
end
end RS
end TxtL7

section TxtL8
set_option Elab.async false
set_option linter.all false
set_option maxRecDepth 100000
set_option maxHeartbeats 1000000
/-! more tests -/
namespace RS
open PySem PySem.Spec PyProof.Rows L2
section
variable {X : Cx} {ds : LD} {G : GG} {a b c o i : Expr} {pos p2 : Pos} {d : D} {p : Addr}
theorem t_din {kvs : List (Int × D)} {n : Int} (hu : X.A.units + 64 < cLine) (hi : XE X G ds i (.int n)) (ho : XE X G ds o (.val (.ref p))) (hG : (p, Cell.dk kvs) ∈ G) (hm : behindInMarks .In o = false := by rfl) : XT X G ds (.Compare i [.In] [o] pos) (valD kvs n).isSome := by
  intro σ H Q lo sa k
  refine twp (pt_cmp (pc_din (by omega) peS peS) hm) ?_
  refine hi σ H _ lo sa fun y H1 e1 ry => ?_
  refine ho σ H1 _ (lo.ex e1) (sa.ex e1) fun x H2 e2 rx => ?_
  obtain rfl : x = .ref p := rp_v rx
  obtain rfl : y = .int n := rp_i ry
  rcases dk_get (n := n) ((sa.ex (e1.trans e2)).2 _ hG) with ⟨g, h2⟩ | ⟨v, d', g, h2, r⟩
  · rw [h2] at k; exact ⟨p, none, rfl, g, _, rfl, k H2 (e1.trans e2)⟩
  · rw [h2] at k; exact ⟨p, some v, rfl, g, _, rfl, k H2 (e1.trans e2)⟩
theorem t_dnotin {kvs : List (Int × D)} {n : Int} (hu : X.A.units + 64 < cLine) (hi : XE X G ds i (.int n)) (ho : XE X G ds o (.val (.ref p))) (hG : (p, Cell.dk kvs) ∈ G) (hm : behindInMarks .NotIn o = false := by rfl) : XT X G ds (.Compare i [.NotIn] [o] pos) (!(valD kvs n).isSome) := by
  intro σ H Q lo sa k
  refine twp (pt_cmp (pc_dnotin (by omega) peS peS) hm) ?_
  refine hi σ H _ lo sa fun y H1 e1 ry => ?_
  refine ho σ H1 _ (lo.ex e1) (sa.ex e1) fun x H2 e2 rx => ?_
  obtain rfl : x = .ref p := rp_v rx
  obtain rfl : y = .int n := rp_i ry
  rcases dk_get (n := n) ((sa.ex (e1.trans e2)).2 _ hG) with ⟨g, h2⟩ | ⟨v, d', g, h2, r⟩
  · rw [h2] at k; exact ⟨p, none, rfl, g, _, rfl, k H2 (e1.trans e2)⟩
  · rw [h2] at k; exact ⟨p, some v, rfl, g, _, rfl, k H2 (e1.trans e2)⟩
theorem t_nnotin {kvs : List (SKey × D)} {kk : SKey} (hu : X.A.units + 64 < cLine) (hi : XE X G ds i (dKey kk)) (ho : XE X G ds o (.val (.ref p))) (hG : (p, Cell.dn kvs) ∈ G) (hm : behindInMarks .NotIn o = false := by rfl) : XT X G ds (.Compare i [.NotIn] [o] pos) (!(valD kvs kk).isSome) := by
  intro σ H Q lo sa k
  refine twp (pt_cmp (pc_nnotin hu peS peS) hm) ?_
  refine hi σ H _ lo sa fun y H1 e1 ry => ?_
  refine ho σ H1 _ (lo.ex e1) (sa.ex e1) fun x H2 e2 rx => ?_
  obtain rfl : x = .ref p := rp_v rx
  obtain ⟨b, rfl, hk⟩ := key_at (ry.ex e2)
  obtain ⟨vs, hd, _, h⟩ := dn_val ((sa.ex (e1.trans e2)).2 _ hG) kk
  rcases h with ⟨h1, h2⟩ | ⟨v, d', h1, h2, r⟩
  · refine ⟨p, b, vs, kk, rfl, rfl, hd, hk, ?_⟩
    rw [h1]
    rw [h2] at k
    exact ⟨_, rfl, k H2 (e1.trans e2)⟩
  · refine ⟨p, b, vs, kk, rfl, rfl, hd, hk, ?_⟩
    rw [h1]
    rw [h2] at k
    exact ⟨_, rfl, k H2 (e1.trans e2)⟩
def isNone : D → Bool
  | .non => true
  | _ => false
theorem rp_isN {H : Hp} {x : V} (r : Rp H d x) (hd : ∀ v, d ≠ .val v) : (match x with | .non => true | _ => false) = isNone d := by
  cases d with
  | non => rw [Rp] at r; subst r; rfl
  | bl b => rw [Rp] at r; subst r; rfl
  | int i => rw [Rp] at r; subst r; rfl
  | str i => rw [Rp] at r; subst r; rfl
  | tup i => rw [Rp] at r; obtain ⟨_, _, rfl, _⟩ := r; rfl
  | lst i => rw [Rp] at r; obtain ⟨_, _, rfl, _⟩ := r; rfl
  | val v => exact absurd rfl (hd v)
theorem t_isN (ha : XE X G ds a d) (hd : ∀ v, d ≠ .val v) {j} : XT X G ds (.Compare a [.Is] [.Constant .none j p2] pos) (isNone d) := by
  intro σ H Q l s k
  refine twp (pt_cmp (pc_isN peS)) ?_
  refine ha σ H _ l s fun x H1 e1 rx => ?_
  refine ⟨isNone d, ?_, k H1 e1⟩
  have := rp_isN rx hd
  rw [← this]
  cases x <;> rfl
theorem t_notN (ha : XE X G ds a d) (hd : ∀ v, d ≠ .val v) {j} : XT X G ds (.Compare a [.IsNot] [.Constant .none j p2] pos) (!isNone d) := by
  intro σ H Q l s k
  refine twp (pt_cmp (pc_notN peS)) ?_
  refine ha σ H _ l s fun x H1 e1 rx => ?_
  refine ⟨!isNone d, ?_, k H1 e1⟩
  have := rp_isN rx hd
  rw [← this]
  cases x <;> rfl
theorem t_chainI {op op' : CmpOp} {f g : Int → Int → Bool} {i j k : Int} (ho : OpR X (compareOp op) (rI0 fun i j => .bl (f i j))) (ho' : OpR X (compareOp op') (rI0 fun i j => .bl (g i j)))
    (ha : XE X G ds a (.int i)) (hb : XE X G ds b (.int j)) (hc : XE X G ds c (.int k)) (hm : lastMarks [op, op'] [b, c] = false := by with_unfolding_all rfl) : XT X G ds (.Compare a [op, op'] [b, c] pos) (f i j && g j k) := by
  intro σ H Q l s kk
  refine twp (pt_chain ho ho' peS peS peS hm) ?_
  refine ha σ H _ l s fun x H1 e1 rx => ?_
  refine hb σ H1 _ (l.ex e1) (s.ex e1) fun y H2 e2 ry => ?_
  rw [rp_i rx, rp_i ry]
  refine ⟨i, j, rfl, rfl, f i j, rfl, ?_⟩
  cases hf : f i j with
  | true =>
    rw [hf, Bool.true_and] at kk
    refine hc σ H2 _ (l.ex (e1.trans e2)) (s.ex (e1.trans e2)) fun z H3 e3 rz => ?_
    rw [rp_i rz]
    exact ⟨j, k, rfl, rfl, _, rfl, kk H3 ((e1.trans e2).trans e3)⟩
  | false =>
    rw [hf, Bool.false_and] at kk
    exact iteF ⟨false, rfl, kk H2 (e1.trans e2)⟩
/-- name = [.. for .. if c], nothing passes -/
theorem xs_setLc0 {H0 : Hp} {M : List Addr} {K : AK} {rest : List Stmt} (i : Nat) {y : Str} {elt tg iter c : Expr} {scope : Scope} {py spos : Pos} {dl : List D} {te : TE} (own : List (Str × Nat)) (hN : X.N.Nodup) (hi : XI X G ds tg iter dl Ex) (ok : BlkOk X.N X.env.scope scope own)
    (he : ∀ (k : Nat) d, dl[k]? = some d → ∃ ds' ix, (∀ j ∈ ix, j ∈ own.map (·.2)) ∧ ∀ s H C cl fp, XG (Cx.bk X scope s H C cl fp) tg d (wipeD ds (own.map (·.2))) ds' ix ∧ XT (Cx.bk X scope s H C cl fp) G ds' c false)
    (hE : ∀ s H C cl fp, PE (Cx.bk X scope s H C cl fp) elt te) (hk : XSs X H0 M (ds.set i (some (.lst []))) G rest K)
    (hy : X.N[i]? = some y := by rfl) (hyl : X.env.scope.names.lookup y = some .local := by rfl) (hsw : swapsWith (.ListComp elt [⟨tg, iter, [c], 0⟩] scope pos) (some (.Name y py)) spos.line X.env = pure true := by rfl)
    (hc : X.calm = true := by rfl) (hs : ∀ x, foldedSetIterable iter X.env x = pure x := by intro _; rfl) : XSs X H0 M ds G (.Assign [.Name y py] (.ListComp elt [⟨tg, iter, [c], 0⟩] scope pos) spos :: rest) K := by
  intro σ H E a o
  refine sswp (pss_cons (ps_setLc (own := own) (wi := wpI X tg iter) (g := tBG X scope tg) (tt := tBT X scope c) (te := te) hc hN hy hyl hsw piS ok
    (fun s H C cl fp => ⟨fun pins s' σ H' v u Q I r h => (h s H C cl fp).run pins s' u I r⟩) (fun s H C cl fp => pts_one ⟨fun pins s' σ H' Q I h => (h s H C cl fp).run pins s' I⟩) hE hs) pssS) ?_
  show tLc (wpI X tg iter) (tBG X scope tg) (tBT X scope c) te (own.map (·.2)) σ H (fun x H1 => gName i x σ H1 (wpSs X rest E))
  refine lc0_read hi he a.lo a.sa fun p xs H' hp e h1 r => ?_
  exact hk (σ.set i (some (.ref p))) H' E ⟨(a.lo.ex e).set (rp_lst h1 r), a.sa.ex e, a.fr.ex e⟩ (o.tu e.tu)
/-- a constant of the module -/
theorem xgi {x : Str} {n : Int} (hm : ∃ t, X.mg x = some (.int n t)) (hg : Gl X x := by rfl) (hd : (x == ("__debug__" : Str)) = false := by decide) : XE X G ds (.Name x pos) (.int n) := by
  obtain ⟨t, hm⟩ := hm
  exact x_glob (v := .int n) hg hm ⟨t, rfl⟩ (fun _ => rp_int) hd
theorem xcl {k : Nat} {x : Str} {ps : List Str} {e : Expr} {es : List Expr} {dl : List D} {Fs : GG → List D → D → Prop} {G' : GG} (F : Fn0 X.prog X.w X.K X.mg X.base k x ps (spP X.prog X.w Fs)) (hr : Room k X.A) (ha : XA X G ds (e :: es) dl) (hF : Fs G' dl d) (hG : Sub G' G) (hg : Gl X x := by rfl)
    (hd : (x == ("__debug__" : Str)) = false := by decide) (he : starEach (e :: es) X.env = (false, eval e X.env) :: starEach es X.env := by rfl) (hpl : (backTo pos (starEach es X.env)).any (·.1) = false := by rfl) : XE X G ds (.Call (.Name x p2) (e :: es) [] pos) d := x_call F hr hg ha hF hG hd he hpl
theorem xncl {k : Nat} {x : Str} {ps : List Str} {e : Expr} {es : List Expr} {dl rl : List D} {Fs : GG → List D → List D → Prop} {G' : GG} (F : Fn0 X.prog X.w X.K X.mg X.base k x ps (spN X.prog X.w Fs)) (hr : Room k X.A) (ha : XA X G ds (e :: es) dl) (hF : Fs G' dl rl) (hG : Sub G' G) (hg : Gl X x := by rfl)
    (hd : (x == ("__debug__" : Str)) = false := by decide) (he : starEach (e :: es) X.env = (false, eval e X.env) :: starEach es X.env := by rfl) (hpl : (backTo pos (starEach es X.env)).any (·.1) = false := by rfl) : XN X G ds (.Call (.Name x p2) (e :: es) [] pos) rl := xn_call F hr hg ha hF hG hd he hpl
end
end RS
end TxtL8

section TxtP0
set_option Elab.async false
set_option linter.all false
set_option maxRecDepth 100000
set_option maxHeartbeats 1000000
/-! the text by places; what the walk asks of the top -/
namespace RS
open PySem PySem.Spec PyProof.Rows L2
/-- a def of the module -/
structure FunAt (K : PySem.W.Frag) (mg : Str → Option Value) (x : Str) (st : Stmt) (ps : List Str) : Prop where
  ex : ∃ f fd, Fun K x x st f fd ∧ mg x = some (.ref f) ∧ L2.Binds K fd ps []
/-- a method -/
structure MeAt (K : PySem.W.Frag) (C : Addr) (m q : Str) (st : Stmt) (ps : List Str) : Prop where
  ex : ∃ f fd, Fun K m q st f fd ∧ Meth K C m f ∧ L2.Binds K fd ps []
/-- a class with an __init__ -/
structure MkAt (K : PySem.W.Frag) (mg : Str → Option Value) (x : Str) (C : Addr) (q : Str) (st : Stmt) (ps : List Str) : Prop where
  ex : ∃ f fd, Fun K "__init__" q st f fd ∧ Mk K C f ∧ mg x = some (.ref C) ∧ L2.Binds K fd ps []
  cls : Cls K C
section
variable {P : Program} {w : World} {K : PySem.W.Frag} {mg : Str → Option Value} {base : Heap} {x q m : Str} {st : Stmt} {ps : List Str} {k : Nat} {C : Addr}
theorem FunAt.mk0 {sp : Sp} (h : FunAt K mg x st ps) (ok : ∀ f fd, Fun K x x st f fd → FnOk P w K mg base CX0 k f fd ps sp) : Fn0 P w K mg base k x ps sp := by
  obtain ⟨f, fd, F, hm, hb⟩ := h.ex
  exact ⟨f, fd, ok f fd F, hm, F.kp, hb⟩
theorem MeAt.mk0 {sp : Sp} (h : MeAt K C m q st ps) (ok : ∀ f fd, Fun K m q st f fd → FnOk P w K mg base CX0 k f fd ps sp) : Me0 P w K mg base C k m ps sp := by
  obtain ⟨f, fd, F, hm, hb⟩ := h.ex
  exact ⟨f, fd, ok f fd F, hm, hb⟩
theorem MkAt.mk0 {R : RR} (h : MkAt K mg x C q st ps) (ok : ∀ f fd, Fun K "__init__" q st f fd → FnOk P w K mg base CX0 k f fd ps (spA P w R)) : Mk0 P w K mg base k x C ps R := by
  obtain ⟨f, fd, F, hm, hg, hb⟩ := h.ex
  exact ⟨f, fd, ok f fd F, hm, hg, hb⟩
end
/-- what isinstance(x, C) of an instance of C asks -/
structure TyI (K : PySem.W.Frag) (C : Addr) : Prop where
  ha : PySem.W.findIn K (.ref C) "__class__" = some (some (.builtin "object.__class__"))
  hn : PySem.W.specialIn K (.builtin "object.__class__") "__get__" = some (some (.builtin "getset_descriptor.__get__"))
  ht : PySem.W.takesIn K (.builtin "object.__class__") = some true
  hm : PySem.W.mroIn K C (.type "object") = some true
structure Ads where
  pz : Addr
  di : Addr
  ef : Addr
  wr : Addr
  pa : Addr
  re : Addr
  ip : Addr
  is : Addr
/-- a class of exceptions with an __init__ of its own -/
structure ExAt (K : PySem.W.Frag) (mg : Str → Option Value) (x : Str) (C : Addr) (q : Str) (st : Stmt) (ps : List Str) : Prop where
  ex : ∃ f fd, Fun K "__init__" q st f fd ∧ PySem.W.findIn K (.ref C) "__init__" = some (some (.ref f)) ∧ PySem.W.typeIn K (.ref f) = some (.type "function") ∧ L2.Binds K fd ps []
  mg : mg x = some (.ref C)
  ox : OexC K C
  xf : XfC K C
structure Env (K : PySem.W.Frag) (mg : Str → Option Value) (c : Ads) : Prop where
  isinstance : mg "isinstance" = none
  int : mg "int" = none
  bool : mg "bool" = none
  tuple : mg "tuple" = none
  str : mg "str" = none
  list : mg "list" = none
  len : mg "len" = none
  all : mg "all" = none
  zip : mg "zip" = none
  enumerate : mg "enumerate" = none
  min : mg "min" = none
  max : mg "max" = none
  sum : mg "sum" = none
  sorted : mg "sorted" = none
  range : mg "range" = none
  MAX_RINGS : ∃ t, mg "MAX_RINGS" = some (.int 60 t)
  MAX_LINKS_PER_RING : ∃ t, mg "MAX_LINKS_PER_RING" = some (.int 7 t)
  MAX_LINKS : ∃ t, mg "MAX_LINKS" = some (.int 120 t)
  MAX_RULES : ∃ t, mg "MAX_RULES" = some (.int 20000 t)
  MAX_PARTS : ∃ t, mg "MAX_PARTS" = some (.int 60 t)
  MAX_DEPTH : ∃ t, mg "MAX_DEPTH" = some (.int 60 t)
  MAX_MOVES : ∃ t, mg "MAX_MOVES" = some (.int (10 ^ 60) t)
  is_integer : FunAt K mg "is_integer" (top 11) ["value"]
  is_index : FunAt K mg "is_index" (top 12) ["value", "length"]
  are_positions : FunAt K mg "are_positions" (top 13) ["value", "sizes"]
  is_link : FunAt K mg "is_link" (top 14) ["value", "size", "lower_sizes"]
  is_connected : FunAt K mg "is_connected" (top 15) ["ring"]
  first_invalid_link : FunAt K mg "first_invalid_link" (top 16) ["ring", "lower_sizes"]
  is_link_tuple : FunAt K mg "is_link_tuple" (top 17) ["value"]
  is_ring : FunAt K mg "is_ring" (top 18) ["value", "lower_sizes"]
  check_rings : FunAt K mg "check_rings" (top 19) ["value"]
  ring_sizes : FunAt K mg "ring_sizes" (top 20) ["rings"]
  check_states : FunAt K mg "check_states" (top 22) ["puzzle", "states"]
  ring_path : FunAt K mg "ring_path" (top 24) ["ring", "start", "end"]
  moves_from : FunAt K mg "moves_from" (top 27) ["rings", "state"]
  is_move : FunAt K mg "is_move" (top 28) ["value"]
  moved : FunAt K mg "moved" (top 29) ["rings", "state", "move"]
  follow_move : FunAt K mg "follow_move" (top 36) ["rings", "effect", "part"]
  follow_rule : FunAt K mg "follow_rule" (top 37) ["earlier", "effect", "part"]
  is_rule : FunAt K mg "is_rule" (top 38) ["rings", "value"]
  follow_part : FunAt K mg "follow_part" (top 39) ["rings", "earlier", "effect", "part"]
  rule_effects : FunAt K mg "rule_effects" (top 40) ["puzzle", "rules"]
  check_rules : FunAt K mg "check_rules" (top 41) ["puzzle", "rules"]
  follow : FunAt K mg "follow" (top 42) ["puzzle", "rules", "state"]
  is_reduced : FunAt K mg "is_reduced" (top 43) ["puzzle", "rules"]
  path_rules : FunAt K mg "path_rules" (top 45) ["puzzle", "start", "end"]
  draw : FunAt K mg "_law_draw" (top 49) ["_law_pool", "_law_count"]
  random_tree : FunAt K mg "_law_random_tree" (top 50) ["_law_pool", "_law_size"]
  positions : FunAt K mg "_law_positions" (top 51) ["_law_pool", "_law_puzzle"]
  random_rings : FunAt K mg "_law_random_rings" (top 52) ["_law_pool", "_law_rings", "_law_size"]
  lmoves : FunAt K mg "_law_moves" (top 53) ["_law_puzzle", "_law_state"]
  lmoved : FunAt K mg "_law_moved" (top 54) ["_law_state", "_law_move"]
  whole : FunAt K mg "_law_whole" (top 55) ["_law_value"]
  lis_state : FunAt K mg "_law_is_state" (top 56) ["_law_puzzle", "_law_value"]
  lfollow_part : FunAt K mg "_law_follow_part" (top 57) ["_law_rings", "_law_effects", "_law_current", "_law_part"]
  lis_rule : FunAt K mg "_law_is_rule" (top 58) ["_law_rings", "_law_rule"]
  lcheck : FunAt K mg "_law_check" (top 59) ["_law_rings", "_law_rules"]
  equal : FunAt K mg "_law_equal" (top 60) ["_law_result", "_law_expected"]
  invalid_state : FunAt K mg "_law_invalid_state" (top 61) ["_law_pool", "_law_puzzle", "_law_state"]
  error : FunAt K mg "_law_error" (top 62) ["_law_puzzle", "_law_start", "_law_end"]
  errors_agree : FunAt K mg "_law_errors_agree" (top 63) ["_law_pool", "_law_rings", "_law_one", "_law_other"]
  undoes : FunAt K mg "_law_undoes" (top 64) ["_law_one", "_law_other"]
  lis_reduced : FunAt K mg "_law_is_reduced" (top 65) ["_law_rules"]
  law : FunAt K mg "law" (top 66) ["_law_script"]
  Pz : MkAt K mg "Puzzle" c.pz "Puzzle.__init__" (inClass (top 21) 0) ["self", "rings"]
  Pz_rings : MeAt K c.pz "rings" "Puzzle.rings" (inClass (top 21) 1) ["self"]
  Pz_sizes : MeAt K c.pz "sizes" "Puzzle.sizes" (inClass (top 21) 2) ["self"]
  Pz_is_state : MeAt K c.pz "is_state" "Puzzle.is_state" (inClass (top 21) 4) ["self", "value"]
  Di : MkAt K mg "Distances" c.di "Distances.__init__" (inClass (top 25) 0) ["self", "rings"]
  Di_segments : MeAt K c.di "segments" "Distances.segments" (inClass (top 25) 1) ["self", "start", "end"]
  Di_between : MeAt K c.di "between" "Distances.between" (inClass (top 25) 2) ["self", "start", "end"]
  Ef : MkAt K mg "RuleEffect" c.ef "RuleEffect.__init__" (inClass (top 35) 0) ["self", "start"]
  Ef_extend : MeAt K c.ef "extend" "RuleEffect.extend" (inClass (top 35) 1) ["self", "end", "move_count", "first_move", "last_move"]
  Wr : MkAt K mg "RuleWriter" c.wr "RuleWriter.__init__" (inClass (top 44) 0) ["self", "rings"]
  Wr_parts : MeAt K c.wr "parts_between" "RuleWriter.parts_between" (inClass (top 44) 1) ["self", "start", "end"]
  Wr_write : MeAt K c.wr "write" "RuleWriter.write" (inClass (top 44) 2) ["self", "start", "end"]
  Pa : MkAt K mg "Path" c.pa "Path.__init__" (inClass (top 47) 0) ["self", "puzzle", "start", "end"]
  Pa_length : MeAt K c.pa "length" "Path.length" (inClass (top 47) 1) ["self"]
  Re_mg : mg "RingError" = some (.ref c.re)
  Re : BaseI K c.re
  Ip : ExAt K mg "InvalidPuzzle" c.ip "InvalidPuzzle.__init__" (inClass (top 3) 0) ["self", "ring", "link"]
  Is : ExAt K mg "InvalidState" c.is "InvalidState.__init__" (inClass (top 4) 0) ["self", "value"]
  ip_r : PySem.W.findIn K (.ref c.ip) "ring" = some none
  ip_l : PySem.W.findIn K (.ref c.ip) "link" = some none
  is_v : PySem.W.findIn K (.ref c.is) "value" = some none
  x_ii : PySem.W.exmOne K (.ref c.is) (.ref c.is) = some true
  x_pi : PySem.W.exmOne K (.ref c.ip) (.ref c.is) = some false
  x_pp : PySem.W.exmOne K (.ref c.ip) (.ref c.ip) = some true
  pz_i : TyI K c.pz
  pz_k : ∀ t ∈ ["NoneType", "tuple", "int", "str"], PySem.W.kitOne K (.type t) (.ref c.pz) = some false
  pz_f : NoAttr K c.pz "stored_rings"
  di_r : NoAttr K c.di "used_rings"
  di_c : NoAttr K c.di "cache"
  ef_s : NoAttr K c.ef "rule_start"
  ef_e : NoAttr K c.ef "rule_end"
  ef_n : NoAttr K c.ef "move_count"
  ef_d : NoAttr K c.ef "depth"
  ef_f : NoAttr K c.ef "first_move"
  ef_l : NoAttr K c.ef "last_move"
  ef_r : NoAttr K c.ef "reduced"
  wr_d : NoAttr K c.wr "distances"
  wr_r : NoAttr K c.wr "rules"
  wr_i : NoAttr K c.wr "indices"
  pa_p : NoAttr K c.pa "own_puzzle"
  pa_s : NoAttr K c.pa "own_start"
  pa_e : NoAttr K c.pa "own_end"
  pa_d : NoAttr K c.pa "distances"
/-! ### short forms -/
section
variable {X : Cx} {ds : LD} {G : GG} {d : D} {x : Str} {pos : Pos}
theorem xv (i : Nat) (h : ds[i]? = some (some d) := by rfl) (hN : X.N[i]? = some x := by rfl) (hv : Vis X.env.scope x := by first | exact .inl rfl | exact .inr (.inl rfl) | exact .inr (.inr rfl)) (hd : (x == ("__debug__" : Str)) = false := by decide) (hcd : (x == ("__classdict__" : Str)) = false := by decide) : XE X G ds (.Name x pos) d := x_var i h hN hv hd hcd
theorem xty (T : String) (hm : X.mg (Str.ofString T) = none) (hv : bootBuiltins (Str.ofString T) = some (.type T) := by decide +kernel) (hg : Gl X (Str.ofString T) := by rfl) (hn : Str.ofString T ≠ "__name__" := by decide) (hd : (Str.ofString T == ("__debug__" : Str)) = false := by decide) : XE X G ds (.Name (Str.ofString T) pos) (.val (.ty T)) := x_bltn hg hm hv rfl hn hd
end
end RS
end TxtP0

section TxtM0
set_option Elab.async false
set_option linter.all false
set_option maxRecDepth 100000
set_option maxHeartbeats 1000000
/-! data of the program as lists of ints -/
namespace RS
open PySem PySem.Spec PyProof.Rows L2
abbrev Lk := Int × Int × List Int
abbrev Rg := List Lk
abbrev Pz := List Rg
def dL (l : Lk) : D := .tup [.int l.1, .int l.2.1, dS l.2.2]
def dR (r : Rg) : D := .tup (r.map dL)
def dP (p : Pz) : D := .tup (p.map dR)
def dI (ns : List Int) : D := .lst (ns.map .int)
def nv : D → Bool
  | .val _ => false
  | _ => true
def isInt : D → Bool
  | .int _ => true
  | _ => false
def isBl : D → Bool
  | .bl _ => true
  | _ => false
def isTup : D → Bool
  | .tup _ => true
  | _ => false
/-- not a given value, and its items neither -/
def nvs : D → Bool
  | .val _ => false
  | .tup ds => ds.all nv
  | _ => true
theorem nvs_nv {d : D} (h : nvs d = true) : nv d = true := by cases d <;> first | rfl | cases h
def idx (d : D) (n : Int) : Bool := match d with
  | .int i => decide (0 ≤ i) && decide (i < n)
  | _ => false
def posOk (d : D) (ns : List Int) : Bool := match d with
  | .tup ds => ds.length == ns.length && (List.zipWith idx ds ns).all id
  | _ => false
/-- a state by its sizes -/
def okS (s : List Int) (ns : List Int) : Prop := s.length = ns.length ∧ ∀ (i : Nat) a n, s[i]? = some a → ns[i]? = some n → 0 ≤ a ∧ a < n
theorem posOk_dS {s ns : List Int} : posOk (dS s) ns = true ↔ okS s ns := by
  unfold dS posOk okS
  simp only [Bool.and_eq_true, beq_iff_eq, List.length_map, List.all_eq_true]
  constructor
  · rintro ⟨h1, h2⟩
    refine ⟨h1, fun i a n ha hn => ?_⟩
    have := h2 (idx (.int a) n) (List.mem_iff_getElem?.mpr ⟨i, by rw [List.getElem?_zipWith, List.getElem?_map, ha, hn]; rfl⟩)
    simpa [idx] using this
  · rintro ⟨h1, h2⟩
    refine ⟨h1, fun b hb => ?_⟩
    obtain ⟨i, hi⟩ := List.mem_iff_getElem?.mp hb
    rw [List.getElem?_zipWith, List.getElem?_map] at hi
    cases ha : s[i]? with
    | none => rw [ha] at hi; simp at hi
    | some a =>
      cases hn : ns[i]? with
      | none => rw [ha, hn] at hi; simp at hi
      | some n =>
        rw [ha, hn] at hi
        have := h2 i a n ha hn
        simp [idx] at hi
        rw [← hi]
        simpa [idx] using this
theorem nvs_dS {s : List Int} : nvs (dS s) = true := by
  unfold dS nvs
  simp [nv]
@[simp] theorem tpAll_ints {s : List Int} : tpAll (s.map D.int) = true := by
  induction s with
  | nil => rfl
  | cons a s ih => rw [List.map_cons, tpAll, ih]; rfl
@[simp] theorem tp_dS {s : List Int} : tp (dS s) = true := by unfold dS; rw [tp]; exact tpAll_ints
@[simp] theorem tp_dL {l : Lk} : tp (dL l) = true := by unfold dL; rw [tp, tpAll, tpAll, tpAll, tp_dS]; rfl
theorem tpAll_map {α : Type} {f : α → D} (h : ∀ a, tp (f a) = true) : ∀ l : List α, tpAll (l.map f) = true
  | [] => rfl
  | a :: l => by rw [List.map_cons, tpAll, h a, tpAll_map h l]; rfl
@[simp] theorem tp_dR {r : Rg} : tp (dR r) = true := by unfold dR; rw [tp]; exact tpAll_map (fun _ => tp_dL) r
@[simp] theorem tp_dP {p : Pz} : tp (dP p) = true := by unfold dP; rw [tp]; exact tpAll_map (fun _ => tp_dR) p
@[simp] theorem tp_int {i : Int} : tp (.int i) = true := rfl
@[simp] theorem tp_bl {i : Bool} : tp (.bl i) = true := rfl
@[simp] theorem tp_non : tp .non = true := rfl
@[simp] theorem tp_str {i} : tp (.str i) = true := rfl
@[simp] theorem tp_val {v : V} : tp (.val v) = true := rfl
@[simp] theorem tp_tup {ds : List D} : tp (.tup ds) = tpAll ds := by rw [tp]
@[simp] theorem tpAll_nil : tpAll [] = true := rfl
@[simp] theorem tpAll_cons {d : D} {ds : List D} : tpAll (d :: ds) = (tp d && tpAll ds) := rfl
@[simp] theorem tpAll_bls {s : List Bool} : tpAll (s.map D.bl) = true := tpAll_map (fun _ => rfl) s
/-! ### walks: short forms -/
section
variable {X : Cx} {H0 : Hp} {M : List Addr} {ds : LD} {G : GG} {a b c : Expr} {K : AK} {pos p2 : Pos} {rest x1 : List Stmt} {i j : Int} {d da : D} {dl : List D} {ix : List Nat} {tg : Expr}
theorem deq_int : deq (.int i) (.int j) = decide (i = j) := by
  unfold deq
  rw [py, py]
  simp [PyData.eqv]
  try (by_cases h : i = j <;> simp [h])
theorem t_neI (hu : X.A.units + 64 < cLine) (ha : XE X G ds a (.int i)) (hb : XE X G ds b (.int j)) : XT X G ds (.Compare a [.NotEq] [b] pos) (!decide (i = j)) := (t_ne hu ha hb rfl rfl).to (by rw [deq_int])
theorem t_eqI (hu : X.A.units + 64 < cLine) (ha : XE X G ds a (.int i)) (hb : XE X G ds b (.int j)) : XT X G ds (.Compare a [.Eq] [b] pos) (decide (i = j)) := (t_eq hu ha hb rfl rfl).to deq_int
theorem x_neI (hu : X.A.units + 64 < cLine) (ha : XE X G ds a (.int i)) (hb : XE X G ds b (.int j)) : XE X G ds (.Compare a [.NotEq] [b] pos) (.bl (!decide (i = j))) := (x_ne hu ha hb rfl rfl).to (by rw [deq_int])
theorem x_eqI (hu : X.A.units + 64 < cLine) (ha : XE X G ds a (.int i)) (hb : XE X G ds b (.int j)) : XE X G ds (.Compare a [.Eq] [b] pos) (.bl (decide (i = j))) := (x_eq hu ha hb rfl rfl).to (by rw [deq_int])
theorem xs_if0 (hc : XT X G ds c false) (h : XSs X H0 M ds G rest K) : XSs X H0 M ds G (.If c x1 [] pos :: rest) K := xs_ifT hc (fun z => nomatch z) fun _ => xs_nil h
theorem xs_if1 {x2 : List Stmt} (hc : XT X G ds c true) (h : XSs X H0 M ds G x1 (K.wnx fun ds' G'' => XSs X H0 M ds' G'' rest K)) : XSs X H0 M ds G (.If c x1 x2 pos :: rest) K := xs_ifT hc (fun _ => h) fun z => nomatch z
theorem xgn (i : Nat) {x : Str} (hN : X.N.Nodup) (hi : X.N[i]? = some x := by rfl) (hx : L2.Loc X.env.scope x := by first | exact .inl rfl | exact .inr rfl) (hf : X.fn x = true ∨ X.env.scope.names.lookup x = some .local := by first | exact .inl rfl | exact .inr rfl) : XG X (.Name x pos) d ds (ds.set i (some d)) [i] := xg_name i hi hN hx hf
theorem blk (N : List Str) (st : Stmt) {scope : Scope} {own : List (Str × Nat)} (h : blkC N (defScope st) scope own = true) : BlkOk N (defScope st) scope own := blkOk_by h
theorem fold_take {α β : Type} {f : β → α → β} {l : List α} {i : Nat} {x : α} {b : β} (h : l[i]? = some x) : (l.take (i + 1)).foldl f b = f ((l.take i).foldl f b) x := by
  rw [take_snoc h, List.foldl_append]; rfl
theorem map_get {α β : Type} {f : α → β} {l : List α} {i : Nat} {d : β} (h : (l.map f)[i]? = some d) : ∃ x, l[i]? = some x ∧ d = f x := by
  rw [List.getElem?_map] at h
  obtain ⟨x, h1, h2⟩ := Option.map_eq_some_iff.mp h
  exact ⟨x, h1, h2.symm⟩
end
end RS
end TxtM0

section TxtP1
set_option Elab.async false
set_option linter.all false
set_option maxRecDepth 100000
set_option maxHeartbeats 1000000
namespace RS
open PySem PySem.Spec PyProof.Rows L2
section
variable {P : Program} {w : World} {K : PySem.W.Frag} {mg : Str → Option Value} {base : Heap} {c : Ads}
def F_is_integer (G : GG) (dl : List D) (d : D) : Prop := ∃ v, dl = [v] ∧ nv v = true ∧ d = .bl (isInt v)
theorem sc_is_integer : FnScope ["value"] ["value"] (defScope (top 11)) := ⟨rfl, rfl, rfl, by decide +kernel, rfl, by decide +kernel, by decide +kernel⟩
theorem ok_is_integer (T : Env K mg c) : Fn0 P w K mg base 1 "is_integer" ["value"] (spP P w F_is_integer) := T.is_integer.mk0 fun f fd F => fn_P F sc_is_integer (fun G dl d h => by obtain ⟨v, rfl, _⟩ := h; rfl) fun cdv A outer s H E hr G dl d hF => by
  obtain ⟨v, rfl, hv, rfl⟩ := hF
  refine xs_ret (xw_e (XE.to (x_and (x_isi (t := (tyN v).getD "") (T := "int") (c := isInt v || isBl v) T.isinstance (xv 0) (xty "int" T.int) (by cases v <;> first | rfl | cases hv) (by cases v <;> first | rfl | cases hv)) fun _ => x_one (x_not (x_isi (t := (tyN v).getD "") (T := "bool") (c := isBl v) T.isinstance (xv 0) (xty "bool" T.bool) (by cases v <;> first | rfl | cases hv) (by cases v <;> first | rfl | cases hv)))) ?_) rfl)
  cases v <;> rfl
end
end RS
end TxtP1

section TxtP2
set_option Elab.async false
set_option linter.all false
set_option maxRecDepth 100000
set_option maxHeartbeats 1000000
namespace RS
open PySem PySem.Spec PyProof.Rows L2
section
variable {P : Program} {w : World} {K : PySem.W.Frag} {mg : Str → Option Value} {base : Heap} {c : Ads}
def F_is_index (G : GG) (dl : List D) (d : D) : Prop := ∃ v n, dl = [v, .int n] ∧ nv v = true ∧ d = .bl (idx v n)
theorem sc_is_index : FnScope ["value", "length"] ["value", "length"] (defScope (top 12)) := ⟨rfl, rfl, rfl, by decide +kernel, rfl, by decide +kernel, by decide +kernel⟩
theorem ok_is_index (T : Env K mg c) : Fn0 P w K mg base 2 "is_index" ["value", "length"] (spP P w F_is_index) := T.is_index.mk0 fun f fd F => fn_P F sc_is_index (fun G dl d h => by obtain ⟨v, n, rfl, _⟩ := h; rfl) fun cdv A outer s H E hr G dl d hF => by
  obtain ⟨v, n, rfl, hv, rfl⟩ := hF
  cases hi : isInt v with
  | true =>
    cases v with
    | int i => exact xs_ret (xw_e (XE.to (x_and (x_call (ok_is_integer T) hr rfl (xa_cons (xv 0) xa_nil) ⟨_, rfl, rfl, rfl⟩ sub_nil) fun _ => x_one (x_chainI op_le op_lt x_int (xv 0) (xv 1))) rfl) rfl)
    | _ => cases hi
  | false => exact xs_ret (xw_e (XE.to (x_and (c' := false) (x_call (ok_is_integer T) hr rfl (xa_cons (xv 0) xa_nil) ⟨_, rfl, hv, rfl⟩ sub_nil) fun h => by rw [hi] at h; cases h) (by rw [hi]; cases v <;> first | rfl | cases hi)) rfl)
def F_are_positions (G : GG) (dl : List D) (d : D) : Prop := ∃ v ns, dl = [v, dI ns] ∧ nvs v = true ∧ ns.length ≤ 1000 ∧ d = .bl (posOk v ns)
theorem sc_are_positions : FnScope ["value", "sizes", "position", "size"] ["value", "sizes"] (defScope (top 13)) := ⟨rfl, rfl, rfl, by decide +kernel, rfl, by decide +kernel, by decide +kernel⟩
theorem ok_are_positions (T : Env K mg c) : Fn0 P w K mg base 3 "are_positions" ["value", "sizes"] (spP P w F_are_positions) := T.are_positions.mk0 fun f fd F => fn_P F sc_are_positions (fun G dl d h => by obtain ⟨v, n, rfl, _⟩ := h; rfl) fun cdv A outer s H E hr G dl d hF => by
  obtain ⟨v, ns, rfl, hv, hz, rfl⟩ := hF
  have hu := hr.units
  cases hi : isTup v with
  | true =>
    cases v with
    | tup es =>
      by_cases hl : es.length = ns.length
      · refine xs_if0 ((t_or (t_not (t_val (x_isi (c := true) T.isinstance (xv 0) (xty "tuple" T.tuple) rfl rfl))) fun _ => t_or1 (t_neI hu (x_lenT T.len (xv 0)) (x_lenL T.len (xv 1)))).T.to ?_) ?_
        · simp [hl]
        refine xs_ret (xw_e (XE.to (x_all (bs := List.zipWith idx es ns) T.all (XN.E (xn_lc (own := [("position", 2), ("size", 3)]) sc_are_positions.nd (xi_zipS T.zip (xv 0) (xv 1) (by simp [hl])) (blk ["value", "sizes", "position", "size"] (top 13) (by decide +kernel)) (by rw [List.length_map, List.length_zipWith, zipD_len (by simp [hl]), hl, Nat.min_self]) (by simp; omega) tpAll_bls ?_))) ?_) rfl)
        · intro k d r hd hrr
          unfold zipD at hd
          rw [List.getElem?_zipWith, List.getElem?_map] at hd
          obtain ⟨b, hb, rfl⟩ := map_get hrr
          rw [List.getElem?_zipWith] at hb
          cases he : es[k]? with
          | none => rw [he] at hb; simp at hb
          | some u =>
            cases hn : ns[k]? with
            | none => rw [he, hn] at hb; simp at hb
            | some n =>
              rw [he, hn] at hb hd
              cases hb
              cases hd
              refine ⟨_, _, ?_, fun s H C cl fp => ⟨xg_tup (xgs_cons (xgn 2 sc_are_positions.nd) (xgs_cons (xgn 3 sc_are_positions.nd) xgs_nil)) rfl, ?_⟩⟩
              · simp
              · refine x_call (ok_is_index T) (hr.mono (by decide)) rfl (xa_cons (xv 2) (xa_cons (xv 3) xa_nil)) ⟨u, n, rfl, ?_, rfl⟩ sub_nil
                exact List.all_eq_true.mp hv u (List.mem_of_getElem? he)
        · simp [posOk, hl]
      · refine xs_if1 ((t_or (t_not (t_val (x_isi (c := true) T.isinstance (xv 0) (xty "tuple" T.tuple) rfl rfl))) fun _ => t_or1 (t_neI hu (x_lenT T.len (xv 0)) (x_lenL T.len (xv 1)))).T.to ?_) ?_
        · simp; omega
        · refine xs_ret (xw_e x_bl ?_)
          simp [posOk, hl]
    | _ => cases hi
  | false =>
    refine xs_if1 ((t_or (c' := false) (t_not (t_val (x_isi (t := (tyN v).getD "") (c := false) T.isinstance (xv 0) (xty "tuple" T.tuple) (by cases v <;> first | rfl | cases hv) (by cases v <;> first | rfl | (cases hi; done) | (cases hv; done))))) fun h => nomatch h).T.to rfl) ?_
    refine xs_ret (xw_e x_bl ?_)
    cases v <;> first | rfl | cases hi
end
end RS
end TxtP2

section TxtP3
set_option Elab.async false
set_option linter.all false
set_option maxRecDepth 100000
set_option maxHeartbeats 1000000
namespace RS
open PySem PySem.Spec PyProof.Rows L2
section
variable {X : Cx} {ds : LD} {G : GG} {a b : Expr} {pos p2 kp : Pos} {d : D}
theorem boot_min : bootBuiltins "min" = some (.builtin "min") := by decide +kernel
theorem x_minE (hu : X.A.units + 64 < cLine) (hm : X.mg "min" = none) (ha : XE X G ds a (.lst [])) (hb : XE X G ds b d) (hg : Gl X "min" := by rfl) (hc : X.calm = true := by rfl) (hs : starEach [a] X.env = (false, eval a X.env) :: starEach [] X.env := by rfl)
    (he : backTo pos (starEach [a] X.env) = (false, eval a X.env) :: backTo pos (starEach [] X.env) := by rfl) (hpl : (backTo pos (starEach [a] X.env)).any (·.1) = false := by rfl)
    (hall : (backToKw pos (keywordEach [⟨some (Str.ofString "default"), b, kp⟩] X.env)).all (·.1.isSome) = true := by rfl) (hnone : (backToKw pos (keywordEach [⟨some (Str.ofString "default"), b, kp⟩] X.env)).any (·.1.isNone) = false := by rfl) (hks : (backToKw pos (keywordEach [⟨some (Str.ofString "default"), b, kp⟩] X.env)).filterMap (·.1) = [Str.ofString "default"] := by rfl) :
    XE X G ds (.Call (.Name "min" p2) [a] [⟨some (Str.ofString "default"), b, kp⟩] pos) d := by
  intro σ H Q l s k
  refine ewp (pe_callBK (call_minE hc (by omega)) hg hm boot_min (pa_cons peS pa_nil hs) (pk_cons peS pk_nil) (by decide) (by decide) he hpl hall hnone hks) ?_
  refine ha σ H _ l s fun v H1 e1 r1 => ?_
  refine hb σ H1 _ (l.ex e1) (s.ex e1) fun u H2 e2 r2 => ?_
  have r1 := r1.ex e2
  rw [Rp] at r1
  obtain ⟨p, xs, rfl, h1, rr⟩ := r1
  rw [RpAll] at rr
  subst rr
  exact ⟨p, u, rfl, rfl, SqL.of h1, k u H2 (e1.trans e2) r2⟩
end
/-- a valid link of a ring of n positions above positions ns -/
structure okL (l : Lk) (n : Int) (ns : List Int) : Prop where
  a0 : 0 ≤ l.1
  a1 : l.1 < n
  b0 : 0 ≤ l.2.1
  b1 : l.2.1 < n
  ne : l.1 ≠ l.2.1
  pt : okS l.2.2 ns
def addI (ks : List Int) (a : Int) : List Int := if a ∈ ks then ks else ks ++ [a]
def rstep (ks : List Int) (l : Lk) : List Int := if l.1 ∈ ks ∨ l.2.1 ∈ ks then addI (addI ks l.1) l.2.1 else ks
def reach (r : Rg) : List Int := r.foldl (fun ks _ => r.foldl rstep ks) [0]
def conn (r : Rg) : Bool := decide ((reach r).length = r.length + 1)
def trD (ks : List Int) : List (Int × D) := ks.map fun k => (k, .bl true)
theorem trD_any (ks : List Int) (a : Int) : ((trD ks).any fun kv => decide (kv.1 = a)) = decide (a ∈ ks) := by
  unfold trD
  rw [List.any_map]
  induction ks with
  | nil => simp
  | cons k ks ih =>
    rw [List.any_cons, ih]
    by_cases h : k = a
    · simp [h]
    · simp [h, Ne.symm h]
theorem trD_put (ks : List Int) (a : Int) : putD (trD ks) a (.bl true) = trD (addI ks a) := by
  unfold putD addI
  rw [trD_any]
  by_cases h : a ∈ ks
  · rw [if_pos h, decide_eq_true h, if_pos rfl]
    unfold trD
    rw [List.map_map]
    refine List.map_congr_left fun k _ => ?_
    show (if k = a then (k, D.bl true) else (k, D.bl true)) = _
    split <;> rfl
  · rw [if_neg h, decide_eq_false h, if_neg (by simp)]
    unfold trD
    rw [List.map_append]; rfl
theorem trD_val (ks : List Int) (a : Int) : (valD (trD ks) a).isSome = decide (a ∈ ks) := by
  rw [← valD_any, trD_any]
theorem addI_len (ks : List Int) (a : Int) : (addI ks a).length ≤ ks.length + 1 := by
  unfold addI; split <;> simp
theorem rstep_len (ks : List Int) (l : Lk) : (rstep ks l).length ≤ ks.length + 2 := by
  unfold rstep
  split
  · have := addI_len ks l.1; have := addI_len (addI ks l.1) l.2.1; omega
  · omega
theorem foldl_len {β : Type} {f : List Int → β → List Int} {m : Nat} (h : ∀ ks b, (f ks b).length ≤ ks.length + m) : ∀ (l : List β) (ks : List Int), (l.foldl f ks).length ≤ ks.length + m * l.length
  | [], ks => by simp
  | b :: l, ks => by
    have h1 := foldl_len h l (f ks b)
    have h2 := h ks b
    rw [List.foldl_cons, List.length_cons, Nat.mul_succ]
    omega
section
variable {P : Program} {w : World} {K : PySem.W.Frag} {mg : Str → Option Value} {base : Heap} {c : Ads}
def F_is_link (G : GG) (dl : List D) (d : D) : Prop := ∃ l n ns, dl = [dL l, .int n, dI ns] ∧ okL l n ns ∧ ns.length ≤ 1000 ∧ d = .bl true
theorem sc_is_link : FnScope ["value", "size", "lower_sizes", "one", "other", "pattern"] ["value", "size", "lower_sizes"] (defScope (top 14)) := ⟨rfl, rfl, rfl, by decide +kernel, rfl, by decide +kernel, by decide +kernel⟩
theorem ok_is_link (T : Env K mg c) : Fn0 P w K mg base 4 "is_link" ["value", "size", "lower_sizes"] (spP P w F_is_link) := T.is_link.mk0 fun f fd F => fn_P F sc_is_link (fun G dl d h => by obtain ⟨v, n, ns, rfl, _⟩ := h; rfl) fun cdv A outer s H E hr G dl d hF => by
  obtain ⟨l, n, ns, rfl, ok, hz, rfl⟩ := hF
  have hu := hr.units
  refine xs_if0 ((t_or (t_not (t_val (x_isi (c := true) T.isinstance (xv 0) (xty "tuple" T.tuple) rfl rfl))) fun _ => t_or1 (t_neI hu (x_lenT T.len (xv 0)) x_int)).T.to rfl) ?_
  refine xs_tgt (xw_e (xv 0) ⟨_, _, xg_tup (xgs_cons (xgn 3 sc_is_link.nd) (xgs_cons (xgn 4 sc_is_link.nd) (xgs_cons (xgn 5 sc_is_link.nd) xgs_nil))) rfl, ?_⟩)
  refine xs_ret (xw_e (XE.to (x_and (c' := true) (x_call (ok_is_index T) (hr.mono (by decide)) rfl (xa_cons (xv 3) (xa_cons (xv 1) xa_nil)) ⟨_, _, rfl, rfl, rfl⟩ sub_nil)
    fun _ => XE.to (x_and (c' := true) (x_call (ok_is_index T) (hr.mono (by decide)) rfl (xa_cons (xv 4) (xa_cons (xv 1) xa_nil)) ⟨_, _, rfl, rfl, rfl⟩ sub_nil)
    fun _ => XE.to (x_and (c' := true) (x_neI hu (xv 3) (xv 4))
    fun _ => XE.to (x_one (x_call (ok_are_positions T) (hr.mono (by decide)) rfl (xa_cons (xv 5) (xa_cons (xv 2) xa_nil)) ⟨_, _, rfl, nvs_dS, hz, rfl⟩ sub_nil)) ?_) ?_) ?_) ?_) rfl)
  · rw [posOk_dS.mpr ok.pt]
  · simp [ok.ne]
  · simp [idx, ok.b0, ok.b1]
  · simp [idx, ok.a0, ok.a1]
def F_is_connected (G : GG) (dl : List D) (d : D) : Prop := ∃ r : Rg, dl = [dR r] ∧ r.length ≤ 100 ∧ (∀ l ∈ r, l.1 ≠ l.2.1) ∧ d = .bl (conn r)
theorem sc_is_connected : FnScope ["ring", "reached", "attempt", "one", "other", "pattern"] ["ring"] (defScope (top 15)) := ⟨rfl, rfl, rfl, by decide +kernel, rfl, by decide +kernel, by decide +kernel⟩
theorem ok_is_connected (T : Env K mg c) : Fn0 P w K mg base 1 "is_connected" ["ring"] (spP P w F_is_connected) := T.is_connected.mk0 fun f fd F => fn_P F sc_is_connected (fun G dl d h => by obtain ⟨v, rfl, _⟩ := h; rfl) fun cdv A outer s H E hr G dl d hF => by
  obtain ⟨r, rfl, hz, hne, rfl⟩ := hF
  have hu := hr.units
  refine xs_asg 1 sc_is_connected.nd (xw_disp1 (n := 0) x_int x_bl fun q hq => ?_)
  refine xs_for (dl := r.map dL) (xi_tup (xv 0) (tpAll_map (fun _ => tp_dL) r)) (fun i ds' G' => ∃ b1 b2 b3 b4, ds' = [some (dR r), some (.val (.ref q)), b1, b2, b3, b4] ∧ G' = (q, .dk (trD ((r.take i).foldl (fun ks _ => r.foldl rstep ks) [0]))) :: G) ⟨⟨_, _, _, _, rfl, rfl⟩, ?_, ?_⟩
  · rintro i d ds' G' hd ⟨b1, b2, b3, b4, rfl, rfl⟩
    obtain ⟨l0, hl0, rfl⟩ := map_get hd
    refine ⟨_, _, xgn 2 sc_is_connected.nd, ?_⟩
    refine xs_for (dl := r.map dL) (xi_tup (xv 0) (tpAll_map (fun _ => tp_dL) r)) (fun j ds' G' => ∃ b1 b2 b3 b4, ds' = [some (dR r), some (.val (.ref q)), b1, b2, b3, b4] ∧ G' = (q, .dk (trD ((r.take j).foldl rstep ((r.take i).foldl (fun ks _ => r.foldl rstep ks) [0])))) :: G) ⟨⟨_, _, _, _, rfl, rfl⟩, ?_, ?_⟩
    · rintro j d ds' G' hd ⟨b1, b2, b3, b4, rfl, rfl⟩
      obtain ⟨l, hl, rfl⟩ := map_get hd
      refine ⟨_, _, xg_tup (xgs_cons (xgn 3 sc_is_connected.nd) (xgs_cons (xgn 4 sc_is_connected.nd) (xgs_cons (xgn 5 sc_is_connected.nd) xgs_nil))) rfl, ?_⟩
      rw [fold_take hl]
      generalize hks : (r.take j).foldl rstep ((r.take i).foldl (fun ks _ => r.foldl rstep ks) [0]) = ks
      have hlen : ks.length ≤ 50000 := by
        have h1 := foldl_len (m := 2) rstep_len (r.take j) ((r.take i).foldl (fun ks _ => r.foldl rstep ks) [0])
        have h2 := foldl_len (f := fun ks (_ : Lk) => r.foldl rstep ks) (m := 2 * r.length) (fun ks _ => foldl_len (m := 2) rstep_len r ks) (r.take i) [0]
        have h3 : (r.take j).length ≤ 100 := by rw [List.length_take]; omega
        have h4 : (r.take i).length ≤ 100 := by rw [List.length_take]; omega
        have h5 : 2 * r.length * (r.take i).length ≤ 200 * 100 := Nat.mul_le_mul (by omega) h4
        rw [hks] at h1
        simp only [List.length_singleton] at h2
        omega
      refine xs_ifT (t := decide (l.1 ∈ ks ∨ l.2.1 ∈ ks)) ((t_or (t_din hu (xv 3) (xv 1) List.mem_cons_self) fun _ => t_or1 (t_din hu (xv 4) (xv 1) List.mem_cons_self)).T.to ?_) ?_ ?_
      · rw [trD_val, trD_val]; simp
      · intro ht
        refine xs_expr (xw_update (xv 1) List.mem_cons_self (xw_disp2 (xv 3) x_bl (xv 4) x_bl fun q2 hq2 => ⟨1, _, q2, 0, _, rfl, by decide, rfl, rfl, ?_, ?_⟩) (.inr hq))
        · have : (putD [(l.1, D.bl true)] l.2.1 (D.bl true)).length ≤ 2 := by
            unfold putD; split <;> simp
          have h2 : (trD ks).length = ks.length := by unfold trD; simp
          omega
        · refine xs_weak (G' := (q, .dk (trD (rstep ks l))) :: G) (xs_nil (xs_nil ⟨_, _, _, _, rfl, rfl⟩)) rfl (fun _ _ h => h) ⟨fun h => (List.nodup_cons.mp h).2, fun p hp => ?_⟩
          have e1 : putD [(l.1, D.bl true)] l.2.1 (D.bl true) = [(l.1, D.bl true), (l.2.1, D.bl true)] := by
            unfold putD
            rw [if_neg (by simpa using hne l (List.mem_of_getElem? hl))]; rfl
          have e2 : mergeD (trD ks) (putD [(l.1, D.bl true)] l.2.1 (D.bl true)) = trD (rstep ks l) := by
            rw [e1]
            show putD (putD (trD ks) l.1 (.bl true)) l.2.1 (.bl true) = _
            rw [trD_put, trD_put, rstep, if_pos (of_decide_eq_true ht)]
          rw [e2]
          exact List.mem_cons_of_mem _ hp
      · intro ht
        refine xs_nil (xs_nil ⟨_, _, _, _, rfl, ?_⟩)
        rw [rstep, if_neg (of_decide_eq_false ht)]
    · rintro ds' G' ⟨b1, b2, b3, b4, rfl, rfl⟩
      refine xs_nil ⟨_, _, _, _, rfl, ?_⟩
      rw [fold_take hl0, List.length_map, List.take_length]
  · rintro ds' G' ⟨b1, b2, b3, b4, rfl, rfl⟩
    refine xs_ret (xw_e (XE.to (x_eqI hu (x_lenK T.len (xv 1) List.mem_cons_self) (x_add (x_lenT T.len (xv 0)) x_int)) ?_) rfl)
    have e1 : (trD (reach r)).length = (reach r).length := by unfold trD; simp
    rw [List.length_map, List.take_length, conn]
    show D.bl (decide (((trD (reach r)).length : Int) = _ + 1)) = _
    rw [e1]
    congr 1
    simp only [decide_eq_decide]
    omega
end
end RS
end TxtP3

section TxtP4
set_option Elab.async false
set_option linter.all false
set_option maxRecDepth 100000
set_option maxHeartbeats 1000000
namespace RS
open PySem PySem.Spec PyProof.Rows L2
def szs (p : Pz) : List Int := p.map fun r => (r.length : Int) + 1
/-- a valid ring above positions ns -/
structure okR (r : Rg) (ns : List Int) : Prop where
  len : r.length ≤ 7
  cn : conn r = true
  lk : ∀ l ∈ r, okL l ((r.length : Int) + 1) ns
/-- a valid puzzle -/
structure okP (p : Pz) : Prop where
  l1 : 1 ≤ p.length
  l7 : p.length ≤ 7
  rg : ∀ (i : Nat) r, p[i]? = some r → okR r (szs (p.take i))
  few : ∀ r ∈ p, r.length ≤ 3
theorem dI_snoc {ns : List Int} {n : Int} : ns.map D.int ++ [.int n] = (ns ++ [n]).map D.int := by rw [List.map_append]; rfl
theorem szs_take {p : Pz} {i : Nat} {r : Rg} (h : p[i]? = some r) : szs (p.take (i + 1)) = szs (p.take i) ++ [(r.length : Int) + 1] := by
  unfold szs
  rw [take_snoc h, List.map_append]; rfl
theorem szs_len (p : Pz) : (szs p).length = p.length := by unfold szs; simp
section
variable {P : Program} {w : World} {K : PySem.W.Frag} {mg : Str → Option Value} {base : Heap} {c : Ads}
def F_first_invalid_link (G : GG) (dl : List D) (d : D) : Prop := ∃ r ns, dl = [dR r, dI ns] ∧ (∀ l ∈ r, okL l ((r.length : Int) + 1) ns) ∧ ns.length ≤ 1000 ∧ d = .non
theorem sc_first_invalid_link : FnScope ["ring", "lower_sizes", "invalid", "index", "value"] ["ring", "lower_sizes"] (defScope (top 16)) := ⟨rfl, rfl, rfl, by decide +kernel, rfl, by decide +kernel, by decide +kernel⟩
theorem ok_first_invalid_link (T : Env K mg c) : Fn0 P w K mg base 5 "first_invalid_link" ["ring", "lower_sizes"] (spP P w F_first_invalid_link) := T.first_invalid_link.mk0 fun f fd F => fn_P F sc_first_invalid_link (fun G dl d h => by obtain ⟨v, ns, rfl, _⟩ := h; rfl) fun cdv A outer s H E hr G dl d hF => by
  obtain ⟨r, ns, rfl, ok, hz, rfl⟩ := hF
  have hu := hr.units
  refine xs_setLc0 2 [("index", 3), ("value", 4)] sc_first_invalid_link.nd (xi_enumT T.enumerate (xv 0) (tpAll_map (fun _ => tp_dL) r)).ex (blk ["ring", "lower_sizes", "invalid", "index", "value"] (top 16) (by decide +kernel)) ?_ (te := tVar 3) (fun s H C cl fp => pv 3) ?_
  · intro k d hd
    rw [enD_get] at hd
    obtain ⟨u, hu1, rfl⟩ := Option.map_eq_some_iff.mp hd
    obtain ⟨l, hl, rfl⟩ := map_get hu1
    refine ⟨_, _, ?_, fun s H C cl fp => ⟨xg_tup (xgs_cons (xgn 3 sc_first_invalid_link.nd) (xgs_cons (xgn 4 sc_first_invalid_link.nd) xgs_nil)) rfl, ?_⟩⟩
    · simp
    · refine XT.to (t_not (t_val (xcl (d := .bl true) (ok_is_link T) hr (xa_cons (xv 4) (xa_cons (x_add (x_lenT T.len (xv 0)) x_int) (xa_cons (xv 1) xa_nil))) ⟨l, _, ns, ?_, ok l (List.mem_of_getElem? hl), hz, rfl⟩ sub_nil))) rfl
      rw [List.length_map]
  · exact xs_ret (xw_e (x_minE hu T.min (xv 2) x_non) rfl)
def F_is_link_tuple (G : GG) (dl : List D) (d : D) : Prop := ∃ r : Rg, dl = [dR r] ∧ r.length ≤ 7 ∧ d = .bl true
theorem sc_is_link_tuple : FnScope ["value"] ["value"] (defScope (top 17)) := ⟨rfl, rfl, rfl, by decide +kernel, rfl, by decide +kernel, by decide +kernel⟩
theorem ok_is_link_tuple (T : Env K mg c) : Fn0 P w K mg base 1 "is_link_tuple" ["value"] (spP P w F_is_link_tuple) := T.is_link_tuple.mk0 fun f fd F => fn_P F sc_is_link_tuple (fun G dl d h => by obtain ⟨v, rfl, _⟩ := h; rfl) fun cdv A outer s H E hr G dl d hF => by
  obtain ⟨r, rfl, hz, rfl⟩ := hF
  refine xs_ret (xw_e (XE.to (x_and (x_isi (c := true) T.isinstance (xv 0) (xty "tuple" T.tuple) rfl rfl) fun _ => x_one (x_le (x_lenT T.len (xv 0)) (xgi T.MAX_LINKS_PER_RING))) ?_) rfl)
  rw [List.length_map, Bool.true_and, decide_eq_true (by omega)]
def F_is_ring (G : GG) (dl : List D) (d : D) : Prop := ∃ r ns, dl = [dR r, dI ns] ∧ okR r ns ∧ ns.length ≤ 1000 ∧ d = .bl true
theorem sc_is_ring : FnScope ["value", "lower_sizes"] ["value", "lower_sizes"] (defScope (top 18)) := ⟨rfl, rfl, rfl, by decide +kernel, rfl, by decide +kernel, by decide +kernel⟩
theorem ok_is_ring (T : Env K mg c) : Fn0 P w K mg base 6 "is_ring" ["value", "lower_sizes"] (spP P w F_is_ring) := T.is_ring.mk0 fun f fd F => fn_P F sc_is_ring (fun G dl d h => by obtain ⟨v, ns, rfl, _⟩ := h; rfl) fun cdv A outer s H E hr G dl d hF => by
  obtain ⟨r, ns, rfl, ok, hz, rfl⟩ := hF
  refine xs_ret (xw_e (XE.to (x_and (xcl (d := .bl true) (ok_is_link_tuple T) (hr.mono (by decide)) (xa_cons (xv 0) xa_nil) ⟨r, rfl, ok.len, rfl⟩ sub_nil)
    fun _ => x_and (x_isN (xcl (d := .non) (ok_first_invalid_link T) hr (xa_cons (xv 0) (xa_cons (xv 1) xa_nil)) ⟨r, ns, rfl, ok.lk, hz, rfl⟩ sub_nil) (by intro v h; cases h))
    fun _ => x_one (xcl (d := .bl (conn r)) (ok_is_connected T) (hr.mono (by decide)) (xa_cons (xv 0) xa_nil) ⟨r, rfl, by have := ok.len; omega, fun l hl => (ok.lk l hl).ne, rfl⟩ sub_nil)) ?_) rfl)
  rw [ok.cn]; rfl
def F_check_rings (G : GG) (dl : List D) (d : D) : Prop := ∃ p, dl = [dP p] ∧ G = [] ∧ okP p ∧ d = .non
theorem sc_check_rings : FnScope ["value", "sizes", "index", "ring"] ["value"] (defScope (top 19)) := ⟨rfl, rfl, rfl, by decide +kernel, rfl, by decide +kernel, by decide +kernel⟩
theorem boot_sum : bootBuiltins "sum" = some (.builtin "sum") := by decide +kernel
theorem sum_le {ns : List Int} (h : ∀ n ∈ ns, n ≤ 4) : ns.sum ≤ 4 * (ns.length : Int) := by
  induction ns with
  | nil => simp
  | cons n ns ih =>
    have h1 := h n List.mem_cons_self
    have h2 := ih fun m hm => h m (List.mem_cons_of_mem _ hm)
    simp only [List.sum_cons, List.length_cons]
    omega
theorem ok_check_rings (T : Env K mg c) : Fn0 P w K mg base 7 "check_rings" ["value"] (spP P w F_check_rings) := T.check_rings.mk0 fun f fd F => fn_P F sc_check_rings (fun G dl d h => by obtain ⟨v, rfl, _⟩ := h; rfl) fun cdv A outer s H E hr G dl d hF => by
  obtain ⟨p, rfl, rfl, ok, rfl⟩ := hF
  have hu := hr.units
  have o1 := ok.l1
  have o7 := ok.l7
  refine xs_if0 ((t_or (t_not (t_val (x_isi (c := true) T.isinstance (xv 0) (xty "tuple" T.tuple) rfl rfl))) fun _ => t_or1 (t_not (t_chainI op_le op_le x_int (x_lenT T.len (xv 0)) (xgi T.MAX_RINGS)))).T.to ?_) ?_
  · rw [List.length_map]
    simp; omega
  refine xs_asg 1 sc_check_rings.nd (xw_n (xn_lst xa_nil (by simp)) fun q hq => ?_)
  refine xs_for (dl := enD (p.map dR)) (xi_enumT T.enumerate (xv 0) (tpAll_map (fun _ => tp_dR) p)) (fun i ds' G' => ∃ b1 b2, ds' = [some (dP p), some (.val (.ref q)), b1, b2] ∧ (∀ d, b1 = some d → tp d = true) ∧ (∀ d, b2 = some d → tp d = true) ∧ G' = [(q, .lst ((szs (p.take i)).map .int))]) ⟨⟨none, none, rfl, by simp, by simp, rfl⟩, ?_, ?_⟩
  · rintro i d ds' G' hd ⟨b1, b2, rfl, hb1, hb2, rfl⟩
    rw [enD_get] at hd
    obtain ⟨u, hu1, rfl⟩ := Option.map_eq_some_iff.mp hd
    obtain ⟨r, hp, rfl⟩ := map_get hu1
    have okr := ok.rg i r hp
    have hil : (szs (p.take i)).length ≤ 7 := by rw [szs_len, List.length_take]; omega
    refine ⟨_, _, xg_tup (xgs_cons (xgn 2 sc_check_rings.nd) (xgs_cons (xgn 3 sc_check_rings.nd) xgs_nil)) rfl, ?_⟩
    refine xs_if0 ((t_not (t_val (xcl (d := .bl true) (ok_is_link_tuple T) (hr.mono (by decide)) (xa_cons (xv 3) xa_nil) ⟨r, rfl, okr.len, rfl⟩ sub_nil))).to rfl) ?_
    refine xs_if0 ((t_not (t_val (xcl (d := .bl true) (ok_is_ring T) hr (xa_cons (xv 3) (xa_cons (x_cell (xv 1) List.mem_cons_self) xa_nil)) ⟨r, _, rfl, okr, by omega, rfl⟩ sub_nil))).to rfl) ?_
    refine xs_expr (xw_append (xv 1) List.mem_cons_self (xw_e (x_add (x_lenT T.len (xv 3)) x_int) ⟨0, _, rfl, rfl, ?_, ?_, ?_⟩) (.inr hq) ?_)
    · rw [List.length_map]; omega
    · simp [gTp, cellTp]
    · refine xs_nil ⟨_, _, rfl, by simp, by simp, ?_⟩
      rw [szs_take hp, List.map_append, List.length_map]; rfl
    · simp [ldTp]
  · rintro ds' G' ⟨b1, b2, rfl, hb1, hb2, rfl⟩
    refine xs_if0 ((t_gt (x_sub (x_sum (ns := szs p) T.sum boot_sum ((x_cell (xv 1) List.mem_cons_self).to ?_)) (x_lenL T.len (x_cell (xv 1) List.mem_cons_self))) (xgi T.MAX_LINKS)).to ?_) (xs_nil rfl)
    · rw [enD_len, List.length_map, List.take_length]
    · rw [enD_len, List.length_map, List.length_map, List.take_length, decide_eq_false]
      have h1 := sum_le (ns := szs p) (by
        intro n hn
        obtain ⟨r, hr', rfl⟩ := List.mem_map.mp hn
        have := ok.few r hr'
        omega)
      have h2 := szs_len p
      omega
end
end RS
end TxtP4

section TxtP5
set_option Elab.async false
set_option linter.all false
set_option maxRecDepth 100000
set_option maxHeartbeats 1000000
namespace RS
open PySem PySem.Spec PyProof.Rows L2
section
variable {X : Cx} {ds : LD} {G : GG} {a b : Expr} {pos p2 : Pos} {l C : Addr} {fs : List (Str × D)} {d : D} {x : Str}
theorem x_isiOwn (hm : X.mg "isinstance" = none) (ha : XE X G ds a (.val (.ref l))) (hG : (l, Cell.ins C fs) ∈ G) (hb : XE X G ds b (.val (.ref C))) (cl : Cls X.K C) (ti : TyI X.K C) (hg : Gl X "isinstance" := by rfl)
    (he : starEach [a, b] X.env = (false, eval a X.env) :: starEach [b] X.env := by rfl) (hs2 : starEach [b] X.env = (false, eval b X.env) :: starEach [] X.env := by rfl) (hpl : (backTo pos (starEach [b] X.env)).any (·.1) = false := by rfl) :
    XE X G ds (.Call (.Name "isinstance" p2) [a, b] [] pos) (.bl true) := x_callB call_isi hg hm boot_isi (xa_cons ha (xa_cons hb xa_nil hs2) he) (fun vs H Q s r k => by
  obtain ⟨v, u, rfl, q, q2⟩ := rpAll2 r
  obtain rfl : v = .ref l := rp_v q
  obtain rfl : u = .ref C := rp_v q2
  obtain ⟨dx, gs, h1, _⟩ := s.2 _ hG
  refine ⟨_, _, .ref C, .ref C, true, rfl, .own C, .base (.ins h1 cl ti.ha ti.hn ti.ht ti.hm), ?_, k _ H (Same.refl H) rp_bl⟩
  unfold PySem.W.kitOne
  rw [if_pos (by simp)]) (by decide) (by decide) he hpl
theorem x_isiNo {t : String} (hm : X.mg "isinstance" = none) (ha : XE X G ds a d) (ht : tyN d = some t) (hb : XE X G ds b (.val (.ref C))) (hk : PySem.W.kitOne X.K (.type t) (.ref C) = some false) (hg : Gl X "isinstance" := by rfl)
    (he : starEach [a, b] X.env = (false, eval a X.env) :: starEach [b] X.env := by rfl) (hs2 : starEach [b] X.env = (false, eval b X.env) :: starEach [] X.env := by rfl) (hpl : (backTo pos (starEach [b] X.env)).any (·.1) = false := by rfl) :
    XE X G ds (.Call (.Name "isinstance" p2) [a, b] [] pos) (.bl false) := x_callB call_isi hg hm boot_isi (xa_cons ha (xa_cons hb xa_nil hs2) he) (fun vs H Q s r k => by
  obtain ⟨v, u, rfl, q, q2⟩ := rpAll2 r
  obtain rfl : u = .ref C := rp_v q2
  exact ⟨_, _, _, .ref C, false, rfl, .own C, tyN_is q ht, hk, k _ H (Same.refl H) rp_bl⟩) (by decide) (by decide) he hpl
/-- a class of the module as a value -/
theorem xcls (hm : X.mg x = some (.ref C)) (hg : Gl X x := by rfl) (hd : (x == ("__debug__" : Str)) = false := by decide) : XE X G ds (.Name x pos) (.val (.ref C)) := x_glob (v := .ref C) hg hm rfl (fun _ => rp_val) hd
/-- o.f, o a local -/
theorem xf {f : Str} (ha : XE X G ds a (.val (.ref l))) (hG : (l, Cell.ins C fs) ∈ G) (hc : Cls X.K C) (hn : NoAttr X.K C f) (hl : fs.lookup f = some d := by rfl)
    (hb : attributeBase a f X.env (eval a X.env) = eval a X.env := by rfl) : XE X G ds (.Attribute a f pos) d := x_fld ha hG hc hn hl hb
end
theorem MkAt.mg {K : PySem.W.Frag} {mg : Str → Option Value} {x q : Str} {C : Addr} {st : Stmt} {ps : List Str} (h : MkAt K mg x C q st ps) : mg x = some (.ref C) := by
  obtain ⟨f, fd, _, _, hm, _⟩ := h.ex
  exact hm
section
variable {P : Program} {w : World} {K : PySem.W.Frag} {mg : Str → Option Value} {base : Heap} {c : Ads}
abbrev pzC (c : Ads) (p : Pz) : Cell := .ins c.pz [("stored_rings", dP p)]
def F_ring_sizes (G : GG) (dl : List D) (rl : List D) : Prop := ∃ p, dl = [dP p] ∧ p.length ≤ 1000 ∧ rl = (szs p).map .int
theorem sc_ring_sizes : FnScope ["rings", "ring"] ["rings"] (defScope (top 20)) := ⟨rfl, rfl, rfl, by decide +kernel, rfl, by decide +kernel, by decide +kernel⟩
theorem ok_ring_sizes (T : Env K mg c) : Fn0 P w K mg base 1 "ring_sizes" ["rings"] (spN P w F_ring_sizes) := T.ring_sizes.mk0 fun f fd F => fn_N F sc_ring_sizes (fun G dl d h => by obtain ⟨v, rfl, _⟩ := h; rfl) fun cdv A outer s H E hr G dl d hF => by
  obtain ⟨p, rfl, hz, rfl⟩ := hF
  refine xs_ret (xw_n (xn_lc (own := [("ring", 1)]) sc_ring_sizes.nd (xi_tup (xv 0) (tpAll_map (fun _ => tp_dR) p)).ex (blk ["rings", "ring"] (top 20) (by decide +kernel)) (by rw [List.length_map, szs_len, List.length_map]) (by rw [List.length_map, szs_len]; omega) tpAll_ints ?_) fun q hq => ⟨q, rfl, hq, List.mem_cons_self⟩)
  intro k d r hd hr2
  obtain ⟨r0, h0, rfl⟩ := map_get hd
  obtain ⟨n, hn, rfl⟩ := map_get hr2
  unfold szs at hn
  rw [List.getElem?_map, h0] at hn
  cases hn
  refine ⟨_, _, ?_, fun s H C cl fp => ⟨xgn 1 sc_ring_sizes.nd, ?_⟩⟩
  · simp
  · exact XE.to (x_add (x_lenT T.len (xv 1)) x_int) (by rw [List.length_map])
def R_Pz (c : Ads) : RR := fun G dl Kc => ∃ y p, G = [(y, .ins c.pz [])] ∧ dl = [.val (.ref y), dP p] ∧ okP p ∧ Kc = fun d N G' => d = .non ∧ N = [] ∧ G' = [(y, pzC c p)]
theorem sc_Pz : FnScope ["self", "rings"] ["self", "rings"] (defScope (inClass (top 21) 0)) := ⟨rfl, rfl, rfl, by decide +kernel, rfl, by decide +kernel, by decide +kernel⟩
theorem ok_Pz (T : Env K mg c) : Mk0 P w K mg base 8 "Puzzle" c.pz ["self", "rings"] (R_Pz c) := T.Pz.mk0 fun f fd F => fn_A F sc_Pz (fun G dl d h => by obtain ⟨y, p, rfl, rfl, _⟩ := h; rfl) fun cdv A outer s H E hr G dl Kc hF => by
  obtain ⟨y, p, rfl, rfl, ok, rfl⟩ := hF
  refine xs_expr (xw_e (xcl (d := .non) (ok_check_rings T) hr (xa_cons (xv 1) xa_nil) ⟨p, rfl, rfl, ok, rfl⟩ sub_nil) ?_)
  refine xs_fld (xw_e (xv 1) ⟨xv 0, 0, c.pz, [], rfl, T.Pz.cls, T.pz_f, by decide, ?_⟩) (.inl (by simp))
  exact xs_nil ⟨[], _, rfl, rfl, by simp, rfl, rfl, rfl⟩
def F_Pz_rings (c : Ads) (G : GG) (dl : List D) (d : D) : Prop := ∃ y p, G = [(y, pzC c p)] ∧ dl = [.val (.ref y)] ∧ d = dP p
theorem sc_Pz_rings : FnScope ["self"] ["self"] (defScope (inClass (top 21) 1)) := ⟨rfl, rfl, rfl, by decide +kernel, rfl, by decide +kernel, by decide +kernel⟩
theorem ok_Pz_rings (T : Env K mg c) : Me0 P w K mg base c.pz 1 "rings" ["self"] (spP P w (F_Pz_rings c)) := T.Pz_rings.mk0 fun f fd F => fn_P F sc_Pz_rings (fun G dl d h => by obtain ⟨y, p, rfl, rfl, _⟩ := h; rfl) fun cdv A outer s H E hr G dl d hF => by
  obtain ⟨y, p, rfl, rfl, rfl⟩ := hF
  exact xs_ret (xw_e (xf (xv 0) List.mem_cons_self T.Pz.cls T.pz_f) rfl)
def F_Pz_sizes (c : Ads) (G : GG) (dl : List D) (rl : List D) : Prop := ∃ y p, G = [(y, pzC c p)] ∧ dl = [.val (.ref y)] ∧ p.length ≤ 1000 ∧ rl = (szs p).map .int
theorem sc_Pz_sizes : FnScope ["self"] ["self"] (defScope (inClass (top 21) 2)) := ⟨rfl, rfl, rfl, by decide +kernel, rfl, by decide +kernel, by decide +kernel⟩
theorem ok_Pz_sizes (T : Env K mg c) : Me0 P w K mg base c.pz 2 "sizes" ["self"] (spN P w (F_Pz_sizes c)) := T.Pz_sizes.mk0 fun f fd F => fn_N F sc_Pz_sizes (fun G dl d h => by obtain ⟨y, p, rfl, rfl, _⟩ := h; rfl) fun cdv A outer s H E hr G dl d hF => by
  obtain ⟨y, p, rfl, rfl, hz, rfl⟩ := hF
  exact xs_ret (xw_n (xncl (rl := (szs p).map .int) (ok_ring_sizes T) hr (xa_cons (xf (xv 0) List.mem_cons_self T.Pz.cls T.pz_f) xa_nil) ⟨p, rfl, hz, rfl⟩ sub_nil) fun q hq => ⟨q, rfl, hq, List.mem_cons_self⟩)
def F_Pz_is_state (c : Ads) (G : GG) (dl : List D) (d : D) : Prop := ∃ y p v, G = [(y, pzC c p)] ∧ dl = [.val (.ref y), v] ∧ p.length ≤ 1000 ∧ nvs v = true ∧ d = .bl (posOk v (szs p))
theorem sc_Pz_is_state : FnScope ["self", "value"] ["self", "value"] (defScope (inClass (top 21) 4)) := ⟨rfl, rfl, rfl, by decide +kernel, rfl, by decide +kernel, by decide +kernel⟩
theorem ok_Pz_is_state (T : Env K mg c) : Me0 P w K mg base c.pz 4 "is_state" ["self", "value"] (spP P w (F_Pz_is_state c)) := T.Pz_is_state.mk0 fun f fd F => fn_P F sc_Pz_is_state (fun G dl d h => by obtain ⟨y, p, v, rfl, rfl, _⟩ := h; rfl) fun cdv A outer s H E hr G dl d hF => by
  obtain ⟨y, p, v, rfl, rfl, hz, hv, rfl⟩ := hF
  exact xs_ret (xw_e (xcl (ok_are_positions T) hr (xa_cons (xv 1) (xa_cons (XN.E (xn_meth0 (rl := (szs p).map .int) (ok_Pz_sizes T) (hr.mono (by decide)) T.Pz.cls (xv 0) List.mem_cons_self rfl ⟨y, p, rfl, rfl, hz, rfl⟩ sub_refl)) xa_nil)) ⟨v, szs p, rfl, hv, by rw [szs_len]; exact hz, rfl⟩ sub_nil) rfl)
/-- the states are states: no exception -/
def F_check_states (c : Ads) (G : GG) (dl : List D) (d : D) : Prop := ∃ (y : Addr) (p : Pz) (ss : List (List Int)), G = [(y, pzC c p)] ∧ dl = [.val (.ref y), .lst (ss.map dS)] ∧ p.length ≤ 1000 ∧ (∀ t ∈ ss, okS t (szs p)) ∧ d = .non
theorem sc_check_states : FnScope ["puzzle", "states", "state"] ["puzzle", "states"] (defScope (top 22)) := ⟨rfl, rfl, rfl, by decide +kernel, rfl, by decide +kernel, by decide +kernel⟩
theorem ok_check_states (T : Env K mg c) : Fn0 P w K mg base 5 "check_states" ["puzzle", "states"] (spP P w (F_check_states c)) := T.check_states.mk0 fun f fd F => fn_P F sc_check_states (fun G dl d h => by obtain ⟨y, p, v, rfl, rfl, _⟩ := h; rfl) fun cdv A outer s H E hr G dl d hF => by
  obtain ⟨y, p, ss, rfl, rfl, hz, hv, rfl⟩ := hF
  refine xs_if0 ((t_not (t_val (x_isiOwn T.isinstance (xv 0) List.mem_cons_self (xcls T.Pz.mg) T.Pz.cls T.pz_i))).to rfl) ?_
  refine xs_forE (dl := ss.map dS) (xi_lst (xv 1)) (fun i ds' G' => ∃ b, ds' = [some (.val (.ref y)), some (.lst (ss.map dS)), b] ∧ G' = [(y, pzC c p)]) ⟨none, rfl, rfl⟩ ?_ ?_
  · rintro H1 _ i d ds' G' hd ⟨b, rfl, rfl⟩
    obtain ⟨t, ht, rfl⟩ := map_get hd
    refine ⟨_, _, xgn 2 sc_check_states.nd, ?_⟩
    refine xs_if0 ((t_not (t_val (x_meth (d := .bl (posOk (dS t) (szs p))) (ok_Pz_is_state T) hr T.Pz.cls (xv 0) List.mem_cons_self rfl (xa_cons (xv 2) xa_nil) ⟨y, p, dS t, rfl, rfl, hz, nvs_dS, rfl⟩ sub_refl))).to ?_) (xs_nil ⟨_, rfl, rfl⟩)
    rw [posOk_dS.mpr (hv t (List.mem_of_getElem? ht))]; rfl
  · rintro ds' G' ⟨b, rfl, rfl⟩
    exact xs_nil rfl
end
end RS
end TxtP5

section TxtM1
set_option Elab.async false
set_option linter.all false
set_option maxRecDepth 100000
set_option maxHeartbeats 1000000
/-! ring_path as a function of lists -/
namespace RS
open PySem PySem.Spec PyProof.Rows L2
abbrev PT0 := List (Int × List (Nat × Int))
def getP (ps : PT0) (k : Int) : Option (List (Nat × Int)) := (ps.find? fun kv => decide (kv.1 = k)).map (·.2)
def pstep2 (ps : PT0) (i : Nat) (cur fol : Int) : PT0 := match getP ps cur with
  | some l => if (getP ps fol).isNone then ps ++ [(fol, l ++ [(i, fol)])] else ps
  | none => ps
def pstep (ps : PT0) (x : Lk × Nat) : PT0 := pstep2 (pstep2 ps x.2 x.1.1 x.1.2.1) x.2 x.1.2.1 x.1.1
def ppass (r : Rg) (ps : PT0) : PT0 := r.zipIdx.foldl pstep ps
def pathsOf (r : Rg) (s : Int) : PT0 := r.foldl (fun ps _ => ppass r ps) [(s, [])]
def rpath (r : Rg) (s e : Int) : Option (List (Nat × Int)) := getP (pathsOf r s) e
def dM (x : Nat × Int) : D := .tup [.int (x.1 : Nat), .int x.2]
def dPs (ps : PT0) : List (Int × D) := ps.map fun kv => (kv.1, .lst (kv.2.map dM))
theorem dPs_val (ps : PT0) (k : Int) : valD (dPs ps) k = (getP ps k).map fun l => .lst (l.map dM) := by
  unfold valD getP dPs
  rw [List.find?_map, Option.map_map, Option.map_map]
  rfl
theorem dPs_put {ps : PT0} {k : Int} {l : List (Nat × Int)} (h : getP ps k = none) : putD (dPs ps) k (.lst (l.map dM)) = dPs (ps ++ [(k, l)]) := by
  unfold putD
  rw [valD_any, dPs_val, h]
  unfold dPs
  rw [List.map_append]; rfl
/-- the paths are not longer than the table -/
def ptOk (m : Nat) (ps : PT0) : Prop := ps.length ≤ m ∧ ∀ kv ∈ ps, kv.2.length ≤ m
theorem getP_mem {ps : PT0} {k : Int} {l : List (Nat × Int)} (h : getP ps k = some l) : (k, l) ∈ ps := by
  unfold getP at h
  obtain ⟨kv, h1, h2⟩ := Option.map_eq_some_iff.mp h
  have h3 := List.find?_some h1
  have h4 : kv.1 = k := of_decide_eq_true h3
  have h5 := List.mem_of_find?_eq_some h1
  subst h4 h2
  exact h5
theorem ptOk.step2 {m : Nat} {ps : PT0} (h : ptOk m ps) (i : Nat) (cur fol : Int) : ptOk (m + 1) (pstep2 ps i cur fol) := by
  unfold pstep2
  split
  · rename_i l hl
    split
    · refine ⟨by simp; exact h.1, fun kv hk => ?_⟩
      rcases List.mem_append.mp hk with z | z
      · have := h.2 kv z; omega
      · rw [List.mem_singleton] at z
        subst z
        have := h.2 _ (getP_mem hl)
        simp
        exact this
    · exact ⟨by have := h.1; omega, fun kv hk => by have := h.2 kv hk; omega⟩
  · exact ⟨by have := h.1; omega, fun kv hk => by have := h.2 kv hk; omega⟩
theorem ptOk.step {m : Nat} {ps : PT0} (h : ptOk m ps) (x : Lk × Nat) : ptOk (m + 2) (pstep ps x) := (h.step2 _ _ _).step2 _ _ _
theorem ptOk.fold {m : Nat} : ∀ (l : List (Lk × Nat)) {ps : PT0}, ptOk m ps → ptOk (m + 2 * l.length) (l.foldl pstep ps)
  | [], ps, h => h
  | x :: l, ps, h => by
    have := ptOk.fold l (h.step x)
    rw [List.foldl_cons, List.length_cons]
    have e : m + 2 * (l.length + 1) = m + 2 + 2 * l.length := by omega
    rw [e]; exact this
theorem ptOk.mono {m n : Nat} {ps : PT0} (h : ptOk m ps) (hn : m ≤ n) : ptOk n ps := ⟨Nat.le_trans h.1 hn, fun kv hk => Nat.le_trans (h.2 kv hk) hn⟩
theorem ptOk.fold2 {m : Nat} (r : Rg) : ∀ (l : Rg) {ps : PT0}, ptOk m ps → ptOk (m + 2 * r.length * l.length) (l.foldl (fun ps _ => ppass r ps) ps)
  | [], ps, h => h
  | x :: l, ps, h => by
    have h1 : ptOk (m + 2 * r.length) (ppass r ps) := by
      have := ptOk.fold r.zipIdx h
      rwa [List.length_zipIdx] at this
    have := ptOk.fold2 r l h1
    rw [List.foldl_cons, List.length_cons]
    have e : m + 2 * r.length * (l.length + 1) = m + 2 * r.length + 2 * r.length * l.length := by rw [Nat.mul_succ]; omega
    rw [e]; exact this
end RS
end TxtM1

section TxtP6
set_option Elab.async false
set_option linter.all false
set_option maxRecDepth 100000
set_option maxHeartbeats 1000000
namespace RS
open PySem PySem.Spec PyProof.Rows L2
section
variable {X : Cx} {ds : LD} {G : GG} {a b : Expr} {pos p2 : Pos} {d : D}
/-- list + list -/
theorem x_catL {xs ys : List D} (ha : XE X G ds a (.lst xs)) (hb : XE X G ds b (.lst ys)) (hz : xs.length + ys.length ≤ 100000) : XE X G ds (.BinOp a .Add b pos) (.lst (xs ++ ys)) := x_op op_cat ha hb fun x y H Q _ rx ry k => by
  rw [Rp] at rx ry
  obtain ⟨p, us, rfl, h1, r1⟩ := rx
  obtain ⟨q, ws, rfl, h2, r2⟩ := ry
  have l1 := r1.length
  have l2 := r2.length
  exact ⟨p, q, us, ws, rfl, rfl, h1, h2, by rw [sizeLine_eq]; omega, fun c hc => k _ _ (Ex.new hc) (rp_lst upd_same ((r1.append r2).ex (Ex.new hc)))⟩
end
section
variable {P : Program} {w : World} {K : PySem.W.Frag} {mg : Str → Option Value} {base : Heap} {c : Ads}
def F_ring_path (G : GG) (dl : List D) (d : D) : Prop := ∃ (r : Rg) (s e : Int) (l : List (Nat × Int)), dl = [dR r, .int s, .int e] ∧ r.length ≤ 7 ∧ rpath r s e = some l ∧ d = .lst (l.map dM)
theorem sc_ring_path : FnScope ["ring", "start", "end", "paths", "attempt", "index", "one", "other", "pattern", "current", "following"] ["ring", "start", "end"] (defScope (top 24)) := ⟨rfl, rfl, rfl, by decide +kernel, rfl, by decide +kernel, by decide +kernel⟩
theorem ok_ring_path (T : Env K mg c) : Fn0 P w K mg base 1 "ring_path" ["ring", "start", "end"] (spP P w F_ring_path) := T.ring_path.mk0 fun f fd F => fn_P F sc_ring_path (fun G dl d h => by obtain ⟨r, s, e, l, rfl, _⟩ := h; rfl) fun cdv A outer s H E hr G dl d hF => by
  obtain ⟨r, st, en, l, rfl, hz, hp, rfl⟩ := hF
  have hu := hr.units
  refine xs_asg 3 sc_ring_path.nd (xw_disp1 (xv 1) (XN.E (xn_lst xa_nil (by simp))) fun q hq => ?_)
  refine xs_for (dl := r.map dL) (xi_tup (xv 0) (tpAll_map (fun _ => tp_dL) r)) (fun i ds' G' => ∃ b1 b2 b3 b4 b5 b6 b7, ds' = [some (dR r), some (.int st), some (.int en), some (.val (.ref q)), b1, b2, b3, b4, b5, b6, b7] ∧ G' = (q, .dk (dPs ((r.take i).foldl (fun ps _ => ppass r ps) [(st, [])]))) :: G) ⟨⟨_, _, _, _, _, _, _, rfl, rfl⟩, ?_, ?_⟩
  · rintro i d ds' G' hd ⟨b1, b2, b3, b4, b5, b6, b7, rfl, rfl⟩
    obtain ⟨l0, hl0, rfl⟩ := map_get hd
    refine ⟨_, _, xgn 4 sc_ring_path.nd, ?_⟩
    generalize hps : (r.take i).foldl (fun ps _ => ppass r ps) [(st, [])] = ps0
    have ok0 : ptOk 200 ps0 := by
      have h1 : ptOk 1 [(st, ([] : List (Nat × Int)))] := ⟨by simp, by simp⟩
      have h2 := h1.fold2 r (r.take i)
      rw [hps] at h2
      refine h2.mono ?_
      have h3 : (r.take i).length ≤ 7 := by rw [List.length_take]; omega
      have h5 : 2 * r.length * (r.take i).length ≤ 14 * 7 := Nat.mul_le_mul (by omega) h3
      omega
    refine xs_for (dl := enD (r.map dL)) (xi_enumT T.enumerate (xv 0) (tpAll_map (fun _ => tp_dL) r)) (fun j ds' G' => ∃ b1 b2 b3 b4 b5 b6 b7, ds' = [some (dR r), some (.int st), some (.int en), some (.val (.ref q)), b1, b2, b3, b4, b5, b6, b7] ∧ G' = (q, .dk (dPs ((r.zipIdx.take j).foldl pstep ps0))) :: G) ⟨⟨_, _, _, _, _, _, _, rfl, rfl⟩, ?_, ?_⟩
    · rintro j d ds' G' hd ⟨b1, b2, b3, b4, b5, b6, b7, rfl, rfl⟩
      rw [enD_get] at hd
      obtain ⟨u, hu1, rfl⟩ := Option.map_eq_some_iff.mp hd
      obtain ⟨l1, hl1, rfl⟩ := map_get hu1
      have hzi : r.zipIdx[j]? = some (l1, j) := by rw [List.getElem?_zipIdx, hl1]; simp
      rw [fold_take hzi]
      generalize hps1 : (r.zipIdx.take j).foldl pstep ps0 = ps1
      have ok1 : ptOk 300 ps1 := by
        have h2 := ok0.fold (r.zipIdx.take j)
        rw [hps1] at h2
        refine h2.mono ?_
        have h3 : (r.zipIdx.take j).length ≤ 7 := by rw [List.length_take, List.length_zipIdx]; omega
        omega
      refine ⟨_, _, xg_tup (xgs_cons (xgn 5 sc_ring_path.nd) (xgs_cons (xg_tup (xgs_cons (xgn 6 sc_ring_path.nd) (xgs_cons (xgn 7 sc_ring_path.nd) (xgs_cons (xgn 8 sc_ring_path.nd) xgs_nil))) rfl) xgs_nil)) rfl, ?_⟩
      refine xs_for (dl := [.tup [.int l1.1, .int l1.2.1], .tup [.int l1.2.1, .int l1.1]]) (xi_tup (x_tup (xa_cons (x_tup (xa_cons (xv 6) (xa_cons (xv 7) xa_nil)) (by simp)) (xa_cons (x_tup (xa_cons (xv 7) (xa_cons (xv 6) xa_nil)) (by simp)) xa_nil)) (by simp)) rfl)
        (fun k ds' G' => ∃ b6 b7, ds' = [some (dR r), some (.int st), some (.int en), some (.val (.ref q)), b1, some (.int (j : Nat)), some (.int l1.1), some (.int l1.2.1), some (dS l1.2.2), b6, b7] ∧ G' = (q, .dk (dPs (if k = 0 then ps1 else if k = 1 then pstep2 ps1 j l1.1 l1.2.1 else pstep ps1 (l1, j)))) :: G) ⟨⟨_, _, rfl, rfl⟩, ?_, ?_⟩
      · rintro k d ds' G' hd ⟨b6, b7, rfl, rfl⟩
        have hk : ∃ n m ps, d = .tup [.int n, .int m] ∧ ptOk 500 ps ∧ ps = (if k = 0 then ps1 else if k = 1 then pstep2 ps1 j l1.1 l1.2.1 else pstep ps1 (l1, j)) ∧ (if k + 1 = 0 then ps1 else if k + 1 = 1 then pstep2 ps1 j l1.1 l1.2.1 else pstep ps1 (l1, j)) = pstep2 ps j n m := by
          match k, hd with
          | 0, hd => cases hd; exact ⟨_, _, ps1, rfl, ok1.mono (by decide), rfl, rfl⟩
          | 1, hd => cases hd; exact ⟨_, _, pstep2 ps1 j l1.1 l1.2.1, rfl, (ok1.step2 _ _ _).mono (by decide), rfl, rfl⟩
        obtain ⟨n, m, ps, rfl, okp, e1, e2⟩ := hk
        rw [← e1, e2]
        refine ⟨_, _, xg_tup (xgs_cons (xgn 9 sc_ring_path.nd) (xgs_cons (xgn 10 sc_ring_path.nd) xgs_nil)) rfl, ?_⟩
        refine xs_ifT (t := (getP ps n).isSome && !(getP ps m).isSome) ((t_and (t_din hu (xv 9) (xv 3) List.mem_cons_self) fun _ => t_and1 (t_dnotin hu (xv 10) (xv 3) List.mem_cons_self)).T.to ?_) ?_ ?_
        · rw [dPs_val, dPs_val]; simp
        · intro ht
          rw [Bool.and_eq_true] at ht
          obtain ⟨pl, hpl⟩ := Option.isSome_iff_exists.mp ht.1
          have hnm : getP ps m = none := by simpa using ht.2
          have hlen := okp.2 _ (getP_mem hpl)
          refine xs_dput hu (xw_e (x_catL (x_dget (d := .lst (pl.map dM)) hu (xv 3) List.mem_cons_self (xv 9) ?_) (XN.E (xn_lst (xa_cons (x_tup (xa_cons (xv 5) (xa_cons (xv 10) xa_nil)) (by simp)) xa_nil) (by simp))) ?_) ⟨xv 3, m, 0, _, xv 10, rfl, ?_, ?_⟩) (.inr hq)
          · rw [dPs_val, hpl]; rfl
          · rw [List.length_map]; simp; simp at hlen; omega
          · have := okp.1
            unfold dPs; rw [List.length_map]; omega
          · refine xs_nil (xs_nil ⟨_, _, rfl, ?_⟩)
            have e3 : pl.map dM ++ [D.tup [.int (j : Nat), .int m]] = (pl ++ [(j, m)]).map dM := by rw [List.map_append]; rfl
            rw [e3, dPs_put hnm]
            unfold pstep2
            rw [hpl, hnm]; rfl
        · intro ht
          refine xs_nil (xs_nil ⟨_, _, rfl, ?_⟩)
          unfold pstep2
          cases h1 : getP ps n with
          | none => rfl
          | some pl =>
            cases h2 : getP ps m with
            | none => rw [h1, h2] at ht; cases ht
            | some _ => rfl
      · rintro ds' G' ⟨b6, b7, rfl, rfl⟩
        exact xs_nil ⟨_, _, _, _, _, _, _, rfl, rfl⟩
    · rintro ds' G' ⟨b1, b2, b3, b4, b5, b6, b7, rfl, rfl⟩
      refine xs_nil ⟨_, _, _, _, _, _, _, rfl, ?_⟩
      rw [fold_take hl0, hps, enD_len, List.length_map]
      have : r.length = r.zipIdx.length := by rw [List.length_zipIdx]
      rw [this, List.take_length]; rfl
  · rintro ds' G' ⟨b1, b2, b3, b4, b5, b6, b7, rfl, rfl⟩
    refine xs_ret (xw_e (x_dget hu (xv 3) List.mem_cons_self (xv 2) ?_) rfl)
    rw [List.length_map, List.take_length, dPs_val]
    unfold rpath pathsOf at hp
    rw [hp]; rfl
end
end RS
end TxtP6

section TxtM2
set_option Elab.async false
set_option linter.all false
set_option maxRecDepth 100000
set_option maxHeartbeats 1000000
/-! places, slices; the states of a puzzle, the distance -/
namespace RS
open PySem PySem.Spec PyProof.Rows L2
section
variable {α β : Type} {xs : List α} {d : α}
theorem atI_of {i : Int} {k : Nat} (h : i = (k : Int)) (hx : xs[k]? = some d) : atI xs i = some d := by
  subst h
  have hk := (List.getElem?_eq_some_iff.mp hx).1
  unfold atI ixN
  rw [if_pos (by omega)]
  have e : (k : Int).toNat = k := Int.toNat_natCast k
  have h2 : (k : Int) < (xs.length : Int) := by omega
  simp only [e, h2, if_true]
  first | exact hx | simpa using hx
theorem atI_last (hx : xs.getLast? = some d) : atI xs (-1) = some d := by
  have hn : xs ≠ [] := fun z => by subst z; cases hx
  have hl := List.length_pos_iff.mpr hn
  unfold atI ixN
  rw [if_neg (by omega)]
  rw [List.getLast?_eq_getElem?] at hx
  have e : ((-1 : Int) + (xs.length : Int)).toNat = xs.length - 1 := by omega
  have h1 : -(xs.length : Int) ≤ -1 := by omega
  simp [h1, e, hx]
  try omega
theorem cut_dropLast : cutD xs none (some (-1)) = xs.dropLast := by
  unfold cutD
  show (xs.drop 0).take ((if (-1 : Int) < 0 then ((-1 : Int) + (xs.length : Int)).toNat else min (-1 : Int).toNat xs.length) - 0) = _
  rw [if_pos (by decide), List.dropLast_eq_take, List.drop_zero, Nat.sub_zero]
  congr 1
  omega
theorem cut_to {i : Int} {k : Nat} (h : i = (k : Int)) : cutD xs none (some i) = xs.take k := by
  subst h
  unfold cutD
  rw [HT.sIx_none, HT.sIx_nat, List.drop_zero, Nat.sub_zero, List.take_eq_take_iff]
  omega
theorem cut_from {i : Int} {k : Nat} (h : i = (k : Int)) : cutD xs (some i) none = xs.drop k := by
  subst h
  unfold cutD
  rw [HT.sIx_none, HT.sIx_nat]
  by_cases hk : k ≤ xs.length
  · rw [Nat.min_eq_left hk, List.take_of_length_le (by simp)]
  · rw [Nat.min_eq_right (by omega), List.drop_eq_nil_of_le (Nat.le_refl _), List.drop_eq_nil_of_le (by omega)]; simp
end
mutual
/-- comparable: no deeper than n -/
def sh : Nat → D → Bool
  | _, .non => true
  | _, .bl _ => true
  | _, .int _ => true
  | _, .str x => PyData.strOk x
  | 0, .tup _ => false
  | 0, .lst _ => false
  | n + 1, .tup ds => shAll n ds
  | n + 1, .lst ds => shAll n ds
  | _, .val _ => false
def shAll : Nat → List D → Bool
  | _, [] => true
  | n, d :: ds => sh n d && shAll n ds
end
mutual
theorem sh_ok : ∀ (n : Nat) (d : D), sh n d = true → pur d = true ∧ (py d).canLay0 = true ∧ (py d).depth ≤ n
  | _, .non, _ => ⟨rfl, rfl, Nat.zero_le _⟩
  | _, .bl _, _ => ⟨rfl, rfl, Nat.zero_le _⟩
  | _, .int _, _ => ⟨rfl, rfl, Nat.zero_le _⟩
  | _, .str x, h => ⟨rfl, by rw [sh] at h; exact h, Nat.zero_le _⟩
  | 0, .tup _, h => by rw [sh] at h; cases h
  | 0, .lst _, h => by rw [sh] at h; cases h
  | n + 1, .tup ds, h => by
    rw [sh] at h
    obtain ⟨h1, h2, h3⟩ := shAll_ok n ds h
    rw [pur, py]
    exact ⟨h1, h2, Nat.succ_le_succ h3⟩
  | n + 1, .lst ds, h => by
    rw [sh] at h
    obtain ⟨h1, h2, h3⟩ := shAll_ok n ds h
    rw [pur, py]
    exact ⟨h1, h2, Nat.succ_le_succ h3⟩
  | _, .val _, h => by rw [sh] at h; cases h
theorem shAll_ok : ∀ (n : Nat) (ds : List D), shAll n ds = true → purAll ds = true ∧ PyData.canLayAll0 (pyAll ds) = true ∧ PyData.depthAll (pyAll ds) ≤ n
  | _, [], _ => ⟨rfl, rfl, Nat.zero_le _⟩
  | n, d :: ds, h => by
    rw [shAll, Bool.and_eq_true] at h
    obtain ⟨h1, h2, h3⟩ := sh_ok n d h.1
    obtain ⟨g1, g2, g3⟩ := shAll_ok n ds h.2
    rw [purAll, pyAll, h1, g1]
    refine ⟨rfl, ?_, ?_⟩
    · show ((py d).canLay0 && PyData.canLayAll0 (pyAll ds)) = true
      rw [h2, g2]; rfl
    · show max (py d).depth (PyData.depthAll (pyAll ds)) ≤ n
      omega
end
theorem shp_of {n : Nat} {d : D} (hn : n ≤ 64) (h : sh n d = true) : shp d = true := by
  obtain ⟨h1, h2, h3⟩ := sh_ok n d h
  unfold shp SeqAt.shaped
  rw [h1, h2, decide_eq_true (by omega)]; rfl
theorem shAll_map {α : Type} {n : Nat} {f : α → D} (h : ∀ a, sh n (f a) = true) : ∀ l : List α, shAll n (l.map f) = true
  | [] => by rw [List.map_nil, shAll]
  | a :: l => by rw [List.map_cons, shAll, h a, shAll_map h l]; rfl
def lastI (s : List Int) : Int := s.getLastD 0
theorem last_get {s : List Int} (h : s ≠ []) : s.getLast? = some (lastI s) := by
  unfold lastI
  rw [List.getLastD_eq_getLast?, List.getLast?_eq_some_getLast h]; rfl
theorem drop_last {s : List Int} (h : s ≠ []) : s.dropLast ++ [lastI s] = s := by
  have e : lastI s = s.getLast h := by
    unfold lastI
    rw [List.getLastD_eq_getLast?, List.getLast?_eq_some_getLast h]; rfl
  rw [e]
  exact List.dropLast_concat_getLast h
theorem map_dropLast {α β : Type} (f : α → β) (l : List α) : (l.map f).dropLast = l.dropLast.map f := by
  rw [List.dropLast_eq_take, List.dropLast_eq_take, List.map_take, List.length_map]
section
variable {X : Cx} {ds : LD} {G : GG} {a b : Expr} {pos p2 p3 p4 : Pos} {s : List Int} {j : Nat}
/-- s[-1] -/
theorem x_last (ha : XE X G ds a (dS s)) (h : s ≠ []) : XE X G ds (.Subscript a (.UnaryOp .USub (.Constant (.int 1) j p2) p3) pos) (.int (lastI s)) := x_ixT ha (x_neg x_int) (atI_last (by
  rw [List.getLast?_map, last_get h]; rfl))
/-- s[:-1] -/
theorem x_init (ha : XE X G ds a (dS s)) : XE X G ds (.Subscript a (.Slice none (some (.UnaryOp .USub (.Constant (.int 1) j p2) p3)) none p4) pos) (dS s.dropLast) := XE.to (x_sl ha xo_none (xo_some (x_neg x_int))) (by
  show D.tup (cutD (s.map D.int) none (some (-1))) = _
  rw [cut_dropLast, map_dropLast]; rfl)
theorem deqAll_ints : ∀ s t : List Int, PyData.eqvAll (pyAll (s.map D.int)) (pyAll (t.map D.int)) = decide (s = t) := by
  intro s
  induction s with
  | nil => intro t; cases t <;> simp [pyAll, PyData.eqvAll]
  | cons x s ih =>
    intro t
    cases t with
    | nil => simp [pyAll, PyData.eqvAll]
    | cons y t =>
      simp only [List.map_cons, pyAll, PyData.eqvAll, ih t]
      have := deq_int (i := x) (j := y)
      unfold deq at this
      rw [this]
      by_cases h1 : x = y <;> by_cases h2 : s = t <;> simp [h1, h2]
theorem deq_dS {t : List Int} : deq (dS s) (dS t) = decide (s = t) := by
  unfold deq dS
  rw [py, py]
  show PyData.eqvAll _ _ = _
  exact deqAll_ints s t
theorem purAll_ints : ∀ s : List Int, purAll (s.map D.int) = true
  | [] => rfl
  | a :: s => by rw [List.map_cons, purAll, purAll_ints s]; rfl
theorem shp_dS : shp (dS s) = true := shp_of (n := 1) (by decide) (by
  unfold dS; rw [sh]; exact shAll_map (fun _ => by rw [sh]) s)
theorem t_eqS {t : List Int} (hu : X.A.units + 64 < cLine) (ha : XE X G ds a (dS s)) (hb : XE X G ds b (dS t)) : XT X G ds (.Compare a [.Eq] [b] pos) (decide (s = t)) := (t_eq hu ha hb shp_dS shp_dS).to deq_dS
theorem t_neS {t : List Int} (hu : X.A.units + 64 < cLine) (ha : XE X G ds a (dS s)) (hb : XE X G ds b (dS t)) : XT X G ds (.Compare a [.NotEq] [b] pos) (!decide (s = t)) := (t_ne hu ha hb shp_dS shp_dS).to (by rw [deq_dS])
end
/-! ### segments, distance -/
abbrev Sg := Nat × Int × List Int
def patAt (r : Rg) (i : Nat) : List Int := match r[i]? with
  | some l => l.2.2
  | none => []
def segsOf (p : Pz) (s e : List Int) : List Sg := match p[s.length - 1]? with
  | some r => ((rpath r (lastI s) (lastI e)).getD []).map fun x => (x.1, x.2, patAt r x.1)
  | none => []
def dSg (x : Sg) : D := .tup [.int (x.1 : Nat), .int x.2.1, dS x.2.2]
def dist (p : Pz) : Nat → List Int → List Int → Int
  | 0, _, _ => 0
  | n + 1, s, e => if lastI s = lastI e then dist p n s.dropLast e.dropLast else
      let r := (segsOf p s e).foldl (fun (a : List Int × Int) x => (x.2.2, a.2 + dist p n a.1 x.2.2 + 1)) (s.dropLast, 0)
      r.2 + dist p n r.1 e.dropLast
def trim : Nat → List Int → List Int → SKey
  | 0, s, e => (s, e)
  | n + 1, s, e => if s ≠ e ∧ lastI s = lastI e then trim n s.dropLast e.dropLast else (s, e)
/-- a state of the first n rings -/
def okSt (p : Pz) (n : Nat) (s : List Int) : Prop := okS s (szs (p.take n))
theorem okSt.len {p : Pz} {n : Nat} {s : List Int} (h : okSt p n s) (hn : n ≤ p.length) : s.length = n := by
  rw [h.1, szs_len, List.length_take]; omega
theorem okS.dropLast {s ns : List Int} (h : okS s ns) : okS s.dropLast ns.dropLast := by
  refine ⟨by rw [List.length_dropLast, List.length_dropLast, h.1], fun i a n ha hn => ?_⟩
  rw [List.getElem?_dropLast] at ha hn
  split at ha
  · split at hn
    · exact h.2 i a n ha hn
    · cases hn
  · cases ha
theorem szs_dropLast (p : Pz) (n : Nat) (h : n + 1 ≤ p.length) : (szs (p.take (n + 1))).dropLast = szs (p.take n) := by
  unfold szs
  rw [map_dropLast, List.dropLast_eq_take, List.take_take, List.length_take]
  congr 2
  omega
theorem okSt.drop {p : Pz} {n : Nat} {s : List Int} (h : okSt p (n + 1) s) (hn : n + 1 ≤ p.length) : okSt p n s.dropLast := by
  have := okS.dropLast h
  rwa [szs_dropLast p n hn] at this
theorem okSt.last {p : Pz} {n : Nat} {s : List Int} {r : Rg} (h : okSt p (n + 1) s) (hr : p[n]? = some r) : 0 ≤ lastI s ∧ lastI s < (r.length : Int) + 1 := by
  have hn := (List.getElem?_eq_some_iff.mp hr).1
  have hl := h.len (by omega)
  refine h.2 n (lastI s) _ ?_ ?_
  · unfold lastI
    rw [List.getLastD_eq_getLast?, List.getLast?_eq_getElem?, hl, Nat.add_sub_cancel, List.getElem?_eq_getElem (by omega)]; rfl
  · unfold szs
    rw [List.getElem?_map, List.getElem?_take_of_lt (by omega), hr]; rfl
end RS
end TxtM2

section TxtP7
set_option Elab.async false
set_option linter.all false
set_option maxRecDepth 100000
set_option maxHeartbeats 1000000
namespace RS
open PySem PySem.Spec PyProof.Rows L2
section
variable {P : Program} {w : World} {K : PySem.W.Frag} {mg : Str → Option Value} {base : Heap} {c : Ads}
abbrev diC (c : Ads) (p : Pz) (q : Addr) : Cell := .ins c.di [("used_rings", dP p), ("cache", .val (.ref q))]
def R_Di (c : Ads) : RR := fun G dl Kc => ∃ y p, G = [(y, .ins c.di [])] ∧ dl = [.val (.ref y), dP p] ∧ Kc = fun d N G' => d = .non ∧ ∃ q, N = [(q, .dn [])] ∧ G' = [(y, diC c p q)]
theorem sc_Di : FnScope ["self", "rings"] ["self", "rings"] (defScope (inClass (top 25) 0)) := ⟨rfl, rfl, rfl, by decide +kernel, rfl, by decide +kernel, by decide +kernel⟩
theorem ok_Di (T : Env K mg c) : Mk0 P w K mg base 1 "Distances" c.di ["self", "rings"] (R_Di c) := T.Di.mk0 fun f fd F => fn_A F sc_Di (fun G dl d h => by obtain ⟨y, p, rfl, rfl, _⟩ := h; rfl) fun cdv A outer s H E hr G dl Kc hF => by
  obtain ⟨y, p, rfl, rfl, rfl⟩ := hF
  refine xs_fld (xw_e (xv 1) ⟨xv 0, 0, c.di, [], rfl, T.Di.cls, T.di_r, by decide, ?_⟩) (.inl (by simp))
  refine xs_fld (xw_nnew fun q hq => ⟨xv 0, 1, c.di, _, rfl, T.Di.cls, T.di_c, by simp [putFD], ?_⟩) (.inl (by simp))
  refine xs_nil ⟨[(q, .dn [])], _, rfl, rfl, ?_, rfl, q, rfl, rfl⟩
  intro p' hp'
  rw [List.mem_singleton] at hp'
  subst hp'
  exact hq
/-- a ring and a path in it -/
def okSg (p : Pz) (s e : List Int) : Prop := ∃ n r l, s.length = n + 1 ∧ e ≠ [] ∧ p[n]? = some r ∧ r.length ≤ 7 ∧ rpath r (lastI s) (lastI e) = some l ∧ l.length ≤ 1000 ∧ ∀ x ∈ l, x.1 < r.length
def F_segments (c : Ads) (G : GG) (dl : List D) (rl : List D) : Prop := ∃ y p q s e, G = [(y, diC c p q)] ∧ dl = [.val (.ref y), dS s, dS e] ∧ okSg p s e ∧ rl = (segsOf p s e).map dSg
theorem sc_segments : FnScope ["self", "start", "end", "ring", "index", "position"] ["self", "start", "end"] (defScope (inClass (top 25) 1)) := ⟨rfl, rfl, rfl, by decide +kernel, rfl, by decide +kernel, by decide +kernel⟩
theorem ok_segments (T : Env K mg c) : Me0 P w K mg base c.di 2 "segments" ["self", "start", "end"] (spN P w (F_segments c)) := T.Di_segments.mk0 fun f fd F => fn_N F sc_segments (fun G dl d h => by obtain ⟨y, p, q, s, e, rfl, rfl, _⟩ := h; rfl) fun cdv A outer s H E hr G dl d hF => by
  obtain ⟨y, p, q, st, en, rfl, rfl, ⟨n, r, l, hl, he, hp, hr7, hrp, hl1, hx⟩, rfl⟩ := hF
  have hst : st ≠ [] := fun z => by subst z; cases hl
  refine xs_asg 3 sc_segments.nd (xw_e (x_ixT (d := dR r) (xf (xv 0) List.mem_cons_self T.Di.cls T.di_r) (x_sub (x_lenT T.len (xv 1)) x_int) (atI_of (k := n) (by rw [List.length_map, hl]; omega) (by rw [List.getElem?_map, hp]; rfl))) ?_)
  have e1 : segsOf p st en = l.map fun x => (x.1, x.2, patAt r x.1) := by
    unfold segsOf
    rw [hl, Nat.add_sub_cancel, hp]
    show ((rpath r (lastI st) (lastI en)).getD []).map _ = _
    rw [hrp]; rfl
  have e2 : (segsOf p st en).map dSg = l.map fun x => dSg (x.1, x.2, patAt r x.1) := by rw [e1, List.map_map]; rfl
  rw [e2]
  refine xs_ret (xw_n (xn_lc (rl := l.map fun x => dSg (x.1, x.2, patAt r x.1)) (dl := l.map dM) (own := [("index", 4), ("position", 5)]) sc_segments.nd (xi_lst (xcl (d := .lst (l.map dM)) (ok_ring_path T) (hr.mono (by decide)) (xa_cons (xv 3) (xa_cons (x_last (xv 1) hst) (xa_cons (x_last (xv 2) he) xa_nil))) ⟨r, _, _, l, rfl, hr7, hrp, rfl⟩ sub_nil))
    (blk ["self", "start", "end", "ring", "index", "position"] (inClass (top 25) 1) (by decide +kernel)) (by rw [List.length_map, List.length_map]) (by rw [List.length_map]; omega) (tpAll_map (fun _ => by simp [dSg]) l) ?_) fun q hq => ⟨q, rfl, hq, List.mem_cons_self⟩)
  intro k d r2 hd hr2
  obtain ⟨x, h0, rfl⟩ := map_get hd
  rw [List.getElem?_map, h0] at hr2
  cases hr2
  have hxr := hx x (List.mem_of_getElem? h0)
  obtain ⟨lk, hlk⟩ : ∃ lk, r[x.1]? = some lk := ⟨_, List.getElem?_eq_getElem hxr⟩
  refine ⟨_, _, ?_, fun s H C cl fp => ⟨xg_tup (xgs_cons (xgn 4 sc_segments.nd) (xgs_cons (xgn 5 sc_segments.nd) xgs_nil)) rfl, ?_⟩⟩
  · simp
  · refine x_tup (xa_cons (xv 4) (xa_cons (xv 5) (xa_cons (x_ixT (x_ixT (xv 3) (xv 4) (atI_of (k := x.1) rfl (by rw [List.getElem?_map, hlk]; rfl))) x_int (atI_of (k := 2) rfl ?_)) xa_nil))) (by simp)
    unfold patAt
    rw [hlk]; rfl
end
end RS
end TxtP7

section TxtM3
set_option Elab.async false
set_option linter.all false
set_option maxRecDepth 100000
set_option maxHeartbeats 1000000
/-! the pairs that are asked for -/
namespace RS
open PySem PySem.Spec PyProof.Rows L2
def chain (r : Rg) : Int → List (Nat × Int) → Prop
  | _, [] => True
  | cur, x :: l => (∃ lk, r[x.1]? = some lk ∧ ((lk.1 = cur ∧ lk.2.1 = x.2) ∨ (lk.2.1 = cur ∧ lk.1 = x.2))) ∧ chain r x.2 l
structure PathOk (r : Rg) (s e : Int) (l : List (Nat × Int)) : Prop where
  ch : chain r s l
  la : (l.map (·.2)).getLastD s = e
  nd : (s :: l.map (·.2)).Nodup
  len : l.length ≤ 3
structure okZ (p : Pz) : Prop extends okP p where
  pt : ∀ r ∈ p, ∀ s e : Int, 0 ≤ s → s < (r.length : Int) + 1 → 0 ≤ e → e < (r.length : Int) + 1 → ∃ l, rpath r s e = some l ∧ PathOk r s e l
theorem chain_lt {r : Rg} : ∀ {l : List (Nat × Int)} {cur : Int}, chain r cur l → ∀ x ∈ l, x.1 < r.length
  | [], _, _, x, h => nomatch h
  | y :: l, cur, h, x, hx => by
    obtain ⟨⟨lk, h1, _⟩, h2⟩ := h
    rcases List.mem_cons.mp hx with rfl | hx
    · exact (List.getElem?_eq_some_iff.mp h1).1
    · exact chain_lt h2 x hx
/-- what segments gives -/
structure SegOk (p : Pz) (n : Nat) (s e : List Int) : Prop where
  ok : okSg p s e
  pat : ∀ x ∈ segsOf p s e, okSt p n x.2.2
  len : (segsOf p s e).length ≤ 3
  path : ∃ r l, p[n]? = some r ∧ PathOk r (lastI s) (lastI e) l ∧ segsOf p s e = l.map fun x => (x.1, x.2, patAt r x.1)
theorem seg_ok {p : Pz} {n : Nat} {s e : List Int} (z : okZ p) (hn : n + 1 ≤ p.length) (hs : okSt p (n + 1) s) (he : okSt p (n + 1) e) : SegOk p n s e := by
  obtain ⟨r, hr⟩ : ∃ r, p[n]? = some r := ⟨_, List.getElem?_eq_getElem (by omega)⟩
  have hm := List.mem_of_getElem? hr
  have s1 := hs.last hr
  have e1 := he.last hr
  have ls := hs.len hn
  have le := he.len hn
  obtain ⟨l, hp, po⟩ := z.pt r hm _ _ s1.1 s1.2 e1.1 e1.2
  have okr := z.rg n r hr
  have es : segsOf p s e = l.map fun x => (x.1, x.2, patAt r x.1) := by
    unfold segsOf
    rw [ls, Nat.add_sub_cancel, hr]
    show ((rpath r (lastI s) (lastI e)).getD []).map _ = _
    rw [hp]; rfl
  refine ⟨⟨n, r, l, ls, fun z => by subst z; simp at le, hr, okr.len, hp, by have := po.len; omega, chain_lt po.ch⟩, ?_, by rw [es, List.length_map]; exact po.len, r, l, hr, po, es⟩
  intro x hx
  rw [es] at hx
  obtain ⟨y, hy, rfl⟩ := List.mem_map.mp hx
  have hlt := chain_lt po.ch y hy
  have hg : r[y.1]? = some r[y.1] := List.getElem?_eq_getElem hlt
  show okSt p n (patAt r y.1)
  unfold patAt
  rw [hg]
  exact (okr.lk _ (List.getElem_mem hlt)).pt
def pats (p : Pz) : List (List Int) := p.flatMap fun r => r.map (·.2.2)
theorem pat_mem {p : Pz} {n : Nat} {r : Rg} {i : Nat} (hr : p[n]? = some r) (hi : i < r.length) : patAt r i ∈ pats p := by
  unfold pats patAt
  rw [List.getElem?_eq_getElem hi]
  exact List.mem_flatMap.mpr ⟨r, List.mem_of_getElem? hr, List.mem_map_of_mem (List.getElem_mem hi)⟩
def Arg (p : Pz) (S E s e : List Int) : Prop := ∃ v1 ∈ S :: pats p, ∃ v2 ∈ E :: pats p, s = v1.take (min v1.length v2.length) ∧ e = v2.take (min v1.length v2.length)
def ck (v1 v2 : List Int) : SKey := trim (min v1.length v2.length) (v1.take (min v1.length v2.length)) (v2.take (min v1.length v2.length))
def KeyOf (p : Pz) (S E : List Int) (k : SKey) : Prop := ∃ v1 ∈ S :: pats p, ∃ v2 ∈ E :: pats p, k = ck v1 v2
theorem nodup_sub_len {α : Type} [DecidableEq α] : ∀ {l m : List α}, l.Nodup → (∀ x ∈ l, x ∈ m) → l.length ≤ m.length
  | [], m, _, _ => Nat.zero_le _
  | a :: l, m, nd, h => by
    rw [List.nodup_cons] at nd
    have ha := h a List.mem_cons_self
    have h2 : ∀ x ∈ l, x ∈ m.erase a := fun x hx => (List.mem_erase_of_ne fun z => nd.1 (by rw [← z]; exact hx)).mpr (h x (List.mem_cons_of_mem _ hx))
    have h3 := nodup_sub_len nd.2 h2
    rw [List.length_erase_of_mem ha] at h3
    have h4 := List.length_pos_of_mem ha
    rw [List.length_cons]
    omega
theorem flat_const {α β : Type} {f : α → List β} {k : Nat} (h : ∀ a, (f a).length = k) : ∀ l : List α, (l.flatMap f).length = l.length * k
  | [] => by simp
  | a :: l => by rw [List.flatMap_cons, List.length_append, h a, flat_const h l, List.length_cons, Nat.succ_mul]; omega
theorem keys_le {p : Pz} {S E : List Int} {ks : List SKey} (nd : ks.Nodup) (h : ∀ k ∈ ks, KeyOf p S E k) : ks.length ≤ ((pats p).length + 1) * ((pats p).length + 1) := by
  have hs : ∀ k ∈ ks, k ∈ (S :: pats p).flatMap fun v1 => (E :: pats p).map fun v2 => ck v1 v2 := fun k hk => by
    obtain ⟨v1, h1, v2, h2, rfl⟩ := h k hk
    exact List.mem_flatMap.mpr ⟨v1, h1, List.mem_map_of_mem h2⟩
  refine Nat.le_trans (nodup_sub_len nd hs) (Nat.le_of_eq ?_)
  rw [flat_const (k := (pats p).length + 1) (fun v1 => by rw [List.length_map, List.length_cons])]
  rw [List.length_cons]
/-- what trim leaves -/
structure TrimOk (n : Nat) (s e s' e' : List Int) (m : Nat) : Prop where
  le : m ≤ n
  ts : s' = s.take m
  te : e' = e.take m
  fin : s' = e' ∨ lastI s' ≠ lastI e'
theorem dist_self (p : Pz) : ∀ (n : Nat) (s : List Int), dist p n s s = 0
  | 0, _ => rfl
  | n + 1, s => by
    unfold dist
    rw [if_pos rfl, dist_self p n]
theorem take_dropLast {s : List Int} {m : Nat} (h : m + 1 ≤ s.length) : (s.take (m + 1)).dropLast = s.take m := by
  rw [List.dropLast_eq_take, List.take_take, List.length_take]
  congr 1
  omega
theorem trim_self : ∀ (n : Nat) (s : List Int), trim n s s = (s, s)
  | 0, _ => rfl
  | n + 1, s => by unfold trim; rw [if_neg (by simp)]
/-- one turn of the while -/
theorem trim_turn {p : Pz} {m : Nat} {s e : List Int} (h1 : s ≠ e) (h2 : lastI s = lastI e) : trim (m + 1) s e = trim m s.dropLast e.dropLast ∧ dist p (m + 1) s e = dist p m s.dropLast e.dropLast := by
  constructor
  · rw [trim, if_pos ⟨h1, h2⟩]
  · rw [dist, if_pos h2]
theorem trim_end {m : Nat} {s e : List Int} (h : s = e ∨ lastI s ≠ lastI e) : trim m s e = (s, e) := by
  cases m with
  | zero => rfl
  | succ m =>
    rw [trim, if_neg]
    rintro ⟨h1, h2⟩
    exact h.elim h1 fun z => z h2
/-- the arguments of the calls below a pair -/
theorem arg_first {p : Pz} {S E s e pat : List Int} {m : Nat} (a : Arg p S E s e) (hm : m + 1 ≤ s.length) (hp : pat ∈ pats p) (hl : pat.length = m) : Arg p S E (s.take m) pat := by
  obtain ⟨v1, h1, v2, h2, rfl, rfl⟩ := a
  rw [List.length_take] at hm
  refine ⟨v1, h1, pat, List.mem_cons_of_mem _ hp, ?_, ?_⟩
  · rw [List.take_take, hl]
    congr 1
    omega
  · rw [hl, List.take_of_length_le (by omega)]
theorem arg_mid {p : Pz} {S E pat pat' : List Int} {m : Nat} (hp : pat ∈ pats p) (hl : pat.length = m) (hp' : pat' ∈ pats p) (hl' : pat'.length = m) : Arg p S E pat pat' := by
  refine ⟨pat, List.mem_cons_of_mem _ hp, pat', List.mem_cons_of_mem _ hp', ?_, ?_⟩ <;> rw [hl, hl', List.take_of_length_le (by omega)]
theorem arg_last {p : Pz} {S E s e pat : List Int} {m : Nat} (a : Arg p S E s e) (hm : m + 1 ≤ e.length) (hp : pat ∈ pats p) (hl : pat.length = m) : Arg p S E pat (e.take m) := by
  obtain ⟨v1, h1, v2, h2, rfl, rfl⟩ := a
  rw [List.length_take] at hm
  refine ⟨pat, List.mem_cons_of_mem _ hp, v2, h2, ?_, ?_⟩
  · rw [hl, List.take_of_length_le (by omega)]
  · rw [List.take_take, hl]
    congr 1
    omega
theorem arg_key {p : Pz} {S E s e : List Int} (a : Arg p S E s e) : KeyOf p S E (trim s.length s e) := by
  obtain ⟨v1, h1, v2, h2, rfl, rfl⟩ := a
  refine ⟨v1, h1, v2, h2, ?_⟩
  unfold ck
  rw [List.length_take]
  congr 1
  omega
/-- the cache of distances -/
structure CI (p : Pz) (S E : List Int) (kvs : List (SKey × D)) : Prop where
  val : ∀ x ∈ kvs, x.2 = .int (dist p x.1.1.length x.1.1 x.1.2)
  key : ∀ x ∈ kvs, KeyOf p S E x.1
  nd : (kvs.map (·.1)).Nodup
theorem valD_mem {κ : Type} [DecidableEq κ] {kvs : List (κ × D)} {k : κ} {d : D} (h : valD kvs k = some d) : (k, d) ∈ kvs := by
  unfold valD at h
  obtain ⟨kv, h1, h2⟩ := Option.map_eq_some_iff.mp h
  have h3 := List.find?_some h1
  have h4 : kv.1 = k := of_decide_eq_true h3
  have h5 := List.mem_of_find?_eq_some h1
  subst h4 h2
  exact h5
theorem putD_new {κ : Type} [DecidableEq κ] {kvs : List (κ × D)} {k : κ} {d : D} (h : valD kvs k = none) : putD kvs k d = kvs ++ [(k, d)] := by
  unfold putD
  rw [valD_any, h, if_neg (by simp)]
theorem valD_new {κ : Type} [DecidableEq κ] {kvs : List (κ × D)} {k : κ} {d : D} (h : valD kvs k = none) : valD (kvs ++ [(k, d)]) k = some d := by
  unfold valD at h ⊢
  rw [Option.map_eq_none_iff] at h
  rw [List.find?_append, h]
  simp
theorem valD_none {κ : Type} [DecidableEq κ] {kvs : List (κ × D)} {k : κ} (h : valD kvs k = none) : k ∉ kvs.map (·.1) := fun z => by
  obtain ⟨kv, h1, h2⟩ := List.mem_map.mp z
  unfold valD at h
  rw [Option.map_eq_none_iff, List.find?_eq_none] at h
  exact h kv h1 (by simpa using h2)
theorem CI.put {p : Pz} {S E : List Int} {kvs : List (SKey × D)} (h : CI p S E kvs) {k : SKey} (hk : KeyOf p S E k) (hn : valD kvs k = none) : CI p S E (kvs ++ [(k, .int (dist p k.1.length k.1 k.2))]) := by
  refine ⟨fun x hx => ?_, fun x hx => ?_, ?_⟩
  · rcases List.mem_append.mp hx with q | q
    · exact h.val x q
    · rw [List.mem_singleton] at q; subst q; rfl
  · rcases List.mem_append.mp hx with q | q
    · exact h.key x q
    · rw [List.mem_singleton] at q; subst q; exact hk
  · rw [List.map_append, List.nodup_append]
    refine ⟨h.nd, by simp, fun a ha b hb e => ?_⟩
    simp at hb
    subst e hb
    exact valD_none hn ha
theorem pats_len {p : Pz} (h : okP p) : (pats p).length ≤ 21 := by
  have : ∀ l : Pz, (∀ r ∈ l, r.length ≤ 3) → (pats l).length ≤ 3 * l.length := by
    intro l
    induction l with
    | nil => intro _; simp [pats]
    | cons r l ih =>
      intro hl
      have h1 := hl r List.mem_cons_self
      have h2 := ih fun q hq => hl q (List.mem_cons_of_mem _ hq)
      unfold pats at h2 ⊢
      rw [List.flatMap_cons, List.length_append, List.length_map, List.length_cons]
      omega
  have h1 := this p h.few
  have h2 := h.l7
  omega
theorem CI.len {p : Pz} {S E : List Int} {kvs : List (SKey × D)} (h : CI p S E kvs) (z : okP p) : kvs.length ≤ 484 := by
  have h1 := keys_le h.nd fun k hk => by
    obtain ⟨x, hx, rfl⟩ := List.mem_map.mp hk
    exact h.key x hx
  rw [List.length_map] at h1
  have h2 := pats_len z
  have h3 : ((pats p).length + 1) * ((pats p).length + 1) ≤ 22 * 22 := Nat.mul_le_mul (by omega) (by omega)
  omega
end RS
end TxtM3

section TxtP8
set_option Elab.async false
set_option linter.all false
set_option maxRecDepth 100000
set_option maxHeartbeats 1000000
namespace RS
open PySem PySem.Spec PyProof.Rows L2
section
variable {P : Program} {w : World} {K : PySem.W.Frag} {mg : Str → Option Value} {base : Heap} {c : Ads}
/-- what the loop over the segments has summed up -/
def dsum (p : Pz) (m : Nat) (l : List Sg) (s : List Int) : List Int × Int := l.foldl (fun (a : List Int × Int) x => (x.2.2, a.2 + dist p m a.1 x.2.2 + 1)) (s, 0)
structure PreB (p : Pz) (S E : List Int) (n : Nat) (s e : List Int) : Prop where
  z : okZ p
  hn : s.length ≤ n
  hp : s.length ≤ p.length
  sk : okSt p s.length s
  ek : okSt p s.length e
  a : Arg p S E s e
theorem PreB.el {p : Pz} {S E s e : List Int} {n : Nat} (h : PreB p S E n s e) : e.length = s.length := h.ek.len h.hp
def R_bt (c : Ads) (n : Nat) : RR := fun G dl Kc => ∃ y p q kvs S E s e, G = [(y, diC c p q), (q, .dn kvs)] ∧ dl = [.val (.ref y), dS s, dS e] ∧ PreB p S E n s e ∧ CI p S E kvs ∧
  Kc = fun d N G' => d = .int (dist p s.length s e) ∧ N = [] ∧ ∃ kvs', CI p S E kvs' ∧ G' = [(y, diC c p q), (q, .dn kvs')]
theorem sc_between : FnScope ["self", "start", "end", "current", "result", "index", "position", "pattern"] ["self", "start", "end"] (defScope (inClass (top 25) 2)) := ⟨rfl, rfl, rfl, by decide +kernel, rfl, by decide +kernel, by decide +kernel⟩
/-- the state of the while: a trimmed pair -/
structure TrB (p : Pz) (s e s' e' : List Int) (m : Nat) : Prop where
  ls : s'.length = m
  le : e'.length = m
  mle : m ≤ s.length
  ts : s' = s.take m
  te : e' = e.take m
  sk : okSt p m s'
  ek : okSt p m e'
  tr : trim s.length s e = trim m s' e'
  di : dist p s.length s e = dist p m s' e'
theorem TrB.turn {p : Pz} {s e s' e' : List Int} {m : Nat} (h : TrB p s e s' e' (m + 1)) (hp : s.length ≤ p.length) (he : e.length = s.length) (h1 : s' ≠ e') (h2 : lastI s' = lastI e') : TrB p s e s'.dropLast e'.dropLast m := by
  have mle := h.mle
  obtain ⟨t1, t2⟩ := trim_turn (p := p) (m := m) h1 h2
  refine ⟨by rw [List.length_dropLast, h.ls]; rfl, by rw [List.length_dropLast, h.le]; rfl, by omega, by rw [h.ts, take_dropLast mle], by rw [h.te, take_dropLast (by omega)], h.sk.drop (by omega), h.ek.drop (by omega), h.tr.trans t1, h.di.trans t2⟩
theorem dist_unf {p : Pz} {m : Nat} {s e : List Int} (h : lastI s ≠ lastI e) : dist p (m + 1) s e = (dsum p m (segsOf p s e) s.dropLast).2 + dist p m (dsum p m (segsOf p s e) s.dropLast).1 e.dropLast := by
  rw [dist, if_neg h]; rfl
theorem dsum_take {p : Pz} {m : Nat} {l : List Sg} {s : List Int} {i : Nat} {x : Sg} (h : l[i]? = some x) : dsum p m (l.take (i + 1)) s = (x.2.2, (dsum p m (l.take i) s).2 + dist p m (dsum p m (l.take i) s).1 x.2.2 + 1) := fold_take h
/-- where the walk along the segments stands -/
structure CurOk (p : Pz) (S E : List Int) (m : Nat) (cur : List Int) : Prop where
  ok : okSt p m cur
  nx : ∀ pat ∈ pats p, pat.length = m → Arg p S E cur pat
theorem cur_of_pat {p : Pz} {S E : List Int} {m : Nat} {pat : List Int} (hm : m ≤ p.length) (h1 : okSt p m pat) (h2 : pat ∈ pats p) : CurOk p S E m pat := ⟨h1, fun q hq hl => arg_mid h2 (h1.len hm) hq hl⟩
theorem seg_pat {p : Pz} {n : Nat} {s e : List Int} (h : SegOk p n s e) {x : Sg} (hx : x ∈ segsOf p s e) : x.2.2 ∈ pats p := by
  obtain ⟨r, l, hr, po, es⟩ := h.path
  rw [es] at hx
  obtain ⟨y, hy, rfl⟩ := List.mem_map.mp hx
  exact pat_mem hr (chain_lt po.ch y hy)
theorem seg_ne {p : Pz} {n : Nat} {s e : List Int} (h : SegOk p n s e) (hl : lastI s ≠ lastI e) : segsOf p s e ≠ [] := by
  obtain ⟨r, l, hr, po, es⟩ := h.path
  intro z
  rw [es] at z
  have : l = [] := by simpa using z
  subst this
  exact hl po.la
theorem cur_at {p : Pz} {S E st en s' e' : List Int} {m i : Nat} (sg : SegOk p m s' e') (hm : m + 1 ≤ p.length) (a : Arg p S E st en) (ml : m + 1 ≤ st.length) (ts : s' = st.take (m + 1)) (sk : okSt p (m + 1) s') (hi : i ≤ (segsOf p s' e').length) :
    CurOk p S E m (dsum p m ((segsOf p s' e').take i) s'.dropLast).1 := by
  cases i with
  | zero =>
    refine ⟨sk.drop hm, fun pat hp hl => ?_⟩
    show Arg p S E s'.dropLast pat
    rw [ts, take_dropLast ml]
    exact arg_first a ml hp hl
  | succ i =>
    obtain ⟨x, hx⟩ : ∃ x, (segsOf p s' e')[i]? = some x := ⟨_, List.getElem?_eq_getElem (by omega)⟩
    rw [dsum_take hx]
    have hm2 := List.mem_of_getElem? hx
    exact cur_of_pat (by omega) (sg.pat _ hm2) (seg_pat sg hm2)
theorem cur_end {p : Pz} {S E st en s' e' : List Int} {m : Nat} (sg : SegOk p m s' e') (hm : m + 1 ≤ p.length) (a : Arg p S E st en) (ml : m + 1 ≤ en.length) (te : e' = en.take (m + 1)) (hl : lastI s' ≠ lastI e') :
    Arg p S E (dsum p m (segsOf p s' e') s'.dropLast).1 e'.dropLast := by
  obtain ⟨i, hi⟩ : ∃ i, (segsOf p s' e').length = i + 1 := ⟨(segsOf p s' e').length - 1, by have := List.length_pos_iff.mpr (seg_ne sg hl); omega⟩
  obtain ⟨x, hx⟩ : ∃ x, (segsOf p s' e')[i]? = some x := ⟨_, List.getElem?_eq_getElem (by omega)⟩
  have e1 := dsum_take (p := p) (m := m) (s := s'.dropLast) hx
  rw [← hi, List.take_length] at e1
  rw [e1, te, take_dropLast ml]
  have hm2 := List.mem_of_getElem? hx
  exact arg_last a ml (seg_pat sg hm2) ((sg.pat _ hm2).len (by omega))
theorem CI.put' {p : Pz} {S E : List Int} {kvs : List (SKey × D)} (h : CI p S E kvs) {k : SKey} (hk : KeyOf p S E k) : CI p S E (putD kvs k (.int (dist p k.1.length k.1 k.2))) ∧ valD (putD kvs k (.int (dist p k.1.length k.1 k.2))) k = some (.int (dist p k.1.length k.1 k.2)) := by
  cases hn : valD kvs k with
  | none => rw [putD_new hn]; exact ⟨h.put hk hn, valD_new hn⟩
  | some d =>
    have e : putD kvs k (.int (dist p k.1.length k.1 k.2)) = kvs := by
      unfold putD
      rw [valD_any, hn]
      simp only [Option.isSome_some, if_true]
      refine (List.map_congr_left fun x hx => ?_).trans (List.map_id kvs)
      split
      · rename_i z
        have := h.val x hx
        obtain ⟨k', d'⟩ := x
        simp only at z this
        subst z
        rw [this]; rfl
      · rfl
    rw [e, hn]
    exact ⟨h, congrArg some (h.val _ (valD_mem hn))⟩
theorem tpAll_ok : ∀ {ds : List D}, (∀ d ∈ ds, tp d = true) → tpAll ds = true
  | [], _ => rfl
  | d :: ds, h => by rw [tpAll, h d List.mem_cons_self, tpAll_ok fun x hx => h x (List.mem_cons_of_mem _ hx)]; rfl
theorem CI.tp {p : Pz} {S E : List Int} {kvs : List (SKey × D)} (h : CI p S E kvs) : tpAll (kvs.map (·.2)) = true := tpAll_ok fun d hd => by
  obtain ⟨x, hx, rfl⟩ := List.mem_map.mp hd
  rw [h.val x hx]; rfl
@[simp] theorem gTp_nil : gTp [] = true := rfl
@[simp] theorem gTp_cons {x : Addr × Cell} {G : GG} : gTp (x :: G) = (cellTp x.2 && gTp G) := rfl
@[simp] theorem tp_dSg {x : Sg} : tp (dSg x) = true := by simp [dSg]
theorem nil_of_len {α : Type} {l : List α} (h : l.length = 0) : l = [] := List.eq_nil_of_length_eq_zero h
theorem ok_between (T : Env K mg c) (n : Nat) : Me0 P w K mg base c.di (n + 3) "between" ["self", "start", "end"] (spA P w (R_bt c n)) := by
  induction n using Nat.strongRecOn with
  | _ n ih =>
  exact T.Di_between.mk0 fun f fd F => fn_A F sc_between (fun G dl d h => by obtain ⟨y, p, q, kvs, S, E, s, e, rfl, rfl, _⟩ := h; rfl) fun cdv A outer s0 H E0 hr G dl Kc hF => by
    obtain ⟨y, p, q, kvs, S, E, st, en, rfl, rfl, pre, ci, rfl⟩ := hF
    have hu := hr.units
    have hpl := pre.hp
    have hn := pre.hn
    have hel := pre.el
    refine xs_while (fun m ds' G' => ∃ s' e', ds' = [some (.val (.ref y)), some (dS s'), some (dS e'), none, none, none, none, none] ∧ G' = [(y, diC c p q), (q, .dn kvs)] ∧ TrB p st en s' e' m) st.length
      ⟨st, en, rfl, rfl, rfl, hel, Nat.le_refl _, by rw [List.take_length], by rw [← hel, List.take_length], pre.sk, pre.ek, rfl, rfl⟩ ?_
    rintro m ds' G' ⟨s', e', rfl, rfl, tb⟩
    refine ⟨!decide (s' = e') && decide (lastI s' = lastI e'), (t_and (t_neS hu (xv 1) (xv 2)) fun h => t_and1 (t_eqI hu (x_last (xv 1) ?_) (x_last (xv 2) ?_))).T, ?_, ?_⟩
    · intro z
      have := tb.ls; have := tb.le
      subst z
      have h0 : m = 0 := by simpa using tb.ls.symm
      subst h0
      have := nil_of_len tb.le
      subst this
      simp at h
    · intro z
      have := tb.ls; have := tb.le
      subst z
      have h0 : m = 0 := by simpa using tb.le.symm
      subst h0
      have := nil_of_len tb.ls
      subst this
      simp at h
    · intro ht
      simp only [Bool.and_eq_true, Bool.not_eq_true', decide_eq_false_iff_not, decide_eq_true_eq] at ht
      obtain ⟨h1, h2⟩ := ht
      cases m with
      | zero => exact absurd ((nil_of_len tb.ls).trans (nil_of_len tb.le).symm) h1
      | succ m =>
        refine xs_par 1 2 sc_between.nd (xaw_a (xa_cons (x_init (xv 1)) (xa_cons (x_init (xv 2)) xa_nil)) ⟨_, _, rfl, ?_⟩)
        exact xs_nil ⟨m, by omega, _, _, rfl, rfl, tb.turn hpl hel h1 h2⟩
    · intro ht
      have hfin : s' = e' ∨ lastI s' ≠ lastI e' := by
        by_cases h : s' = e'
        · exact .inl h
        · refine .inr fun z => ?_
          simp [h, z] at ht
      have htr : trim st.length st en = (s', e') := tb.tr.trans (trim_end hfin)
      by_cases hse : s' = e'
      · refine xs_if1 ((t_eqS hu (xv 1) (xv 2)).to (by simp [hse])) ?_
        refine xs_ret (xw_e x_int ⟨[], _, rfl, rfl, by simp, ?_, rfl, kvs, ci, rfl⟩)
        rw [tb.di, hse, dist_self]
      · refine xs_if0 ((t_eqS hu (xv 1) (xv 2)).to (by simp [hse])) ?_
        have hlast : lastI s' ≠ lastI e' := hfin.resolve_left hse
        cases m with
        | zero => exact absurd ((nil_of_len tb.ls).trans (nil_of_len tb.le).symm) hse
        | succ m =>
          have mle := tb.mle
          have mp : m + 1 ≤ p.length := by omega
          have sg := seg_ok pre.z mp tb.sk tb.ek
          have hsl : s'.length = m + 1 := tb.ls
          have ko : KeyOf p S E (s', e') := by
            have := arg_key pre.a
            rwa [htr] at this
          refine xs_ifT (t := !(valD kvs (s', e')).isSome) (t_nnotin hu (x_tup (xa_cons (xv 1) (xa_cons (xv 2) xa_nil)) (by simp)) (xf (xv 0) List.mem_cons_self T.Di.cls T.di_c) (List.mem_cons_of_mem _ List.mem_cons_self)) ?_ ?_
          · intro _
            refine xs_par 3 4 sc_between.nd (xaw_a (xa_cons (x_init (xv 1)) (xa_cons x_int xa_nil)) ⟨_, _, rfl, ?_⟩)
            refine xs_forW (xw_n (xn_meth (rl := (segsOf p s' e').map dSg) (ok_segments T) (hr.mono (by omega)) T.Di.cls (xv 0) List.mem_cons_self rfl (xa_cons (xv 1) (xa_cons (xv 2) xa_nil)) ⟨y, p, q, s', e', rfl, rfl, sg.ok, rfl⟩ (sub_one List.mem_cons_self)) fun l hl =>
              ⟨l, _, fun i ds' G' => ∃ b5 b6 b7 kvs', ds' = [some (.val (.ref y)), some (dS s'), some (dS e'), some (dS (dsum p m ((segsOf p s' e').take i) s'.dropLast).1), some (.int (dsum p m ((segsOf p s' e').take i) s'.dropLast).2), b5, b6, b7] ∧ ldTp [b5, b6, b7] = true ∧
                G' = [(l, .lst ((segsOf p s' e').map dSg)), (y, diC c p q), (q, .dn kvs')] ∧ CI p S E kvs', rfl, List.mem_cons_self, ?_, ⟨⟨_, _, _, kvs, rfl, rfl, rfl, ci⟩, ?_, ?_⟩⟩)
            · rintro i ds' G' ⟨b5, b6, b7, kvs', rfl, _, rfl, _⟩
              exact List.mem_cons_self
            · rintro i d ds' G' hd ⟨b5, b6, b7, kvs', rfl, hb, rfl, ci'⟩
              obtain ⟨x, hx, rfl⟩ := map_get hd
              have hxm := List.mem_of_getElem? hx
              have hi := (List.getElem?_eq_some_iff.mp hx).1
              have cu := cur_at (S := S) (E := E) (i := i) sg mp pre.a mle tb.ts tb.sk (by omega)
              have xp := sg.pat x hxm
              have xm := seg_pat sg hxm
              have cl := cu.ok.len (by omega)
              have xl := xp.len (by omega)
              refine ⟨_, _, xg_tup (xgs_cons (xgn 5 sc_between.nd) (xgs_cons (xgn 6 sc_between.nd) (xgs_cons (xgn 7 sc_between.nd) xgs_nil))) rfl, ?_⟩
              refine xs_asg 4 sc_between.nd (xw_add (xw_add (xw_e (xv 4) ⟨_, rfl, xw_meth (ih m (by omega)) (hr.mono (by omega)) T.Di.cls (xv 0) (List.mem_cons_of_mem _ List.mem_cons_self) rfl (xaw_a (xa_cons (xv 3) (xa_cons (xv 7) xa_nil))
                ⟨[1, 2], _, _, rfl, by decide, ?_, ?_, ?_, ⟨y, p, q, kvs', S, E, _, _, rfl, rfl, ⟨pre.z, by omega, by omega, by rw [cl]; exact cu.ok, by rw [cl]; exact xp, cu.nx _ xm xl⟩, ci', rfl⟩, ?_⟩)⟩)))
              · intro x hx; simp at hx ⊢; rcases hx with rfl | rfl <;> simp
              · simpa [ldTp] using hb
              · simp [cellTp, ci'.tp, tpAll_map (fun _ => tp_dSg)]
              · rintro d N G' ⟨rfl, rfl, kvs'', ci'', rfl⟩ _ _
                refine ⟨_, rfl, _, rfl, xw_e x_int ⟨_, rfl, ?_⟩⟩
                refine xs_asg 3 sc_between.nd (xw_e (xv 7) ?_)
                refine xs_nil ⟨some (.int (x.1 : Nat)), some (.int x.2.1), some (dS x.2.2), kvs'', ?_, ?_, rfl, ci''⟩
                · rw [dsum_take hx, cl]; rfl
                · simp [ldTp]
            · rintro ds' G' ⟨b5, b6, b7, kvs', rfl, hb, rfl, ci'⟩
              rw [List.length_map, List.take_length]
              have cu := cur_at (S := S) (E := E) (i := (segsOf p s' e').length) sg mp pre.a mle tb.ts tb.sk (Nat.le_refl _)
              rw [List.take_length] at cu
              have ce := cur_end sg mp pre.a (by omega) tb.te hlast
              have cl := cu.ok.len (by omega)
              have eo := tb.ek.drop mp
              refine xs_nput (p := q) hu (xw_add (xw_e (xv 4) ⟨_, rfl, xw_meth (ih m (by omega)) (hr.mono (by omega)) T.Di.cls (xv 0) (List.mem_cons_of_mem _ List.mem_cons_self) rfl (xaw_a (xa_cons (xv 3) (xa_cons (x_init (xv 2)) xa_nil))
                ⟨[1, 2], _, _, rfl, by decide, ?_, ?_, ?_, ⟨y, p, q, kvs', S, E, _, _, rfl, rfl, ⟨pre.z, by omega, by omega, by rw [cl]; exact cu.ok, by rw [cl]; exact eo, ce⟩, ci', rfl⟩, ?_⟩)⟩)) (.inl (by simp))
              · intro x hx; simp at hx ⊢; rcases hx with rfl | rfl <;> simp
              · simpa [ldTp] using hb
              · simp [cellTp, ci'.tp, tpAll_map (fun _ => tp_dSg)]
              · rintro d N G' ⟨rfl, rfl, kvs'', ci'', rfl⟩ _ _
                refine ⟨_, rfl, xf (xv 0) (List.mem_cons_of_mem _ List.mem_cons_self) T.Di.cls T.di_c, (s', e'), 2, kvs'', x_tup (xa_cons (xv 1) (xa_cons (xv 2) xa_nil)) (by simp), rfl, by have := ci''.len pre.z.tookP; omega, ?_⟩
                have ev : (dsum p m (segsOf p s' e') s'.dropLast).2 + dist p (dsum p m (segsOf p s' e') s'.dropLast).1.length (dsum p m (segsOf p s' e') s'.dropLast).1 e'.dropLast = dist p (s', e').1.length (s', e').1 (s', e').2 := by
                  show _ = dist p s'.length s' e'
                  rw [hsl, dist_unf hlast, cl]
                rw [ev]
                obtain ⟨ci3, v3⟩ := ci''.put' ko
                refine xs_nil ?_
                refine xs_weak (G' := [(y, diC c p q), (q, .dn (putD kvs'' (s', e') (.int (dist p (s', e').1.length (s', e').1 (s', e').2))))]) ?_ rfl (fun _ _ h => h) ⟨fun h => (List.nodup_cons.mp h).2, fun x hx => List.mem_cons_of_mem _ hx⟩
                refine xs_ret (xw_e (x_nget hu (xf (xv 0) List.mem_cons_self T.Di.cls T.di_c) (List.mem_cons_of_mem _ List.mem_cons_self) (x_tup (xa_cons (xv 1) (xa_cons (xv 2) xa_nil)) (by simp)) v3) ⟨[], _, rfl, rfl, by simp, ?_, rfl, _, ci3, rfl⟩)
                rw [tb.di, hsl]
          · intro ht
            cases hv : valD kvs (s', e') with
            | none => rw [hv] at ht; cases ht
            | some d =>
              have hd := ci.val _ (valD_mem hv)
              refine xs_nil (xs_ret (xw_e (x_nget hu (xf (xv 0) List.mem_cons_self T.Di.cls T.di_c) (List.mem_cons_of_mem _ List.mem_cons_self) (x_tup (xa_cons (xv 1) (xa_cons (xv 2) xa_nil)) (by simp)) hv) ⟨[], _, rfl, rfl, by simp, ?_, rfl, kvs, ci, rfl⟩))
              rw [tb.di]
              exact hd.trans (by rw [hsl])
end
end RS
end TxtP8

section TxtM4
set_option Elab.async false
set_option linter.all false
set_option maxRecDepth 100000
set_option maxHeartbeats 1000000
/-! the moves of a path; the rules written for it -/
namespace RS
open PySem PySem.Spec PyProof.Rows L2
abbrev Mv := Nat × Int × Int
def mvs (p : Pz) : Nat → List Int → List Int → List Mv
  | 0, _, _ => []
  | n + 1, s, e => if lastI s = lastI e then mvs p n s.dropLast e.dropLast else
      let r := (segsOf p s e).foldl (fun (a : (List Int × Int) × List Mv) x => ((x.2.2, x.2.1), a.2 ++ mvs p n a.1.1 x.2.2 ++ [(n, a.1.2, x.2.1)])) ((s.dropLast, lastI s), [])
      r.2 ++ mvs p n r.1.1 e.dropLast
def msum (p : Pz) (m : Nat) (l : List Sg) (s : List Int) : (List Int × Int) × List Mv := l.foldl (fun (a : (List Int × Int) × List Mv) x => ((x.2.2, x.2.1), a.2 ++ mvs p m a.1.1 x.2.2 ++ [(m, a.1.2, x.2.1)])) ((s.dropLast, lastI s), [])
theorem mvs_unf {p : Pz} {m : Nat} {s e : List Int} (h : lastI s ≠ lastI e) : mvs p (m + 1) s e = (msum p m (segsOf p s e) s).2 ++ mvs p m (msum p m (segsOf p s e) s).1.1 e.dropLast := by
  rw [mvs, if_neg h]; rfl
theorem mvs_same {p : Pz} {m : Nat} {s e : List Int} (h : lastI s = lastI e) : mvs p (m + 1) s e = mvs p m s.dropLast e.dropLast := by
  rw [mvs, if_pos h]
theorem mvs_self (p : Pz) : ∀ (n : Nat) (s : List Int), mvs p n s s = []
  | 0, _ => rfl
  | n + 1, s => by rw [mvs_same rfl, mvs_self p n]
theorem msum_take {p : Pz} {m : Nat} {l : List Sg} {s : List Int} {i : Nat} {x : Sg} (h : l[i]? = some x) : msum p m (l.take (i + 1)) s = ((x.2.2, x.2.1), (msum p m (l.take i) s).2 ++ mvs p m (msum p m (l.take i) s).1.1 x.2.2 ++ [(m, (msum p m (l.take i) s).1.2, x.2.1)]) := fold_take h
/-- the sum of moves and the sum of distances stand at the same place -/
theorem msum_dsum {p : Pz} {m : Nat} (hd : ∀ s e, ((mvs p m s e).length : Int) = dist p m s e) (s : List Int) : ∀ (l : List Sg) (a : (List Int × Int) × List Mv) (b : List Int × Int), a.1.1 = b.1 → (a.2.length : Int) = b.2 →
    (l.foldl (fun (a : (List Int × Int) × List Mv) x => ((x.2.2, x.2.1), a.2 ++ mvs p m a.1.1 x.2.2 ++ [(m, a.1.2, x.2.1)])) a).1.1 = (l.foldl (fun (a : List Int × Int) x => (x.2.2, a.2 + dist p m a.1 x.2.2 + 1)) b).1 ∧
    ((l.foldl (fun (a : (List Int × Int) × List Mv) x => ((x.2.2, x.2.1), a.2 ++ mvs p m a.1.1 x.2.2 ++ [(m, a.1.2, x.2.1)])) a).2.length : Int) = (l.foldl (fun (a : List Int × Int) x => (x.2.2, a.2 + dist p m a.1 x.2.2 + 1)) b).2
  | [], a, b, h1, h2 => ⟨h1, h2⟩
  | x :: l, a, b, h1, h2 => by
    rw [List.foldl_cons, List.foldl_cons]
    refine msum_dsum hd s l _ _ rfl ?_
    rw [List.length_append, List.length_append, List.length_singleton, ← h2, ← hd, h1]
    push_cast
    rfl
theorem mvs_len (p : Pz) : ∀ (n : Nat) (s e : List Int), ((mvs p n s e).length : Int) = dist p n s e
  | 0, _, _ => rfl
  | n + 1, s, e => by
    by_cases h : lastI s = lastI e
    · rw [mvs_same h, dist, if_pos h]
      exact mvs_len p n _ _
    · rw [mvs_unf h, dist_unf h, List.length_append]
      obtain ⟨h1, h2⟩ := msum_dsum (mvs_len p n) s (segsOf p s e) ((s.dropLast, lastI s), []) (s.dropLast, 0) rfl rfl
      have h3 : (msum p n (segsOf p s e) s).1.1 = (dsum p n (segsOf p s e) s.dropLast).1 := h1
      have h4 : ((msum p n (segsOf p s e) s).2.length : Int) = (dsum p n (segsOf p s e) s.dropLast).2 := h2
      rw [← h3, ← h4, ← mvs_len p n]
      push_cast
      rfl
theorem msum_cur {p : Pz} {m : Nat} (l : List Sg) (s : List Int) : (msum p m l s).1.1 = (dsum p m l s.dropLast).1 := (msum_dsum (mvs_len p m) s l ((s.dropLast, lastI s), []) (s.dropLast, 0) rfl rfl).1
/-- what trim does -/
structure TrimSp (p : Pz) (n : Nat) (s e : List Int) (m : Nat) : Prop where
  le : m ≤ n
  tr : trim n s e = (s.take m, e.take m)
  dr : s.drop m = e.drop m
  mv : mvs p n s e = mvs p m (s.take m) (e.take m)
  fin : s.take m = e.take m ∨ lastI (s.take m) ≠ lastI (e.take m)
theorem trim_sp (p : Pz) : ∀ (n : Nat) (s e : List Int), s.length = n → e.length = n → ∃ m, TrimSp p n s e m
  | 0, s, e, hs, he => ⟨0, Nat.le_refl _, by rw [nil_of_len hs, nil_of_len he]; rfl, by rw [nil_of_len hs, nil_of_len he], rfl, .inl (by simp)⟩
  | n + 1, s, e, hs, he => by
    by_cases h : s ≠ e ∧ lastI s = lastI e
    · obtain ⟨m, t⟩ := trim_sp p n s.dropLast e.dropLast (by rw [List.length_dropLast, hs]; rfl) (by rw [List.length_dropLast, he]; rfl)
      have hsn : s ≠ [] := fun z => by rw [z] at hs; cases hs
      have hen : e ≠ [] := fun z => by rw [z] at he; cases he
      have e1 : s.dropLast.take m = s.take m := by
        rw [List.dropLast_eq_take, List.take_take]
        congr 1
        have := t.le
        omega
      have e2 : e.dropLast.take m = e.take m := by
        rw [List.dropLast_eq_take, List.take_take]
        congr 1
        have := t.le
        omega
      have le := t.le
      refine ⟨m, by omega, ?_, ?_, ?_, ?_⟩
      · rw [trim, if_pos h, t.tr, e1, e2]
      · have a1 : s.drop m = s.dropLast.drop m ++ [lastI s] := by
          conv => lhs; rw [← drop_last hsn]
          rw [List.drop_append_of_le_length (by rw [List.length_dropLast, hs]; omega)]
        have a2 : e.drop m = e.dropLast.drop m ++ [lastI e] := by
          conv => lhs; rw [← drop_last hen]
          rw [List.drop_append_of_le_length (by rw [List.length_dropLast, he]; omega)]
        rw [a1, a2, t.dr, h.2]
      · rw [mvs_same h.2, t.mv, e1, e2]
      · have := t.fin
        rwa [e1, e2] at this
    · refine ⟨n + 1, Nat.le_refl _, ?_, ?_, ?_, ?_⟩
      · rw [trim, if_neg h, ← hs, List.take_length, hs, ← he, List.take_length]
      · rw [← hs, List.drop_length, hs, ← he, List.drop_length]
      · rw [List.take_of_length_le (by omega), List.take_of_length_le (by omega)]
      · rw [List.take_of_length_le (by omega), List.take_of_length_le (by omega)]
        by_cases h1 : s = e
        · exact .inl h1
        · exact .inr fun z => h ⟨h1, z⟩
/-! ### rules -/
inductive Part where
  | rule (i : Nat)
  | move (r : Nat) (pos : Int)
def dPart : Part → D
  | .rule i => .tup [.str (Str.ofString "rule"), .int (i : Nat)]
  | .move r pos => .tup [.str (Str.ofString "move"), .int (r : Nat), .int pos]
@[simp] theorem tp_dPart {x : Part} : tp (dPart x) = true := by cases x <;> rfl
abbrev Rec := SKey × List Part
def dRec (x : Rec) : D := .tup [dS x.1.1, .tup (x.2.map dPart)]
@[simp] theorem tp_dRec {x : Rec} : tp (dRec x) = true := by
  unfold dRec
  simp [tpAll_map (fun x => tp_dPart) x.2]
def ixs (W : List Rec) : List (SKey × D) := W.zipIdx.map fun x => (x.1.1, .int (x.2 : Nat))
theorem ixs_fst (W : List Rec) : (ixs W).map (·.1) = W.map (·.1) := by
  unfold ixs
  rw [List.map_map]
  have : W.map (·.1) = (W.zipIdx.map Prod.fst).map (·.1) := by rw [List.zipIdx_map_fst]
  rw [this, List.map_map]; rfl
theorem ixs_some {W : List Rec} {k : SKey} {d : D} (h : valD (ixs W) k = some d) : ∃ j ps, W[j]? = some (k, ps) ∧ d = .int (j : Nat) := by
  have hm := valD_mem h
  unfold ixs at hm
  obtain ⟨x, hx, e⟩ := List.mem_map.mp hm
  obtain ⟨⟨k', ps⟩, j⟩ := x
  cases e
  refine ⟨j, ps, ?_, rfl⟩
  have := List.mem_zipIdx_iff_getElem?.mp hx
  simpa using this
theorem ixs_snoc (W : List Rec) (x : Rec) : ixs (W ++ [x]) = ixs W ++ [(x.1, .int (W.length : Nat))] := by
  unfold ixs
  rw [List.zipIdx_append, List.map_append]
  simp
theorem ixs_len (W : List Rec) : (ixs W).length = W.length := by unfold ixs; simp
theorem ixs_tp (W : List Rec) : tpAll ((ixs W).map (·.2)) = true := by
  unfold ixs
  rw [List.map_map]
  exact tpAll_map (fun _ => rfl) _
/-- a legal move of ring n, by a link of the puzzle -/
def legal (p : Pz) (n : Nat) (low : List Int) (a b : Int) : Prop := ∃ r, p[n]? = some r ∧ ∃ l ∈ r, l.2.2 = low ∧ ((l.1 = a ∧ l.2.1 = b) ∨ (l.2.1 = a ∧ l.1 = b))
/-- the parts run from s to t by the moves -/
inductive PartsOk (p : Pz) (W : List Rec) (n : Nat) : List Int → List Part → List Mv → List Int → Prop
  | nil {s : List Int} : PartsOk p W n s [] [] s
  | rule {s t : List Int} {ps qs : List Part} {ms : List Mv} {j : Nat} {k : SKey} (h : W[j]? = some (k, qs)) (hk : k.1.length ≤ n) (hs : s.take k.1.length = k.1) (hr : PartsOk p W n (k.2 ++ s.drop k.1.length) ps ms t) : PartsOk p W n s (.rule j :: ps) (mvs p k.1.length k.1 k.2 ++ ms) t
  | move {s t : List Int} {ps : List Part} {ms : List Mv} {b : Int} (hl : legal p n s.dropLast (lastI s) b) (hs : s.length = n + 1) (hr : PartsOk p W n (s.dropLast ++ [b]) ps ms t) : PartsOk p W n s (.move n b :: ps) ((n, lastI s, b) :: ms) t
theorem PartsOk.ext {p : Pz} {W W' : List Rec} {n : Nat} {s t : List Int} {ps : List Part} {ms : List Mv} (h : PartsOk p W n s ps ms t) (hw : ∀ (j : Nat) x, W[j]? = some x → W'[j]? = some x) : PartsOk p W' n s ps ms t := by
  induction h with
  | nil => exact .nil
  | rule h hk hs hr ih => exact .rule (hw _ _ h) hk hs ih
  | move hl hs hr ih => exact .move hl hs ih
theorem PartsOk.app {p : Pz} {W : List Rec} {n : Nat} {s t u : List Int} {ps qs : List Part} {ms ns : List Mv} (h : PartsOk p W n s ps ms t) (h2 : PartsOk p W n t qs ns u) : PartsOk p W n s (ps ++ qs) (ms ++ ns) u := by
  induction h with
  | nil => exact h2
  | rule h hk hs hr ih =>
    rw [List.cons_append, List.append_assoc]
    exact .rule h hk hs (ih h2)
  | move hl hs hr ih => exact .move hl hs (ih h2)
structure RecOk (p : Pz) (W : List Rec) (x : Rec) : Prop where
  ex : ∃ n, x.1.1.length = n + 1 ∧ n + 1 ≤ p.length ∧ okSt p (n + 1) x.1.1 ∧ okSt p (n + 1) x.1.2 ∧ lastI x.1.1 ≠ lastI x.1.2 ∧ PartsOk p W n x.1.1 x.2 (mvs p (n + 1) x.1.1 x.1.2) x.1.2
  p1 : 1 ≤ x.2.length
  p7 : x.2.length ≤ 7
structure WInv (p : Pz) (S E : List Int) (W : List Rec) : Prop where
  rc : ∀ (i : Nat) x, W[i]? = some x → RecOk p (W.take i) x
  key : ∀ x ∈ W, KeyOf p S E x.1
  nd : (W.map (·.1)).Nodup
theorem WInv.len {p : Pz} {S E : List Int} {W : List Rec} (h : WInv p S E W) : W.length ≤ ((pats p).length + 1) * ((pats p).length + 1) := by
  have h1 := keys_le h.nd fun k hk => by
    obtain ⟨x, hx, rfl⟩ := List.mem_map.mp hk
    exact h.key x hx
  rwa [List.length_map] at h1
theorem WInv.len' {p : Pz} {S E : List Int} {W : List Rec} (h : WInv p S E W) (z : okP p) : W.length ≤ 484 := by
  have h1 := h.len
  have h2 := pats_len z
  have h3 : ((pats p).length + 1) * ((pats p).length + 1) ≤ 22 * 22 := Nat.mul_le_mul (by omega) (by omega)
  omega
theorem WInv.snoc {p : Pz} {S E : List Int} {W : List Rec} (h : WInv p S E W) {x : Rec} (hx : RecOk p W x) (hk : KeyOf p S E x.1) (hn : x.1 ∉ W.map (·.1)) : WInv p S E (W ++ [x]) := by
  refine ⟨fun i y hy => ?_, fun y hy => ?_, ?_⟩
  · by_cases hi : i < W.length
    · rw [List.getElem?_append_left hi] at hy
      rw [List.take_append_of_le_length (by omega)]
      exact h.rc i y hy
    · rw [List.getElem?_append_right (by omega)] at hy
      have hi0 : i = W.length := by
        have := (List.getElem?_eq_some_iff.mp hy).1
        simp at this
        omega
      subst hi0
      simp at hy
      subst hy
      rw [List.take_append_of_le_length (Nat.le_refl _), List.take_length]
      exact hx
  · rcases List.mem_append.mp hy with q | q
    · exact h.key y q
    · rw [List.mem_singleton] at q; subst q; exact hk
  · rw [List.map_append, List.nodup_append]
    refine ⟨h.nd, by simp, fun a ha b hb e => ?_⟩
    simp at hb
    subst e hb
    exact hn ha
/-- what parts_between leaves -/
structure PbPost (p : Pz) (S E : List Int) (W : List Rec) (s e : List Int) (L : List Part) (W' : List Rec) : Prop where
  inv : WInv p S E W'
  ext : ∃ A, W' = W ++ A ∧ ∀ x ∈ A, x.1.1.length ≤ s.length
  res : (s = e ∧ L = [] ∧ W' = W) ∨ (s ≠ e ∧ ∃ j ps, L = [.rule j] ∧ W'[j]? = some (trim s.length s e, ps) ∧ (trim s.length s e ∉ W.map (·.1) → j + 1 = W'.length))
/-- the parts that it gives run as the path below does -/
theorem PbPost.runs {p : Pz} {S E : List Int} {W W' : List Rec} {n : Nat} {s e : List Int} {a : Int} {L : List Part} (h : PbPost p S E W s e L W') (hs : s.length = n) (he : e.length = n) : PartsOk p W' n (s ++ [a]) L (mvs p n s e) (e ++ [a]) := by
  rcases h.res with ⟨rfl, rfl, _⟩ | ⟨hne, j, ps, rfl, hj, _⟩
  · rw [mvs_self]; exact .nil
  · obtain ⟨m, t⟩ := trim_sp p n s e hs he
    rw [hs, t.tr] at hj
    have le := t.le
    have l1 : (s.take m).length = m := by rw [List.length_take]; omega
    rw [t.mv]
    have q := PartsOk.rule (p := p) (n := n) (s := s ++ [a]) (t := e ++ [a]) (ps := []) (ms := []) hj (by show (s.take m).length ≤ n; omega) (by
      show (s ++ [a]).take (s.take m).length = s.take m
      rw [l1, List.take_append_of_le_length (by omega)]) (by
      show PartsOk p W' n (e.take m ++ (s ++ [a]).drop (s.take m).length) [] [] (e ++ [a])
      rw [l1, List.drop_append_of_le_length (by omega), t.dr, ← List.append_assoc, List.take_append_drop]
      exact .nil)
    rw [List.append_nil] at q
    have e3 : mvs p (s.take m).length (s.take m) (e.take m) = mvs p m (s.take m) (e.take m) := by rw [l1]
    rw [← e3]
    exact q
end RS
end TxtM4

section TxtM5
set_option Elab.async false
set_option linter.all false
set_option maxRecDepth 100000
set_option maxHeartbeats 1000000
/-! write: the loop along the segments -/
namespace RS
open PySem PySem.Spec PyProof.Rows L2
def chainS (p : Pz) (n : Nat) : Int → List Sg → Prop
  | _, [] => True
  | cur, x :: l => legal p n x.2.2 cur x.2.1 ∧ chainS p n x.2.1 l
theorem chainS_of {p : Pz} {n : Nat} {r : Rg} (hr : p[n]? = some r) : ∀ {l : List (Nat × Int)} {cur : Int}, chain r cur l → chainS p n cur (l.map fun x => (x.1, x.2, patAt r x.1))
  | [], _, _ => True.intro
  | x :: l, cur, h => by
    obtain ⟨⟨lk, h1, h2⟩, h3⟩ := h
    refine ⟨⟨r, hr, lk, List.mem_of_getElem? h1, ?_, ?_⟩, chainS_of hr h3⟩
    · show lk.2.2 = patAt r x.1
      unfold patAt; rw [h1]
    · exact h2
theorem chainS_at {p : Pz} {n : Nat} : ∀ {l : List Sg} {cur : Int} {i : Nat} {x : Sg}, chainS p n cur l → l[i]? = some x → legal p n x.2.2 ((l.take i).foldl (fun _ x => x.2.1) cur) x.2.1
  | [], _, i, x, _, h => by simp at h
  | y :: l, cur, 0, x, hc, h => by
    simp at h; subst h
    exact hc.1
  | y :: l, cur, i + 1, x, hc, h => by
    rw [List.take_succ_cons, List.foldl_cons]
    exact chainS_at hc.2 (by simpa using h)
theorem msum_pos {p : Pz} {m : Nat} : ∀ (l : List Sg) (a : (List Int × Int) × List Mv), (l.foldl (fun (a : (List Int × Int) × List Mv) x => ((x.2.2, x.2.1), a.2 ++ mvs p m a.1.1 x.2.2 ++ [(m, a.1.2, x.2.1)])) a).1.2 = l.foldl (fun _ x => x.2.1) a.1.2
  | [], a => rfl
  | x :: l, a => by rw [List.foldl_cons, List.foldl_cons, msum_pos l]
theorem fold_last : ∀ (l : List (Nat × Int)) (cur : Int) (f : Nat × Int → List Int), (l.map fun x => ((x.1, x.2, f x) : Sg)).foldl (fun _ x => x.2.1) cur = (l.map (·.2)).getLastD cur
  | [], cur, f => rfl
  | x :: l, cur, f => by
    rw [List.map_cons, List.foldl_cons, fold_last l x.2 f, List.map_cons]
    cases l with
    | nil => rfl
    | cons y l => simp [List.getLastD]
structure WrSt (p : Pz) (S E : List Int) (m : Nat) (s : List Int) (sg : List Sg) (W0 : List Rec) (i : Nat) (W : List Rec) (parts : List Part) : Prop where
  inv : WInv p S E W
  ext : ∃ A, W = W0 ++ A ∧ ∀ x ∈ A, x.1.1.length ≤ m
  run : PartsOk p W m s parts (msum p m (sg.take i) s).2 ((msum p m (sg.take i) s).1.1 ++ [(msum p m (sg.take i) s).1.2])
  lo : i ≤ parts.length
  hi : parts.length ≤ 2 * i
theorem WrSt.start {p : Pz} {S E : List Int} {m : Nat} {s : List Int} {sg : List Sg} {W : List Rec} (h : WInv p S E W) (hs : s ≠ []) : WrSt p S E m s sg W 0 W [] := by
  refine ⟨h, ⟨[], by simp, by simp⟩, ?_, Nat.zero_le _, Nat.zero_le _⟩
  show PartsOk p W m s [] [] (s.dropLast ++ [lastI s])
  rw [drop_last hs]
  exact .nil
theorem PbPost.l1 {p : Pz} {S E : List Int} {W W' : List Rec} {s e : List Int} {L : List Part} (h : PbPost p S E W s e L W') : L.length ≤ 1 := by
  rcases h.res with ⟨_, rfl, _⟩ | ⟨_, j, ps, rfl, _⟩ <;> simp
theorem ext_get {W A : List Rec} {j : Nat} {x : Rec} (h : W[j]? = some x) : (W ++ A)[j]? = some x := by
  rw [List.getElem?_append_left (List.getElem?_eq_some_iff.mp h).1]; exact h
theorem WrSt.step {p : Pz} {S E : List Int} {m i : Nat} {s : List Int} {sg : List Sg} {W0 W W' : List Rec} {parts L : List Part} {x : Sg} (h : WrSt p S E m s sg W0 i W parts) (hx : sg[i]? = some x) (hc : chainS p m (lastI s) sg)
    (lc : (msum p m (sg.take i) s).1.1.length = m) (lx : x.2.2.length = m) (hp : PbPost p S E W (msum p m (sg.take i) s).1.1 x.2.2 L W') : WrSt p S E m s sg W0 (i + 1) W' (parts ++ L ++ [.move m x.2.1]) := by
  have l1 := hp.l1
  have lo := h.lo
  have hi := h.hi
  obtain ⟨A, e1, hA⟩ := h.ext
  obtain ⟨B, e2, hB⟩ := hp.ext
  refine ⟨hp.inv, ⟨A ++ B, by rw [e2, e1, List.append_assoc], fun y hy => ?_⟩, ?_, by simp; omega, by simp; omega⟩
  · rcases List.mem_append.mp hy with q | q
    · exact hA y q
    · have := hB y q; omega
  · rw [msum_take hx]
    have r1 : PartsOk p W' m s parts _ _ := h.run.ext fun j y hj => by rw [e2]; exact ext_get hj
    have r2 := hp.runs (a := (msum p m (sg.take i) s).1.2) lc lx
    have pos : (msum p m (sg.take i) s).1.2 = (sg.take i).foldl (fun _ x => x.2.1) (lastI s) := msum_pos (sg.take i) ((s.dropLast, lastI s), [])
    have lg := chainS_at hc hx
    rw [← pos] at lg
    have ed : (x.2.2 ++ [(msum p m (sg.take i) s).1.2]).dropLast = x.2.2 := by rw [List.dropLast_concat]
    have el : lastI (x.2.2 ++ [(msum p m (sg.take i) s).1.2]) = (msum p m (sg.take i) s).1.2 := by unfold lastI; simp
    have r3 : PartsOk p W' m (x.2.2 ++ [(msum p m (sg.take i) s).1.2]) [.move m x.2.1] [(m, (msum p m (sg.take i) s).1.2, x.2.1)] (x.2.2 ++ [x.2.1]) := by
      have q := PartsOk.move (p := p) (W := W') (n := m) (s := x.2.2 ++ [(msum p m (sg.take i) s).1.2]) (t := x.2.2 ++ [x.2.1]) (ps := []) (ms := []) (b := x.2.1) (by rw [ed, el]; exact lg) (by simp [lx]) (by rw [ed]; exact .nil)
      rwa [el] at q
    exact (r1.app r2).app r3
/-- the last call and the record -/
theorem WrSt.finish {p : Pz} {S E : List Int} {m : Nat} {s e : List Int} {W0 W W' : List Rec} {parts L : List Part} (sg : SegOk p m s e) (mp : m + 1 ≤ p.length) (sk : okSt p (m + 1) s) (ek : okSt p (m + 1) e) (hl : lastI s ≠ lastI e) (h : WrSt p S E m s (segsOf p s e) W0 (segsOf p s e).length W parts)
    (lc : (msum p m (segsOf p s e) s).1.1.length = m) (ko : KeyOf p S E (s, e)) (hn : (s, e) ∉ W0.map (·.1)) (hp : PbPost p S E W (msum p m (segsOf p s e) s).1.1 e.dropLast L W') :
    WInv p S E (W' ++ [((s, e), parts ++ L)]) ∧ ∃ A, W' ++ [((s, e), parts ++ L)] = W0 ++ A ∧ ∀ x ∈ A, x.1.1.length ≤ m + 1 := by
  have l1 := hp.l1
  have lo := h.lo
  have hi := h.hi
  have sl := sg.len
  have ls := sk.len mp
  have le := ek.len mp
  have hse : segsOf p s e ≠ [] := seg_ne sg hl
  have hpos := List.length_pos_iff.mpr hse
  obtain ⟨A, e1, hA⟩ := h.ext
  obtain ⟨B, e2, hB⟩ := hp.ext
  have hAB : ∀ y ∈ A ++ B, y.1.1.length ≤ m := fun y hy => by
    rcases List.mem_append.mp hy with q | q
    · exact hA y q
    · have := hB y q; omega
  have ew : W' = W0 ++ (A ++ B) := by rw [e2, e1, List.append_assoc]
  have run := h.run
  rw [List.take_length] at run
  have r1 : PartsOk p W' m s parts _ _ := run.ext fun j y hj => by rw [e2]; exact ext_get hj
  have hed : e.dropLast.length = m := by rw [List.length_dropLast, le]; rfl
  have r2 := hp.runs (a := (msum p m (segsOf p s e) s).1.2) lc hed
  have pos : (msum p m (segsOf p s e) s).1.2 = lastI e := by
    have q : (msum p m (segsOf p s e) s).1.2 = (segsOf p s e).foldl (fun _ x => x.2.1) (lastI s) := msum_pos (segsOf p s e) ((s.dropLast, lastI s), [])
    obtain ⟨r, l, hr, po, es⟩ := sg.path
    rw [q, es, fold_last l (lastI s) (fun x => patAt r x.1), po.la]
  have hen : e ≠ [] := fun z => by rw [z] at le; cases le
  have r3 := r1.app r2
  rw [← mvs_unf hl, pos, drop_last hen] at r3
  refine ⟨hp.inv.snoc (x := ((s, e), parts ++ L)) ⟨⟨m, ls, mp, sk, ek, hl, r3⟩, by simp; omega, by simp; omega⟩ ko ?_, A ++ B ++ [((s, e), parts ++ L)], by rw [ew, List.append_assoc], fun x hx => ?_⟩
  · rw [ew, List.map_append]
    intro z
    rcases List.mem_append.mp z with q | q
    · exact hn q
    · obtain ⟨y, hy, e3⟩ := List.mem_map.mp q
      have h1 := hAB y hy
      have h2 : y.1.1 = s := congrArg Prod.fst e3
      rw [h2, ls] at h1
      omega
  · rcases List.mem_append.mp hx with q | q
    · have := hAB x q; omega
    · rw [List.mem_singleton] at q
      subst q
      show s.length ≤ m + 1
      omega
end RS
end TxtM5

section TxtP9
set_option Elab.async false
set_option linter.all false
set_option maxRecDepth 100000
set_option maxHeartbeats 1000000
namespace RS
open PySem PySem.Spec PyProof.Rows L2
section
variable {P : Program} {w : World} {K : PySem.W.Frag} {mg : Str → Option Value} {base : Heap} {c : Ads}
abbrev wrC (c : Ads) (di ru ix : Addr) : Cell := .ins c.wr [("distances", .val (.ref di)), ("rules", .val (.ref ru)), ("indices", .val (.ref ix))]
def R_Wr (c : Ads) : RR := fun G dl Kc => ∃ y p, G = [(y, .ins c.wr [])] ∧ dl = [.val (.ref y), dP p] ∧ Kc = fun d N G' => d = .non ∧ ∃ di q ru ix, N = [(ix, .dn []), (ru, .lst []), (q, .dn []), (di, diC c p q)] ∧ G' = [(y, wrC c di ru ix)]
theorem sc_Wr : FnScope ["self", "rings"] ["self", "rings"] (defScope (inClass (top 44) 0)) := ⟨rfl, rfl, rfl, by decide +kernel, rfl, by decide +kernel, by decide +kernel⟩
theorem ok_Wr (T : Env K mg c) : Mk0 P w K mg base 3 "RuleWriter" c.wr ["self", "rings"] (R_Wr c) := T.Wr.mk0 fun f fd F => fn_A F sc_Wr (fun G dl d h => by obtain ⟨y, p, rfl, rfl, _⟩ := h; rfl) fun cdv A outer s H E hr G dl Kc hF => by
  obtain ⟨y, p, rfl, rfl, rfl⟩ := hF
  refine xs_fld (p := y) (xw_make (ok_Di T) hr rfl (xaw_a (xa_cons (xv 1) xa_nil) ⟨[], [], rfl, List.nodup_nil, by simp, by simp [ldTp, locD], by simp [cellTp], fun di hdi => ⟨_, ⟨di, p, rfl, rfl, rfl⟩, ?_⟩⟩)) (.inl (by simp))
  rintro d N G' ⟨rfl, q, rfl, rfl⟩
  refine ⟨rfl, _, [], rfl, fun _ hN => ⟨xv 0, 2, c.wr, [], rfl, T.Wr.cls, T.wr_d, by decide, ?_⟩⟩
  have hq := hN (q, .dn []) List.mem_cons_self
  refine xs_fld (p := y) (xw_n (xn_lst xa_nil (by simp)) fun ru hru => ⟨xv 0, 3, c.wr, _, rfl, T.Wr.cls, T.wr_r, by simp [putFD], ?_⟩) (.inl (by simp))
  refine xs_fld (p := y) (xw_nnew fun ix hix => ⟨xv 0, 4, c.wr, _, rfl, T.Wr.cls, T.wr_i, by show 2 < 1000; decide, ?_⟩) (.inl (by simp))
  refine xs_nil ⟨[(ix, .dn []), (ru, .lst []), (q, .dn []), (di, diC c p q)], _, rfl, rfl, ?_, rfl, di, q, ru, ix, rfl, rfl⟩
  intro x hx
  simp at hx
  rcases hx with rfl | rfl | rfl | rfl <;> assumption
abbrev wG (c : Ads) (p : Pz) (y di q ru ix : Addr) (W : List Rec) : GG := [(y, wrC c di ru ix), (di, diC c p q), (ru, .lst (W.map dRec)), (ix, .dn (ixs W))]
def R_pb (c : Ads) (n : Nat) : RR := fun G dl Kc => ∃ y p di q ru ix W S E s e, G = wG c p y di q ru ix W ∧ dl = [.val (.ref y), dS s, dS e] ∧ PreB p S E n s e ∧ WInv p S E W ∧
  Kc = fun d N G' => ∃ r L W', d = .val (.ref r) ∧ N = [(r, .lst (L.map dPart))] ∧ G' = wG c p y di q ru ix W' ∧ PbPost p S E W s e L W'
structure PreW (p : Pz) (S E : List Int) (m : Nat) (s e : List Int) : Prop where
  z : okZ p
  mp : m + 1 ≤ p.length
  sk : okSt p (m + 1) s
  ek : okSt p (m + 1) e
  ne : lastI s ≠ lastI e
  ko : KeyOf p S E (s, e)
  ar : ∃ st en, Arg p S E st en ∧ m + 1 ≤ st.length ∧ m + 1 ≤ en.length ∧ s = st.take (m + 1) ∧ e = en.take (m + 1)
def R_wr (c : Ads) (m : Nat) : RR := fun G dl Kc => ∃ y p di q ru ix W S E s e, G = wG c p y di q ru ix W ∧ dl = [.val (.ref y), dS s, dS e] ∧ PreW p S E m s e ∧ WInv p S E W ∧ (s, e) ∉ W.map (·.1) ∧
  Kc = fun d N G' => d = .non ∧ N = [] ∧ ∃ V parts, G' = wG c p y di q ru ix (V ++ [((s, e), parts)]) ∧ WInv p S E (V ++ [((s, e), parts)]) ∧ ∃ A, V ++ [((s, e), parts)] = W ++ A ∧ ∀ x ∈ A, x.1.1.length ≤ m + 1
theorem sc_write : FnScope ["self", "start", "end", "current", "parts", "index", "position", "pattern"] ["self", "start", "end"] (defScope (inClass (top 44) 2)) := ⟨rfl, rfl, rfl, by decide +kernel, rfl, by decide +kernel, by decide +kernel⟩
theorem wG_tp {p : Pz} {y di q ru ix : Addr} {W : List Rec} : gTp (wG c p y di q ru ix W) = true := by
  simp [wG, cellTp, tpAll_map (fun _ => tp_dRec), ixs_tp]
theorem parts_tp {L : List Part} : tpAll (L.map dPart) = true := tpAll_map (fun _ => tp_dPart) L
theorem segs_tp {L : List Sg} : tpAll (L.map dSg) = true := tpAll_map (fun _ => tp_dSg) L
theorem boot_tuple : bootBuiltins "tuple" = some (.type "tuple") := by decide +kernel
theorem ok_write (T : Env K mg c) (m : Nat) (ih : Me0 P w K mg base c.wr (2 * m + 4) "parts_between" ["self", "start", "end"] (spA P w (R_pb c m))) : Me0 P w K mg base c.wr (2 * m + 5) "write" ["self", "start", "end"] (spA P w (R_wr c m)) := T.Wr_write.mk0 fun f fd F => fn_A F sc_write (fun G dl d h => by obtain ⟨y, p, di, q, ru, ix, W, S, E, s, e, rfl, rfl, _⟩ := h; rfl) fun cdv A outer s0 H E0 hr G dl Kc hF => by
  obtain ⟨y, p, di, q, ru, ix, W, S, E, s, e, rfl, rfl, pre, wi, hnew, rfl⟩ := hF
  have hu := hr.units
  have mp := pre.mp
  have sg := seg_ok pre.z mp pre.sk pre.ek
  have ls := pre.sk.len mp
  have le := pre.ek.len mp
  have hsn : s ≠ [] := fun z => by rw [z] at ls; cases ls
  obtain ⟨st, en, ar, m1, m2, ts, te⟩ := pre.ar
  have hch : chainS p m (lastI s) (segsOf p s e) := by
    obtain ⟨r, l, hr', po, es⟩ := sg.path
    rw [es]
    exact chainS_of hr' po.ch
  have hM : ∀ W0, ∀ x ∈ wG c p y di q ru ix W0, x.1 ∈ List.map (·.1) (wG c p y di q ru ix W) ∨ H x.1 = none := fun W0 x hx => .inl (by
    simp at hx ⊢
    rcases hx with rfl | rfl | rfl | rfl <;> simp)
  refine xs_par 3 4 sc_write.nd (xaw_cons (xw_e (x_init (xv 1)) ⟨tp_dS, xaw_cons (xw_n (xn_lst xa_nil (by simp)) fun pr hpr => ⟨rfl, xaw_nil ⟨_, _, rfl, ?_⟩⟩)⟩))
  refine xs_forW (xw_n (xn_meth (rl := (segsOf p s e).map dSg) (ok_segments T) (hr.mono (by omega)) T.Di.cls (xf (xv 0) (List.mem_cons_of_mem _ List.mem_cons_self) T.Wr.cls T.wr_d) (List.mem_cons_of_mem _ (List.mem_cons_of_mem _ List.mem_cons_self)) rfl (xa_cons (xv 1) (xa_cons (xv 2) xa_nil)) ⟨di, p, q, s, e, rfl, rfl, sg.ok, rfl⟩ (sub_one (List.mem_cons_of_mem _ (List.mem_cons_of_mem _ List.mem_cons_self)))) fun l hl =>
    ⟨l, _, fun i ds' G' => ∃ b5 b6 b7 Wi parts, ds' = [some (.val (.ref y)), some (dS s), some (dS e), some (dS (msum p m ((segsOf p s e).take i) s).1.1), some (.val (.ref pr)), b5, b6, b7] ∧ ldTp [b5, b6, b7] = true ∧
      G' = (l, .lst ((segsOf p s e).map dSg)) :: (pr, .lst (parts.map dPart)) :: wG c p y di q ru ix Wi ∧ WrSt p S E m s (segsOf p s e) W i Wi parts, rfl, List.mem_cons_self, ?_, ⟨⟨_, _, _, W, [], rfl, rfl, rfl, WrSt.start wi hsn⟩, ?_, ?_⟩⟩)
  · rintro i ds' G' ⟨b5, b6, b7, Wi, parts, rfl, _, rfl, _⟩
    exact List.mem_cons_self
  · rintro i d ds' G' hd ⟨b5, b6, b7, Wi, parts, rfl, hb, rfl, ws⟩
    obtain ⟨x, hx, rfl⟩ := map_get hd
    have hxm := List.mem_of_getElem? hx
    have hi := (List.getElem?_eq_some_iff.mp hx).1
    have slen := sg.len
    have cu := cur_at (S := S) (E := E) (i := i) sg mp ar m1 ts pre.sk (by omega)
    rw [← msum_cur] at cu
    have xp := sg.pat x hxm
    have xm := seg_pat sg hxm
    have cl := cu.ok.len (by omega)
    have xl := xp.len (by omega)
    refine ⟨_, _, xg_tup (xgs_cons (xgn 5 sc_write.nd) (xgs_cons (xgn 6 sc_write.nd) (xgs_cons (xgn 7 sc_write.nd) xgs_nil))) rfl, ?_⟩
    refine xs_expr (xw_extend (p := pr) (xv 4) (List.mem_cons_of_mem _ List.mem_cons_self) (xw_meth ih (hr.mono (by omega)) T.Wr.cls (xv 0) (List.mem_cons_of_mem _ (List.mem_cons_of_mem _ List.mem_cons_self)) rfl (xaw_a (xa_cons (xv 3) (xa_cons (xv 7) xa_nil))
      ⟨[2, 3, 4, 5], _, _, rfl, by decide, hM _, ?_, ?_, ⟨y, p, di, q, ru, ix, Wi, S, E, _, _, rfl, rfl, ⟨pre.z, by omega, by omega, by rw [cl]; exact cu.ok, by rw [cl]; exact xp, cu.nx _ xm xl⟩, ws.inv, rfl⟩, ?_⟩)) (.inr hpr) ?_)
    · simpa [ldTp] using hb
    · rw [gTp_cons, gTp_cons, wG_tp]
      simp [cellTp, segs_tp, parts_tp]
    · rintro d N G' ⟨r, L, W', rfl, rfl, rfl, pp⟩ _ hN
      have hr0 := hN _ List.mem_cons_self
      have l1 := pp.l1
      have whi := ws.hi
      have step := ws.step hx hch cl xl pp
      refine ⟨2, _, r, _, rfl, rfl, List.mem_cons_self, ?_, ?_, ?_⟩
      · simp; omega
      · show gTp ((r, .lst (L.map dPart)) :: (l, .lst ((segsOf p s e).map dSg)) :: (pr, .lst (parts.map dPart)) :: wG c p y di q ru ix W') = true
        rw [gTp_cons, gTp_cons, gTp_cons, wG_tp]
        simp [cellTp, segs_tp, parts_tp]
      · refine xs_expr (xw_append (p := pr) (xv 4) (List.mem_cons_of_mem _ (List.mem_cons_of_mem _ List.mem_cons_self)) (xw_e (x_tup (xa_cons x_str (xa_cons (x_sub (x_lenT T.len (xv 1)) x_int) (xa_cons (xv 6) xa_nil))) (by simp)) ⟨2, _, rfl, rfl, ?_, ?_, ?_⟩) (.inr hpr) ?_)
        · simp; omega
        · show gTp ((r, .lst (L.map dPart)) :: (l, .lst ((segsOf p s e).map dSg)) :: (pr, .lst (parts.map dPart ++ L.map dPart)) :: wG c p y di q ru ix W') = true
          rw [gTp_cons, gTp_cons, gTp_cons, wG_tp, ← List.map_append]
          simp only [cellTp, segs_tp, parts_tp]; rfl
        · refine xs_asg 3 sc_write.nd (xw_e (xv 7) ?_)
          refine xs_weak (G' := (l, .lst ((segsOf p s e).map dSg)) :: (pr, .lst ((parts ++ L ++ [Part.move m x.2.1]).map dPart)) :: wG c p y di q ru ix W') (xs_nil ⟨some (.int (x.1 : Nat)), some (.int x.2.1), some (dS x.2.2), W', _, ?_, ?_, rfl, step⟩) rfl (fun _ _ h => h) ⟨fun h => (List.nodup_cons.mp h).2, fun x' hx' => List.mem_cons_of_mem _ ?_⟩
          · rw [msum_take hx]; rfl
          · simp [ldTp]
          · have e1 : (parts ++ L ++ [Part.move m x.2.1]).map dPart = parts.map dPart ++ L.map dPart ++ [D.tup [.str (Str.ofString "move"), .int (((s.map D.int).length : Nat) - 1 : Int), .int x.2.1]] := by
              have e0 : ((((s.map D.int).length : Nat) : Int) - 1) = (m : Nat) := by rw [List.length_map, ls]; omega
              rw [List.map_append, List.map_append, e0]
              rfl
            rw [e1] at hx'
            exact hx'
        · simp [ldTp]
    · simpa [ldTp] using hb
  · rintro ds' G' ⟨b5, b6, b7, Wi, parts, rfl, hb, rfl, ws⟩
    rw [List.length_map] at ws
    have cu := cur_at (S := S) (E := E) (i := (segsOf p s e).length) sg mp ar m1 ts pre.sk (Nat.le_refl _)
    have ce := cur_end sg mp ar m2 te pre.ne
    rw [← msum_cur] at cu ce
    rw [List.take_length] at cu
    rw [List.length_map, List.take_length]
    have cl := cu.ok.len (by omega)
    have eo := pre.ek.drop mp
    refine xs_expr (xw_extend (p := pr) (xv 4) (List.mem_cons_of_mem _ List.mem_cons_self) (xw_meth ih (hr.mono (by omega)) T.Wr.cls (xv 0) (List.mem_cons_of_mem _ (List.mem_cons_of_mem _ List.mem_cons_self)) rfl (xaw_a (xa_cons (xv 3) (xa_cons (x_init (xv 2)) xa_nil))
      ⟨[2, 3, 4, 5], _, _, rfl, by decide, hM _, ?_, ?_, ⟨y, p, di, q, ru, ix, Wi, S, E, _, _, rfl, rfl, ⟨pre.z, by omega, by omega, by rw [cl]; exact cu.ok, by rw [cl]; exact eo, ce⟩, ws.inv, rfl⟩, ?_⟩)) (.inr hpr) ?_)
    · simpa [ldTp] using hb
    · rw [gTp_cons, gTp_cons, wG_tp]
      simp [cellTp, segs_tp, parts_tp]
    · rintro d N G' ⟨r, L, W', rfl, rfl, rfl, pp⟩ _ hN
      have l1 := pp.l1
      have whi := ws.hi
      have slen := sg.len
      obtain ⟨fi, fe⟩ := ws.finish sg mp pre.sk pre.ek pre.ne cl pre.ko hnew pp
      have wl := pp.inv.len' pre.z.tookP
      refine ⟨2, _, r, _, rfl, rfl, List.mem_cons_self, ?_, ?_, ?_⟩
      · simp; omega
      · show gTp ((r, .lst (L.map dPart)) :: (l, .lst ((segsOf p s e).map dSg)) :: (pr, .lst (parts.map dPart)) :: wG c p y di q ru ix W') = true
        rw [gTp_cons, gTp_cons, gTp_cons, wG_tp]
        simp [cellTp, segs_tp, parts_tp]
      · have hself : ∀ x ∈ wG c p y di q ru ix W', x ∈ (r, Cell.lst (L.map dPart)) :: (l, .lst ((segsOf p s e).map dSg)) :: (pr, .lst (parts.map dPart ++ L.map dPart)) :: wG c p y di q ru ix W' := fun x hx => List.mem_cons_of_mem _ (List.mem_cons_of_mem _ (List.mem_cons_of_mem _ hx))
        refine xs_weak (G' := (pr, .lst ((parts ++ L).map dPart)) :: wG c p y di q ru ix W') ?_ rfl (fun _ _ h => h) ⟨fun h => (List.nodup_cons.mp (List.nodup_cons.mp h).2).2, fun x' hx' => List.mem_cons_of_mem _ (List.mem_cons_of_mem _ (by rw [List.map_append] at hx'; exact hx'))⟩
        refine xs_nput (p := ix) hu (xw_e (x_lenL T.len (x_cell (xf (xv 0) (List.mem_cons_of_mem _ List.mem_cons_self) T.Wr.cls T.wr_r) (List.mem_cons_of_mem _ (List.mem_cons_of_mem _ (List.mem_cons_of_mem _ List.mem_cons_self))))) ⟨xf (xv 0) (List.mem_cons_of_mem _ List.mem_cons_self) T.Wr.cls T.wr_i, (s, e), 4, _, x_tup (xa_cons (xv 1) (xa_cons (xv 2) xa_nil)) (by simp), rfl, ?_, ?_⟩) (.inl (by simp))
        · rw [ixs_len]; omega
        · have hv : valD (ixs W') (s, e) = none := by
            cases hv : valD (ixs W') (s, e) with
            | none => rfl
            | some d =>
              exfalso
              obtain ⟨j, ps, hj, _⟩ := ixs_some hv
              have nd := fi.nd
              rw [List.map_append, List.nodup_append] at nd
              exact nd.2.2 (s, e) (List.mem_map_of_mem (f := (·.1)) (List.mem_of_getElem? hj)) (s, e) (by simp) rfl
          rw [putD_new hv, List.length_map, ← ixs_snoc W' ((s, e), parts ++ L)]
          refine xs_expr (xw_append (p := ru) (xf (xv 0) (List.mem_cons_of_mem _ List.mem_cons_self) T.Wr.cls T.wr_r) (List.mem_cons_of_mem _ (List.mem_cons_of_mem _ (List.mem_cons_of_mem _ List.mem_cons_self))) (xw_e (x_tup (xa_cons (xv 1) (xa_cons (x_tupleOf T.tuple boot_tuple (x_cell (xv 4) List.mem_cons_self)) xa_nil)) (by simp)) ⟨3, _, rfl, ?_, ?_, ?_, ?_⟩) (.inl (by simp)) ?_)
          · show tp (.tup [dS s, .tup ((parts ++ L).map dPart)]) = true
            rw [tp_tup, tpAll_cons, tpAll_cons, tp_dS, tp_tup, parts_tp]; rfl
          · rw [List.length_map]; omega
          · show gTp ((pr, .lst ((parts ++ L).map dPart)) :: (y, wrC c di ru ix) :: (di, diC c p q) :: (ru, .lst (W'.map dRec)) :: (ix, .dn (ixs (W' ++ [((s, e), parts ++ L)]))) :: []) = true
            simp [cellTp, tpAll_map (fun _ => tp_dRec), ixs_tp, -List.map_append, parts_tp]
          · refine xs_weak (G' := wG c p y di q ru ix (W' ++ [((s, e), parts ++ L)])) (xs_nil ⟨[], _, rfl, rfl, by simp, rfl, rfl, W', parts ++ L, rfl, fi, fe⟩) rfl (fun _ _ h => h) ⟨fun h => (List.nodup_cons.mp h).2, fun x' hx' => List.mem_cons_of_mem _ ?_⟩
            unfold wG at hx'
            rw [List.map_append] at hx'
            exact hx'
          · simpa [ldTp] using hb
    · simpa [ldTp] using hb
end
end RS
end TxtP9

section TxtP10
set_option Elab.async false
set_option linter.all false
set_option maxRecDepth 100000
set_option maxHeartbeats 1000000
namespace RS
open PySem PySem.Spec PyProof.Rows L2
theorem sub_pick {G G' : GG} (js : List Nat) (h : Pick G js G') (hj : js.Nodup) : Sub G' G :=
  ⟨fun hn => nodup_picked hn hj h.fst, fun p hp => let ⟨j, _, e⟩ := h.sub p hp; List.mem_of_getElem? e⟩
theorem xs_retW {X : Cx} {H0 : Hp} {M : List Addr} {ds : LD} {G : GG} {e : Expr} {K : AK} {pos : Pos} {rest : List Stmt} (he : XW X H0 M ds G e fun d G' => ∃ G'', Sub G'' G' ∧ K.rt d G'') : XSs X H0 M ds G (.Return (some e) pos :: rest) K := by
  intro σ H E at0 o
  refine sswp (pss_cons (ps_ret peS) pssS) ?_
  refine he σ H _ at0 fun d G' v H' k a t r => ?_
  obtain ⟨G'', hs, k⟩ := k
  exact o.rt d G'' v H' k r (a.sa.part hs) a.fr
theorem last_rec {α : Type} {W : List α} {j : Nat} {x : α} (h : W[j]? = some x) (hj : j + 1 = W.length) : W = W.take j ++ [x] := by
  rw [← take_snoc h, hj, List.take_length]
theorem arg_el {p : Pz} {S E s e : List Int} (a : Arg p S E s e) : s.length = e.length := by
  obtain ⟨v1, _, v2, _, rfl, rfl⟩ := a
  rw [List.length_take, List.length_take]
  omega
theorem nd_ix2 {W : List Rec} (h : (W.map (·.1)).Nodup) {i j : Nat} {k : SKey} {a b : List Part} (hi : W[i]? = some (k, a)) (hj : W[j]? = some (k, b)) : i = j :=
  nd_ix h (by rw [List.getElem?_map, hi]; rfl) (by rw [List.getElem?_map, hj]; rfl)
section
variable {P : Program} {w : World} {K : PySem.W.Frag} {mg : Str → Option Value} {base : Heap} {c : Ads}
theorem sc_pb : FnScope ["self", "start", "end"] ["self", "start", "end"] (defScope (inClass (top 44) 1)) := ⟨rfl, rfl, rfl, by decide +kernel, rfl, by decide +kernel, by decide +kernel⟩
theorem ok_pb (T : Env K mg c) (n : Nat) : Me0 P w K mg base c.wr (2 * n + 4) "parts_between" ["self", "start", "end"] (spA P w (R_pb c n)) := by
  induction n using Nat.strongRecOn with
  | _ n ih =>
  exact T.Wr_parts.mk0 fun f fd F => fn_A F sc_pb (fun G dl d h => by obtain ⟨y, p, di, q, ru, ix, W, S, E, s, e, rfl, rfl, _⟩ := h; rfl) fun cdv A outer s0 H E0 hr G dl Kc hF => by
    obtain ⟨y, p, di, q, ru, ix, W, S, E, st, en, rfl, rfl, pre, wi, rfl⟩ := hF
    have hu := hr.units
    have hpl := pre.hp
    have hn := pre.hn
    have hel := pre.el
    refine xs_while (fun m ds' G' => ∃ s' e', ds' = [some (.val (.ref y)), some (dS s'), some (dS e')] ∧ G' = wG c p y di q ru ix W ∧ TrB p st en s' e' m) st.length
      ⟨st, en, rfl, rfl, rfl, hel, Nat.le_refl _, by rw [List.take_length], by rw [← hel, List.take_length], pre.sk, pre.ek, rfl, rfl⟩ ?_
    rintro m ds' G' ⟨s', e', rfl, rfl, tb⟩
    refine ⟨!decide (s' = e') && decide (lastI s' = lastI e'), (t_and (t_neS hu (xv 1) (xv 2)) fun h => t_and1 (t_eqI hu (x_last (xv 1) ?_) (x_last (xv 2) ?_))).T, ?_, ?_⟩
    · intro z
      have := tb.ls; have := tb.le
      subst z
      have h0 : m = 0 := by simpa using tb.ls.symm
      subst h0
      have := nil_of_len tb.le
      subst this
      simp at h
    · intro z
      have := tb.ls; have := tb.le
      subst z
      have h0 : m = 0 := by simpa using tb.le.symm
      subst h0
      have := nil_of_len tb.ls
      subst this
      simp at h
    · intro ht
      simp only [Bool.and_eq_true, Bool.not_eq_true', decide_eq_false_iff_not, decide_eq_true_eq] at ht
      obtain ⟨h1, h2⟩ := ht
      cases m with
      | zero => exact absurd ((nil_of_len tb.ls).trans (nil_of_len tb.le).symm) h1
      | succ m =>
        refine xs_par 1 2 sc_pb.nd (xaw_a (xa_cons (x_init (xv 1)) (xa_cons (x_init (xv 2)) xa_nil)) ⟨_, _, rfl, ?_⟩)
        exact xs_nil ⟨m, by omega, _, _, rfl, rfl, tb.turn hpl hel h1 h2⟩
    · intro ht
      have hfin : s' = e' ∨ lastI s' ≠ lastI e' := by
        by_cases h : s' = e'
        · exact .inl h
        · refine .inr fun z => ?_
          simp [h, z] at ht
      have htr : trim st.length st en = (s', e') := tb.tr.trans (trim_end hfin)
      by_cases hse : s' = e'
      · refine xs_if1 ((t_eqS hu (xv 1) (xv 2)).to (by simp [hse])) ?_
        have hst : st = en := by
          by_cases h : st = en
          · exact h
          · exfalso
            obtain ⟨k, t⟩ := trim_sp p st.length st en rfl hel
            rw [t.tr] at htr
            have h1 : st.take k = s' := congrArg Prod.fst htr
            have h2 : en.take k = e' := congrArg Prod.snd htr
            have h3 : st.take k = en.take k := by rw [h1, h2, hse]
            apply h
            rw [← List.take_append_drop k st, ← List.take_append_drop k en, h3, t.dr]
        refine xs_ret (xw_n (xn_lst xa_nil (by simp)) fun r hr0 => ⟨[(r, .lst [])], _, rfl, rfl, by simpa using hr0, r, [], W, rfl, rfl, rfl, wi, ⟨[], by simp, by simp⟩, .inl ⟨hst, rfl, rfl⟩⟩)
      · refine xs_if0 ((t_eqS hu (xv 1) (xv 2)).to (by simp [hse])) ?_
        have hlast : lastI s' ≠ lastI e' := hfin.resolve_left hse
        have hst : st ≠ en := fun z => by
          subst z
          rw [trim_self] at htr
          apply hse
          exact (congrArg Prod.fst htr).symm.trans (congrArg Prod.snd htr)
        cases m with
        | zero => exact absurd ((nil_of_len tb.ls).trans (nil_of_len tb.le).symm) hse
        | succ m =>
          have mle := tb.mle
          have mp : m + 1 ≤ p.length := by omega
          have hsl : s'.length = m + 1 := tb.ls
          have ko : KeyOf p S E (s', e') := by
            have := arg_key pre.a
            rwa [htr] at this
          -- the last statement
          have hret : ∀ (W' : List Rec) j ps, WInv p S E W' → (∃ A, W' = W ++ A ∧ ∀ x ∈ A, x.1.1.length ≤ m + 1) → W'[j]? = some ((s', e'), ps) → valD (ixs W') (s', e') = some (.int (j : Nat)) → ((s', e') ∉ W.map (·.1) → j + 1 = W'.length) → PbPost p S E W st en [.rule j] W' := by
            intro W' j ps h1 h2 h3 h4 h5
            obtain ⟨A, e1, h2⟩ := h2
            refine ⟨h1, ⟨A, e1, fun x hx => Nat.le_trans (h2 x hx) mle⟩, .inr ⟨hst, j, ps, rfl, ?_, ?_⟩⟩
            · rw [htr]; exact h3
            · rw [htr]; exact h5
          refine xs_ifT (t := !(valD (ixs W) (s', e')).isSome) (t_nnotin hu (x_tup (xa_cons (xv 1) (xa_cons (xv 2) xa_nil)) (by simp)) (xf (xv 0) List.mem_cons_self T.Wr.cls T.wr_i) (List.mem_cons_of_mem _ (List.mem_cons_of_mem _ (List.mem_cons_of_mem _ List.mem_cons_self)))) ?_ ?_
          · intro hnt
            have hnone : valD (ixs W) (s', e') = none := by
              cases h : valD (ixs W) (s', e') with
              | none => rfl
              | some d => rw [h] at hnt; cases hnt
            have hnew : (s', e') ∉ W.map (·.1) := by rw [← ixs_fst]; exact valD_none hnone
            refine xs_expr (xw_meth (ok_write T m (ih m (by omega))) (hr.mono (by omega)) T.Wr.cls (xv 0) List.mem_cons_self rfl (xaw_a (xa_cons (xv 1) (xa_cons (xv 2) xa_nil))
              ⟨[0, 1, 2, 3], _, _, rfl, by decide, ?_, ?_, wG_tp, ⟨y, p, di, q, ru, ix, W, S, E, s', e', rfl, rfl, ⟨pre.z, mp, tb.sk, tb.ek, hlast, ko, st, en, pre.a, mle, by omega, tb.ts, tb.te⟩, wi, hnew, rfl⟩, ?_⟩))
            · intro x hx
              left
              simp at hx ⊢
              rcases hx with rfl | rfl | rfl | rfl <;> simp
            · simp [ldTp]
            · rintro d N G' ⟨rfl, rfl, V, parts, rfl, fi, fe⟩ _ _
              have hg : (V ++ [((s', e'), parts)])[V.length]? = some ((s', e'), parts) := by
                rw [List.getElem?_append_right (Nat.le_refl _)]; simp
              have hv : valD (ixs (V ++ [((s', e'), parts)])) (s', e') = some (.int (V.length : Nat)) := by
                cases hv : valD (ixs (V ++ [((s', e'), parts)])) (s', e') with
                | none =>
                  exfalso
                  have := valD_none hv
                  rw [ixs_fst] at this
                  exact this (by simp)
                | some d =>
                  obtain ⟨j, ps, hj, rfl⟩ := ixs_some hv
                  have := nd_ix2 fi.nd hg hj
                  subst this
                  rfl
              refine xs_nil (xs_ret (xw_n (xn_lst (xa_cons (x_tup (xa_cons x_str (xa_cons (x_nget hu (xf (xv 0) List.mem_cons_self T.Wr.cls T.wr_i) (List.mem_cons_of_mem _ (List.mem_cons_of_mem _ (List.mem_cons_of_mem _ List.mem_cons_self))) (x_tup (xa_cons (xv 1) (xa_cons (xv 2) xa_nil)) (by simp)) hv) xa_nil)) (by simp)) xa_nil) (by simp)) fun r hr0 =>
                ⟨[(r, .lst [dPart (.rule V.length)])], _, rfl, rfl, by simpa using hr0, r, [.rule V.length], _, rfl, rfl, rfl, hret _ _ _ fi fe hg hv fun _ => by simp⟩))
          · intro ht2
            cases hv : valD (ixs W) (s', e') with
            | none => rw [hv] at ht2; cases ht2
            | some d =>
              obtain ⟨j, ps, hj, rfl⟩ := ixs_some hv
              refine xs_nil (xs_ret (xw_n (xn_lst (xa_cons (x_tup (xa_cons x_str (xa_cons (x_nget hu (xf (xv 0) List.mem_cons_self T.Wr.cls T.wr_i) (List.mem_cons_of_mem _ (List.mem_cons_of_mem _ (List.mem_cons_of_mem _ List.mem_cons_self))) (x_tup (xa_cons (xv 1) (xa_cons (xv 2) xa_nil)) (by simp)) hv) xa_nil)) (by simp)) xa_nil) (by simp)) fun r hr0 =>
                ⟨[(r, .lst [dPart (.rule j)])], _, rfl, rfl, by simpa using hr0, r, [.rule j], _, rfl, rfl, rfl, hret _ _ _ wi ⟨[], by simp, by simp⟩ hj hv fun hn' => absurd (List.mem_map_of_mem (f := (·.1)) (List.mem_of_getElem? hj)) hn'⟩))
/-- what path_rules gives: the records -/
structure RulesOk (p : Pz) (s e : List Int) (W : List Rec) : Prop where
  inv : WInv p s e W
  emp : s = e → W = []
  top : s ≠ e → ∃ V ps, W = V ++ [(trim s.length s e, ps)]
def R_path (c : Ads) : RR := fun G dl Kc => ∃ y p s e, G = [(y, pzC c p)] ∧ dl = [.val (.ref y), dS s, dS e] ∧ okZ p ∧ okS s (szs p) ∧ okS e (szs p) ∧
  Kc = fun d N G' => ∃ r W, d = .val (.ref r) ∧ N = [(r, .lst (W.map dRec))] ∧ G' = [(y, pzC c p)] ∧ RulesOk p s e W
theorem okS.st {p : Pz} {s : List Int} (h : okS s (szs p)) : s.length = p.length ∧ okSt p p.length s := by
  refine ⟨by rw [h.1, szs_len], ?_⟩
  unfold okSt
  rw [List.take_length]
  exact h
theorem pre_top {p : Pz} {s e : List Int} (z : okZ p) (hs : okS s (szs p)) (he : okS e (szs p)) : PreB p s e s.length s e := by
  obtain ⟨h1, h2⟩ := hs.st
  obtain ⟨h3, h4⟩ := he.st
  refine ⟨z, Nat.le_refl _, by omega, by rw [h1]; exact h2, by rw [h1]; exact h4, s, List.mem_cons_self, e, List.mem_cons_self, ?_, ?_⟩ <;> rw [h1, h3, List.take_of_length_le (by omega)]
theorem sc_path_rules : FnScope ["puzzle", "start", "end", "writer"] ["puzzle", "start", "end"] (defScope (top 45)) := ⟨rfl, rfl, rfl, by decide +kernel, rfl, by decide +kernel, by decide +kernel⟩
theorem ok_path_rules (T : Env K mg c) : Fn0 P w K mg base 20 "path_rules" ["puzzle", "start", "end"] (spA P w (R_path c)) := T.path_rules.mk0 fun f fd F => fn_A F sc_path_rules (fun G dl d h => by obtain ⟨y, p, s, e, rfl, rfl, _⟩ := h; rfl) fun cdv A outer s0 H E0 hr G dl Kc hF => by
  obtain ⟨y, p, s, e, rfl, rfl, z, hs, he, rfl⟩ := hF
  have l1 := z.l7
  have hsl := hs.st.1
  have pre := pre_top z hs he
  refine xs_expr (xw_e (xcl (d := .non) (ok_check_states T) (hr.mono (by decide)) (xa_cons (xv 0) (xa_cons (XN.E (xn_lst (xa_cons (xv 1) (xa_cons (xv 2) xa_nil)) (by simp))) xa_nil)) ⟨y, p, [s, e], rfl, rfl, by omega, ?_, rfl⟩ sub_refl) ?_)
  · intro t ht
    simp at ht
    rcases ht with rfl | rfl <;> assumption
  refine xs_asg 3 sc_path_rules.nd (xw_make (ok_Wr T) (hr.mono (by decide)) rfl (xaw_a (xa_cons (x_meth0 (d := dP p) (ok_Pz_rings T) (hr.mono (by decide)) T.Pz.cls (xv 0) List.mem_cons_self rfl ⟨y, p, rfl, rfl, rfl⟩ sub_refl) xa_nil)
    ⟨[], [], rfl, List.nodup_nil, by simp, by simp [ldTp, locD], by simp [cellTp], fun wr hwr => ⟨_, ⟨wr, p, rfl, rfl, rfl⟩, ?_⟩⟩))
  rintro d N G' ⟨rfl, di, q, ru, ix, rfl, rfl⟩
  refine ⟨rfl, _, [], rfl, fun _ hN => ?_⟩
  have h1 := hN (ix, .dn []) (by simp)
  have h2 := hN (ru, .lst []) (by simp)
  have h3 := hN (q, .dn []) (by simp)
  have h4 := hN (di, diC c p q) (by simp)
  refine xs_expr (xw_meth (ok_pb T s.length) (hr.mono (by omega)) T.Wr.cls (xv 3) (List.mem_cons_of_mem _ (List.mem_cons_of_mem _ (List.mem_cons_of_mem _ (List.mem_cons_of_mem _ List.mem_cons_self)))) rfl (xaw_a (xa_cons (xv 1) (xa_cons (xv 2) xa_nil))
    ⟨[4, 3, 1, 0], _, _, rfl, by decide, ?_, by simp [ldTp, locD], ?_, ⟨wr, p, di, q, ru, ix, [], s, e, s, e, rfl, rfl, pre, ⟨by simp, by simp, by simp⟩, rfl⟩, ?_⟩))
  · intro x hx
    simp at hx
    rcases hx with rfl | rfl | rfl | rfl <;> exact .inr (by assumption)
  · show gTp [(ix, .dn []), (ru, .lst []), (q, .dn []), (di, diC c p q), (wr, wrC c di ru ix), (y, pzC c p)] = true
    simp [cellTp]
  · rintro d N G' ⟨r, L, W', rfl, rfl, rfl, pp⟩ _ hN2
    refine xs_retW (xw_e (xf (xv 3) (List.mem_cons_of_mem _ (List.mem_cons_of_mem _ (List.mem_cons_of_mem _ (List.mem_cons_of_mem _ (List.mem_cons_of_mem _ List.mem_cons_self))))) T.Wr.cls T.wr_r) ⟨[(ru, .lst (W'.map dRec)), (y, pzC c p)], sub_pick [2, 6] rfl (by decide), [(ru, .lst (W'.map dRec))], [(y, pzC c p)], rfl, rfl, by simpa using h2, ru, W', rfl, rfl, rfl, pp.inv, ?_, ?_⟩)
    · intro h
      rcases pp.res with ⟨_, _, e1⟩ | ⟨h2, _⟩
      · exact e1
      · exact absurd h h2
    · intro h
      rcases pp.res with ⟨h2, _⟩ | ⟨_, j, ps, _, h3, h4⟩
      · exact absurd h2 h
      · exact ⟨W'.take j, ps, last_rec h3 (h4 (by simp))⟩
end
end RS
end TxtP10

section TxtL9
set_option Elab.async false
set_option linter.all false
set_option maxRecDepth 100000
set_option maxHeartbeats 1000000
/-! values known up to a set -/
namespace RS
open PySem PySem.Spec PyProof.Rows L2
def spQ (P : Program) (w : World) (F : GG → List D → (D → Prop) → Prop) : Sp := fun vs H Q _ => ∃ G ds Kd, RpAll H ds vs ∧ Sat P w G H ∧ F G ds Kd ∧ ∀ d v H', Kd d → Ex H H' → Rp H' d v → Q v H'
def XQ (X : Cx) (G : GG) (ds : LD) (e : Expr) (Kd : D → Prop) : Prop := ∀ (σ : L2.St) (H : Hp) (Q : VK), Loc σ H ds → Sat X.prog X.w G H → (∀ d v H', Kd d → Ex H H' → Rp H' d v → Q v H') → wpE X e σ H Q
section
variable {X : Cx} {H0 : Hp} {M : List Addr} {ds : LD} {G : GG} {e a b : Expr} {es : List Expr} {K : D → GG → Prop} {Kd : D → Prop} {pos p2 : Pos} {d : D} {dl : List D} {k : Nat} {x : Str} {ps : List Str}
theorem xw_q (h : XQ X G ds e Kd) (k : ∀ d, Kd d → K d G) : XW X H0 M ds G e K := fun σ H Q a kk => h σ H Q a.lo a.sa fun d v H' kd e r => kk d G v H' (k d kd) (a.ex e) e.tu r
theorem xq_call {Fs : GG → List D → (D → Prop) → Prop} {G' : GG} (F : Fn0 X.prog X.w X.K X.mg X.base k x ps (spQ X.prog X.w Fs)) (hr : Room k X.A) (ha : XA X G ds (e :: es) dl) (hF : Fs G' dl Kd) (hG : Sub G' G) (hg : Gl X x := by rfl)
    (hd : (x == ("__debug__" : Str)) = false := by decide) (he : starEach (e :: es) X.env = (false, eval e X.env) :: starEach es X.env := by rfl) (hpl : (backTo pos (starEach es X.env)).any (·.1) = false := by rfl) : XQ X G ds (.Call (.Name x p2) (e :: es) [] pos) Kd := by
  intro σ H Q l s k
  obtain ⟨t, h, q⟩ := e_call (p := p2) (pos := pos) F hr hg hd he hpl
  refine ewp h (q σ H Q ?_)
  exact ha σ H _ l s fun vs H1 e1 rs => ⟨G', dl, Kd, rs, (s.ex e1).part hG, hF, fun d v H' kd e2 r => k d v H' kd (e1.trans e2) r⟩
theorem any_ok {H : Hp} {Kf : PySem.W.Frag} {d : D} {y : V} {dl : List D} (h2 : shp (.lst dl) = true) (ry : Rp H (.lst dl) y) : Dp Kf H y (.list (pyAll dl)) ∧ SeqAt.shaped (.list (pyAll dl)) = true ∧ ((pyAll dl).any fun z => PyData.eqv z (py d)) = dl.any fun z => deq z d := by
  rw [shp, Bool.and_eq_true] at h2
  have q := ry.dp (K := Kf) h2.1
  have s2 := h2.2
  rw [py] at q s2
  refine ⟨q, s2, ?_⟩
  have e : ∀ l : List D, ((pyAll l).any fun z => PyData.eqv z (py d)) = l.any fun z => deq z d := by
    intro l
    induction l with
    | nil => rfl
    | cons z l ih => rw [pyAll, List.any_cons, List.any_cons, ih]; rfl
  exact e dl
/-- d not in a list known up to a set -/
theorem t_notInQ {c : Bool} (hu : X.A.units + 65 < cLine) (ha : XE X G ds a d) (hb : XQ X G ds b Kd) (h1 : shp d = true) (h2 : ∀ z, Kd z → ∃ dl, z = .lst dl ∧ shp (.lst dl) = true ∧ (!dl.any fun z => deq z d) = c) (hm : behindInMarks .NotIn b = false := by rfl) :
    XT X G ds (.Compare a [.NotIn] [b] pos) c := by
  intro σ H Q l s k
  refine twp (pt_cmpR (op_notInD hu) peS peS hm) ?_
  refine ha σ H _ l s fun x H1 e1 rx => ?_
  refine hb σ H1 _ (l.ex e1) (s.ex e1) fun z y H2 kd e2 ry => ?_
  obtain ⟨dl, rfl, hs, hc⟩ := h2 z kd
  obtain ⟨q1, q2, q3⟩ := any_ok (Kf := X.K) (d := d) hs ry
  rw [shp, Bool.and_eq_true] at h1
  refine ⟨py d, pyAll dl, (rx.ex e2).dp h1.1, q1, h1.2, q2, ?_⟩
  rw [q3, hc]
  exact ⟨c, rfl, k H2 (e1.trans e2)⟩
theorem perm_rp {H : Hp} {ys xs : List V} (h : ys.Perm xs) : ∀ {dl : List D}, RpAll H dl xs → ∃ dl', dl'.Perm dl ∧ RpAll H dl' ys := by
  induction h with
  | nil => intro dl r; exact ⟨dl, List.Perm.refl _, r⟩
  | cons x h ih =>
    intro dl r
    cases dl with
    | nil => rw [RpAll] at r; cases r
    | cons d dl =>
      rw [RpAll] at r
      obtain ⟨v, vs, e, r1, r2⟩ := r
      cases e
      obtain ⟨dl', p1, r3⟩ := ih r2
      exact ⟨d :: dl', p1.cons d, .cons r1 r3⟩
  | swap x y l =>
    intro dl r
    cases dl with
    | nil => rw [RpAll] at r; cases r
    | cons d dl =>
      rw [RpAll] at r
      obtain ⟨v, vs, e, r1, r2⟩ := r
      cases e
      cases dl with
      | nil => rw [RpAll] at r2; cases r2
      | cons d2 dl =>
        rw [RpAll] at r2
        obtain ⟨v, vs, e, r3, r4⟩ := r2
        cases e
        exact ⟨d2 :: d :: dl, List.Perm.swap _ _ _, .cons r3 (.cons r1 r4)⟩
  | trans h1 h2 ih1 ih2 =>
    intro dl r
    obtain ⟨dl1, p1, r1⟩ := ih2 r
    obtain ⟨dl2, p2, r2⟩ := ih1 r1
    exact ⟨dl2, p2.trans p1, r2⟩
theorem perm_map {α β : Type} {f : α → β} {bs cs : List β} (h : bs.Perm cs) : ∀ {l : List α}, cs = l.map f → ∃ l' : List α, l'.Perm l ∧ bs = l'.map f := by
  induction h with
  | nil => intro l e; exact ⟨l, List.Perm.refl _, e⟩
  | cons x h ih =>
    intro l e
    cases l with
    | nil => cases e
    | cons a l =>
      rw [List.map_cons] at e
      cases e
      obtain ⟨l', p1, e2⟩ := ih rfl
      exact ⟨a :: l', p1.cons a, by rw [List.map_cons, e2]⟩
  | swap x y l0 =>
    intro l e
    cases l with
    | nil => cases e
    | cons a l =>
      cases l with
      | nil => cases e
      | cons b l =>
        simp only [List.map_cons] at e
        cases e
        exact ⟨b :: a :: l, List.Perm.swap _ _ _, rfl⟩
  | trans h1 h2 ih1 ih2 =>
    intro l e
    obtain ⟨l1, p1, e1⟩ := ih2 e
    obtain ⟨l2, p2, e2⟩ := ih1 e1
    exact ⟨l2, p2.trans p1, e2⟩
theorem boot_sorted : bootBuiltins "sorted" = some (.builtin "sorted") := by decide +kernel
/-- sorted(a list of pairs of ints) -/
theorem xq_sorted {ms : List (Nat × Int)} (hm : X.mg "sorted" = none) (ha : XE X G ds a (.lst (ms.map dM))) (hg : Gl X "sorted" := by rfl) (he : starEach [a] X.env = (false, eval a X.env) :: starEach [] X.env := by rfl) (hpl : (backTo pos (starEach [] X.env)).any (·.1) = false := by rfl) :
    XQ X G ds (.Call (.Name "sorted" p2) [a] [] pos) (fun d => ∃ ns : List (Nat × Int), ns.Perm ms ∧ d = .lst (ns.map dM)) := by
  intro σ H Q l s k
  refine ewp (pe_callB cr_sortedP hg hm boot_sorted (pa_cons peS pa_nil he) (by decide) (by decide) he hpl) ?_
  refine ha σ H _ l s fun v H1 e1 r1 => ?_
  rw [Rp] at r1
  obtain ⟨q, xs, rfl, h1, rr⟩ := r1
  refine ⟨q, xs, rfl, SqL.of h1, fun x hx => ?_, fun ys p hp hn => ?_⟩
  · obtain ⟨i, hi⟩ := List.mem_iff_getElem?.mp hx
    obtain ⟨d, hd, rd⟩ := rr.get' hi
    obtain ⟨m, hm2, rfl⟩ := map_get hd
    unfold dM at rd
    rw [Rp] at rd
    obtain ⟨t, us, rfl, ht, q2⟩ := rd
    obtain ⟨u1, u2, rfl, s1, s2⟩ := rpAll2 q2
    rw [rp_i s1, rp_i s2] at ht
    exact ⟨t, _, _, rfl, ht⟩
  · obtain ⟨dl', p1, r2⟩ := perm_rp hp rr
    obtain ⟨ns, p3, rfl⟩ := perm_map p1 rfl
    exact k _ _ _ ⟨ns, p3, rfl⟩ (e1.trans (Ex.new hn)) (rp_lst upd_same (r2.ex (Ex.new hn)))
end
section
variable {P : Program} {w : World} {K : PySem.W.Frag} {mg : Str → Option Value} {base : Heap} {x q : Str} {st : Stmt} {f : Addr} {fd : FuncData} {N ps : List Str} {k : Nat}
theorem fn_Q {Fs : GG → List D → (D → Prop) → Prop} (F : Fun K x q st f fd) (S : FnScope N ps (defScope st)) (hl : ∀ G dl d, Fs G dl d → dl.length = ps.length)
    (h : ∀ cdv A outer s H E, Room k (A.deeper (envOfC q (defScope st) s.heap.objs.size f cdv)) → ∀ G dl Kd, Fs G dl Kd → XSs (bx P w K mg base N q st f cdv A outer s H E) H [] (locD N dl) G (defBody st) ⟨fun _ _ => Kd .non, fun d' _ => Kd d', fun _ _ => False, fun _ _ => False⟩) :
    FnOk P w K mg base CX0 (k + 1) f fd ps (spQ P w Fs) := by
  refine F.ok S (fun vs H Q E hs => ?_) (fun cdv A outer s H vs Q E hr hs => ?_)
  · obtain ⟨G, ds, d, r, _, hF, _⟩ := hs
    rw [r.length, hl G ds d hF]
  · obtain ⟨G, ds, Kd, r, sa, hF, kk⟩ := hs
    refine ⟨_, pssS, ?_⟩
    refine h cdv A outer s H E hr G ds Kd hF (L2.start N vs) H _ ⟨loc_start r, sa, Fr.refl⟩ ⟨?_, ?_, fun _ _ _ _ z => z.elim, fun _ _ _ _ z => z.elim⟩
    · intro ds' G' σ' H' k a t
      exact kk .non .non H' k a.fr.to_ex rp_non
    · intro d' G' v H' k r s f
      exact kk d' v H' k f.to_ex r
end
end RS
end TxtL9

section TxtM6
set_option Elab.async false
set_option linter.all false
set_option maxRecDepth 100000
set_option maxHeartbeats 1000000
/-! moves that a state allows -/
namespace RS
open PySem PySem.Spec PyProof.Rows L2
def mOk (s : List Int) (i : Nat) (l : Lk) : Bool := decide (l.2.2 = s.take i) && decide (s.getD i 0 ∈ [l.1, l.2.1])
def mstep (s : List Int) (i : Nat) (acc : List (Nat × Int)) (l : Lk) : List (Nat × Int) := if mOk s i l = true then acc ++ [(i, if s.getD i 0 = l.1 then l.2.1 else l.1)] else acc
def mring (s : List Int) (acc : List (Nat × Int)) (x : Rg × Nat) : List (Nat × Int) := x.1.foldl (mstep s x.2) acc
def movesOf (p : Pz) (s : List Int) : List (Nat × Int) := p.zipIdx.foldl (mring s) []
theorem foldl_len2 {α β : Type} {f : List α → β → List α} {m : Nat} : ∀ (l : List β) (ks : List α), (∀ b ∈ l, ∀ ks, (f ks b).length ≤ ks.length + m) → (l.foldl f ks).length ≤ ks.length + m * l.length
  | [], ks, _ => by simp
  | b :: l, ks, h => by
    have h1 := foldl_len2 l (f ks b) fun b' hb => h b' (List.mem_cons_of_mem _ hb)
    have h2 := h b List.mem_cons_self ks
    rw [List.foldl_cons, List.length_cons, Nat.mul_succ]
    omega
theorem mstep_len {s : List Int} {i : Nat} (acc : List (Nat × Int)) (l : Lk) : (mstep s i acc l).length ≤ acc.length + 1 := by
  unfold mstep; split <;> simp
theorem mring_len {s : List Int} (acc : List (Nat × Int)) (x : Rg × Nat) : (mring s acc x).length ≤ acc.length + x.1.length := by
  have := foldl_len2 (f := mstep s x.2) (m := 1) x.1 acc fun b _ ks => mstep_len ks b
  unfold mring
  omega
theorem foldl_mono {α β : Type} {f : List α → β → List α} (h : ∀ ks b x, x ∈ ks → x ∈ f ks b) : ∀ (l : List β) (ks : List α) x, x ∈ ks → x ∈ l.foldl f ks
  | [], ks, x, hx => hx
  | b :: l, ks, x, hx => foldl_mono h l (f ks b) x (h ks b x hx)
theorem foldl_hit {α β : Type} {f : List α → β → List α} (h : ∀ ks b x, x ∈ ks → x ∈ f ks b) {b : β} {y : α} (hy : ∀ ks, y ∈ f ks b) : ∀ (l : List β) (ks : List α), b ∈ l → y ∈ l.foldl f ks
  | [], ks, hb => nomatch hb
  | c :: l, ks, hb => by
    rw [List.foldl_cons]
    rcases List.mem_cons.mp hb with rfl | hb
    · exact foldl_mono h l _ y (hy ks)
    · exact foldl_hit h hy l _ hb
theorem mstep_mono {s : List Int} {i : Nat} (ks : List (Nat × Int)) (b : Lk) (x : Nat × Int) (hx : x ∈ ks) : x ∈ mstep s i ks b := by
  unfold mstep; split
  · exact List.mem_append_left _ hx
  · exact hx
theorem mring_mono {s : List Int} (ks : List (Nat × Int)) (b : Rg × Nat) (x : Nat × Int) (hx : x ∈ ks) : x ∈ mring s ks b := foldl_mono mstep_mono _ _ x hx
/-- a legal move is among them -/
theorem legal_mem {p : Pz} {n : Nat} {s : List Int} {b : Int} (hne : ∀ r ∈ p, ∀ l ∈ r, l.1 ≠ l.2.1) (hs : s.length = n + 1) (h : legal p n s.dropLast (lastI s) b) : (n, b) ∈ movesOf (p.take (n + 1)) s := by
  obtain ⟨r, hr, l, hl, hp, hc⟩ := h
  have hsn : s ≠ [] := fun z => by rw [z] at hs; cases hs
  have hd : s.dropLast = s.take n := by
    rw [List.dropLast_eq_take, hs]; rfl
  have hg : s.getD n 0 = lastI s := by
    unfold lastI
    rw [List.getLastD_eq_getLast?, List.getLast?_eq_getElem?, hs, Nat.add_sub_cancel, List.getD_eq_getElem?_getD]
  have hne := hne r (List.mem_of_getElem? hr) l hl
  refine foldl_hit mring_mono (b := (r, n)) (fun ks => ?_) _ _ ?_
  · refine foldl_hit mstep_mono (b := l) (fun ks => ?_) _ _ hl
    unfold mstep
    have ho : mOk s n l = true := by
      unfold mOk
      rw [hg, hp, hd]
      rcases hc with ⟨h1, _⟩ | ⟨h1, _⟩ <;> simp [h1]
    rw [if_pos ho, hg]
    refine List.mem_append_right _ ?_
    rcases hc with ⟨h1, h2⟩ | ⟨h1, h2⟩
    · rw [if_pos h1.symm, h2]; exact List.mem_singleton.mpr rfl
    · rw [if_neg (fun z => hne (by rw [← z, h1])), h2]; exact List.mem_singleton.mpr rfl
  · refine List.mem_zipIdx_iff_getElem?.mpr ?_
    show (p.take (n + 1))[n]? = some r
    rw [List.getElem?_take_of_lt (by omega), hr]
theorem deq_dM {x y : Nat × Int} : deq (dM x) (dM y) = decide (x = y) := by
  obtain ⟨a, b⟩ := x
  obtain ⟨a', b'⟩ := y
  have h1 := deq_int (i := (a : Int)) (j := (a' : Int))
  have h2 := deq_int (i := b) (j := b')
  unfold deq at h1 h2
  unfold deq dM
  simp only [py, pyAll, PyData.eqv, PyData.eqvAll] at h1 h2 ⊢
  rw [h1, h2]
  by_cases e1 : a = a' <;> by_cases e2 : b = b' <;> first | (simp [e1, e2]; done) | (simp [e1, e2]; omega)
theorem sh_dM {x : Nat × Int} : sh 1 (dM x) = true := by unfold dM; simp [sh, shAll]
theorem shp_dM {x : Nat × Int} : shp (dM x) = true := shp_of (n := 1) (by decide) sh_dM
theorem shp_dMs {l : List (Nat × Int)} : shp (.lst (l.map dM)) = true := shp_of (n := 2) (by decide) (by rw [sh]; exact shAll_map (fun _ => sh_dM) l)
theorem any_dM {l : List (Nat × Int)} {x : Nat × Int} : ((l.map dM).any fun z => deq z (dM x)) = decide (x ∈ l) := by
  induction l with
  | nil => simp
  | cons y l ih =>
    rw [List.map_cons, List.any_cons, ih, deq_dM]
    by_cases h : x = y
    · simp [h]
    · have : ¬ y = x := fun z => h z.symm
      simp [h, this]
end RS
end TxtM6

section TxtP11
set_option Elab.async false
set_option linter.all false
set_option maxRecDepth 100000
set_option maxHeartbeats 1000000
namespace RS
open PySem PySem.Spec PyProof.Rows L2
theorem u65_of {k : Nat} {A : Around} (r : Room k A) : A.units + 65 < cLine := by have := r.un; omega
theorem getD_int {s : List Int} {i : Nat} (h : i < s.length) : (s.map D.int)[i]? = some (.int (s.getD i 0)) := by
  rw [List.getElem?_map, List.getElem?_eq_getElem h, List.getD_eq_getElem?_getD, List.getElem?_eq_getElem h]; rfl
section
variable {X : Cx} {ds : LD} {G : GG} {a b : Expr} {pos p2 : Pos} {s : List Int} {i : Int} {k : Nat}
/-- s[:i] -/
theorem x_to (ha : XE X G ds a (dS s)) (hb : XE X G ds b (.int i)) (h : i = (k : Int)) : XE X G ds (.Subscript a (.Slice none (some b) none p2) pos) (dS (s.take k)) := XE.to (x_sl ha xo_none (xo_some hb)) (by
  rw [cut_to h, ← List.map_take]; rfl)
/-- s[i:] -/
theorem x_from (ha : XE X G ds a (dS s)) (hb : XE X G ds b (.int i)) (h : i = (k : Int)) : XE X G ds (.Subscript a (.Slice (some b) none none p2) pos) (dS (s.drop k)) := XE.to (x_sl ha (xo_some hb) xo_none) (by
  rw [cut_from h, ← List.map_drop]; rfl)
theorem x_catS {t : List Int} (ha : XE X G ds a (dS s)) (hb : XE X G ds b (dS t)) (hz : s.length + t.length ≤ 100000) : XE X G ds (.BinOp a .Add b pos) (dS (s ++ t)) := XE.to (x_cat ha hb (by simpa using hz)) (by rw [← List.map_append]; rfl)
theorem t_inI {i : Int} {ns : List Int} (ha : XE X G ds a (.int i)) (hb : XE X G ds b (.tup (ns.map .int))) (hm : behindInMarks .In b = false := by rfl) : XT X G ds (.Compare a [.In] [b] pos) (decide (i ∈ ns)) := t_cmp op_in_seq ha hb hm fun x y H Q _ rx ry k => by
  rw [rp_i rx]
  obtain ⟨p, rfl, h⟩ := rp_ints ry
  refine ⟨p, _, rfl, .inr (SqT.of h), rfl, flat_ints ns, ?_⟩
  rw [if_neg Bool.false_ne_true, inV_ints]
  exact k _ H (Same.refl H) rp_bl
theorem xa_one {e : Expr} {d : D} (h : XE X G ds e d) (hs : starEach [e] X.env = (false, eval e X.env) :: starEach [] X.env := by rfl) : XA X G ds [e] [d] := xa_cons h xa_nil hs
end
section
variable {P : Program} {w : World} {K : PySem.W.Frag} {mg : Str → Option Value} {base : Heap} {c : Ads}
def F_moves_from (G : GG) (dl : List D) (Kd : D → Prop) : Prop := ∃ (p : Pz) (s : List Int), dl = [dP p, dS s] ∧ G = [] ∧ p.length ≤ 7 ∧ (∀ r ∈ p, r.length ≤ 7) ∧ p.length ≤ s.length ∧ Kd = fun d => ∃ ns : List (Nat × Int), ns.Perm (movesOf p s) ∧ d = .lst (ns.map dM)
theorem sc_moves_from : FnScope ["rings", "state", "moves", "index", "ring", "one", "other", "pattern"] ["rings", "state"] (defScope (top 27)) := ⟨rfl, rfl, rfl, by decide +kernel, rfl, by decide +kernel, by decide +kernel⟩
theorem ok_moves_from (T : Env K mg c) : Fn0 P w K mg base 1 "moves_from" ["rings", "state"] (spQ P w F_moves_from) := T.moves_from.mk0 fun f fd F => fn_Q F sc_moves_from (fun G dl d h => by obtain ⟨p, s, rfl, _⟩ := h; rfl) fun cdv A outer s0 H E0 hr G dl Kd hF => by
  obtain ⟨p, s, rfl, rfl, hz, hrz, hps, rfl⟩ := hF
  have hu := hr.units
  refine xs_asg 2 sc_moves_from.nd (xw_n (xn_lst xa_nil (by simp)) fun q hq => ?_)
  refine xs_for (dl := enD (p.map dR)) (xi_enumT T.enumerate (xv 0) (tpAll_map (fun _ => tp_dR) p)) (fun i ds' G' => ∃ b1 b2 b3 b4 b5, ds' = [some (dP p), some (dS s), some (.val (.ref q)), b1, b2, b3, b4, b5] ∧ ldTp [b1, b2, b3, b4, b5] = true ∧ G' = [(q, .lst (((p.zipIdx.take i).foldl (mring s) []).map dM))]) ⟨⟨_, _, _, _, _, rfl, rfl, rfl⟩, ?_, ?_⟩
  · rintro i d ds' G' hd ⟨b1, b2, b3, b4, b5, rfl, hb, rfl⟩
    rw [enD_get] at hd
    obtain ⟨u, hu1, rfl⟩ := Option.map_eq_some_iff.mp hd
    obtain ⟨r, hr1, rfl⟩ := map_get hu1
    have hrm := List.mem_of_getElem? hr1
    have hrl := hrz r hrm
    have hil := (List.getElem?_eq_some_iff.mp hr1).1
    have hzi : p.zipIdx[i]? = some (r, i) := by rw [List.getElem?_zipIdx, hr1]; simp
    refine ⟨_, _, xg_tup (xgs_cons (xgn 3 sc_moves_from.nd) (xgs_cons (xgn 4 sc_moves_from.nd) xgs_nil)) rfl, ?_⟩
    generalize hacc : (p.zipIdx.take i).foldl (mring s) [] = acc
    have hal : acc.length ≤ 49 := by
      have h1 := foldl_len2 (f := mring s) (m := 7) (p.zipIdx.take i) [] fun b hb ks => by
        have h2 := mring_len (s := s) ks b
        have h3 : b.1 ∈ p := by
          have h4 := List.mem_of_mem_take hb
          have := List.mem_zipIdx_iff_getElem?.mp h4
          exact List.mem_of_getElem? this
        have := hrz b.1 h3
        omega
      rw [hacc] at h1
      have h2 : (p.zipIdx.take i).length ≤ 7 := by rw [List.length_take, List.length_zipIdx]; omega
      simp only [List.length_nil] at h1
      omega
    rw [fold_take hzi, hacc]
    refine xs_for (dl := r.map dL) (xi_tup (xv 4) (tpAll_map (fun _ => tp_dL) r)) (fun j ds' G' => ∃ b3 b4 b5, ds' = [some (dP p), some (dS s), some (.val (.ref q)), some (.int (i : Nat)), some (dR r), b3, b4, b5] ∧ ldTp [b3, b4, b5] = true ∧ G' = [(q, .lst (((r.take j).foldl (mstep s i) acc).map dM))]) ⟨⟨b3, b4, b5, rfl, ?_, rfl⟩, ?_, ?_⟩
    · simp only [ldTp, List.all_cons, Bool.and_eq_true] at hb ⊢
      exact hb.2.2
    · rintro j d ds' G' hd ⟨b3, b4, b5, rfl, hb, rfl⟩
      obtain ⟨l, hl, rfl⟩ := map_get hd
      refine ⟨_, _, xg_tup (xgs_cons (xgn 5 sc_moves_from.nd) (xgs_cons (xgn 6 sc_moves_from.nd) (xgs_cons (xgn 7 sc_moves_from.nd) xgs_nil))) rfl, ?_⟩
      rw [fold_take hl]
      generalize hacc2 : (r.take j).foldl (mstep s i) acc = acc2
      have hal2 : acc2.length ≤ 60 := by
        have h1 := foldl_len2 (f := mstep s i) (m := 1) (r.take j) acc fun b hb ks => mstep_len ks b
        rw [hacc2] at h1
        have h2 : (r.take j).length ≤ 7 := by rw [List.length_take]; omega
        omega
      refine xs_ifT (t := mOk s i l) ((t_and (t_eqS hu (xv 7) (x_to (xv 1) (xv 3) rfl)) fun _ => t_and1 (t_inI (ns := [l.1, l.2.1]) (x_ixT (xv 1) (xv 3) (atI_of rfl (getD_int (by omega)))) (x_tup (xa_cons (xv 5) (xa_cons (xv 6) xa_nil)) (by simp))))).T ?_ ?_
      · intro ht
        refine xs_expr (xw_append (p := q) (xv 2) List.mem_cons_self (xw_e (x_tup (xa_cons (xv 3) (xa_one (x_if (t_eqI hu (x_ixT (xv 1) (xv 3) (atI_of rfl (getD_int (by omega)))) (xv 5)) (d := .int (if s.getD i 0 = l.1 then l.2.1 else l.1)) ?_ ?_))) (by simp)) ⟨0, _, rfl, rfl, ?_, ?_, ?_⟩) (.inr hq) ?_)
        · intro h
          rw [if_pos (of_decide_eq_true h)]
          exact xv 6
        · intro h
          rw [if_neg (of_decide_eq_false h)]
          exact xv 5
        · rw [List.length_map]; omega
        · simp [cellTp, tpAll_map (fun x : Nat × Int => (by simp [dM] : tp (dM x) = true))]
        · refine xs_nil (xs_nil ⟨_, _, _, rfl, by simp [ldTp], ?_⟩)
          unfold mstep
          rw [if_pos ht, List.map_append]; rfl
        · simp [ldTp]
      · intro ht
        refine xs_nil (xs_nil ⟨_, _, _, rfl, by simp [ldTp], ?_⟩)
        unfold mstep
        rw [if_neg (by rw [ht]; decide)]
    · rintro ds' G' ⟨b3, b4, b5, rfl, hb, rfl⟩
      refine xs_nil ⟨_, _, _, _, _, rfl, ?_, ?_⟩
      · simpa [ldTp] using hb
      · rw [List.length_map, List.take_length]; rfl
  · rintro ds' G' ⟨b1, b2, b3, b4, b5, rfl, hb, rfl⟩
    refine xs_ret (xw_q (xq_sorted T.sorted (x_cell (xv 2) List.mem_cons_self)) fun d hd => ?_)
    rw [enD_len, List.length_map] at hd
    have : p.length = p.zipIdx.length := by rw [List.length_zipIdx]
    rw [this, List.take_length] at hd
    exact hd
end
end RS
end TxtP11

section TxtP12
set_option Elab.async false
set_option linter.all false
set_option maxRecDepth 100000
set_option maxHeartbeats 1000000
namespace RS
open PySem PySem.Spec PyProof.Rows L2
section
variable {P : Program} {w : World} {K : PySem.W.Frag} {mg : Str → Option Value} {base : Heap} {c : Ads}
def F_is_move (G : GG) (dl : List D) (d : D) : Prop := ∃ x : Nat × Int, dl = [dM x] ∧ d = .bl true
theorem sc_is_move : FnScope ["value", "item"] ["value"] (defScope (top 28)) := ⟨rfl, rfl, rfl, by decide +kernel, rfl, by decide +kernel, by decide +kernel⟩
theorem ok_is_move (T : Env K mg c) : Fn0 P w K mg base 2 "is_move" ["value"] (spP P w F_is_move) := T.is_move.mk0 fun f fd F => fn_P F sc_is_move (fun G dl d h => by obtain ⟨x, rfl, _⟩ := h; rfl) fun cdv A outer s0 H E0 hr G dl d hF => by
  obtain ⟨x, rfl, rfl⟩ := hF
  have hu := hr.units
  refine xs_ret (xw_e (XE.to (x_and (c' := true) (x_isi (c := true) T.isinstance (xv 0) (xty "tuple" T.tuple) rfl rfl) fun _ => XE.to (x_and (c' := true) (x_eqI hu (x_lenT T.len (xv 0)) x_int) fun _ => XE.to (x_one (x_all (bs := [true, true]) T.all (XN.E (xn_lc (rl := [.bl true, .bl true]) (dl := [.int (x.1 : Nat), .int x.2]) (own := [("item", 1)]) sc_is_move.nd (xi_tup (xv 0) rfl).ex (blk ["value", "item"] (top 28) (by decide +kernel)) rfl (by simp) rfl ?_)))) rfl) rfl) rfl) rfl)
  intro k d r hd hr2
  have h2 : ∃ i : Int, d = .int i ∧ r = .bl true := by
    match k, hd, hr2 with
    | 0, hd, hr2 => cases hd; cases hr2; exact ⟨_, rfl, rfl⟩
    | 1, hd, hr2 => cases hd; cases hr2; exact ⟨_, rfl, rfl⟩
  obtain ⟨i, rfl, rfl⟩ := h2
  refine ⟨_, _, ?_, fun s H C cl fp => ⟨xgn 1 sc_is_move.nd, ?_⟩⟩
  · simp
  · exact xcl (ok_is_integer T) hr (xa_one (xv 1)) ⟨.int i, rfl, rfl, rfl⟩ sub_nil
def stepS (s : List Int) (x : Nat × Int) : List Int := s.take x.1 ++ [x.2] ++ s.drop (x.1 + 1)
def F_moved (G : GG) (dl : List D) (d : D) : Prop := ∃ (p : Pz) (s : List Int) (x : Nat × Int), dl = [dP p, dS s, dM x] ∧ p.length ≤ 7 ∧ (∀ r ∈ p, r.length ≤ 7) ∧ p.length ≤ s.length ∧ s.length ≤ 1000 ∧ x ∈ movesOf p s ∧ d = dS (stepS s x)
theorem sc_moved : FnScope ["rings", "state", "move", "ring", "position"] ["rings", "state", "move"] (defScope (top 29)) := ⟨rfl, rfl, rfl, by decide +kernel, rfl, by decide +kernel, by decide +kernel⟩
theorem ok_moved (T : Env K mg c) : Fn0 P w K mg base 3 "moved" ["rings", "state", "move"] (spP P w F_moved) := T.moved.mk0 fun f fd F => fn_P F sc_moved (fun G dl d h => by obtain ⟨p, s, x, rfl, _⟩ := h; rfl) fun cdv A outer s0 H E0 hr G dl d hF => by
  obtain ⟨p, s, x, rfl, hz, hrz, hps, hs, hx, rfl⟩ := hF
  refine xs_if0 ((t_or (t_not (t_val (xcl (d := .bl true) (ok_is_move T) (hr.mono (by decide)) (xa_one (xv 2)) ⟨x, rfl, rfl⟩ sub_nil))) fun _ => t_or1 (t_notInQ (c := false) (u65_of hr) (xv 2) (xq_call (ok_moves_from T) (hr.mono (by decide)) (xa_cons (xv 0) (xa_one (xv 1))) ⟨p, s, rfl, rfl, hz, hrz, hps, rfl⟩ sub_nil) shp_dM ?_)).T.to rfl) ?_
  · rintro z ⟨ns, hp, rfl⟩
    refine ⟨_, rfl, shp_dMs, ?_⟩
    rw [any_dM, decide_eq_true (hp.mem_iff.mpr hx)]; rfl
  refine xs_tgt (xw_e (xv 2) ⟨_, _, xg_tup (xgs_cons (xgn 3 sc_moved.nd) (xgs_cons (xgn 4 sc_moved.nd) xgs_nil)) rfl, ?_⟩)
  refine xs_ret (xw_e (x_catS (x_catS (t := [x.2]) (x_to (xv 1) (xv 3) rfl) (x_tup (xa_one (xv 4)) (by simp)) ?_) (x_from (xv 1) (x_add (xv 3) x_int) (k := x.1 + 1) (by push_cast; rfl)) ?_) rfl)
  · rw [List.length_take]; simp; omega
  · rw [List.length_append, List.length_take, List.length_drop]; simp; omega
/-! ### Path -/
abbrev paC (c : Ads) (z di : Addr) (s e : List Int) : Cell := .ins c.pa [("own_puzzle", .val (.ref z)), ("own_start", dS s), ("own_end", dS e), ("distances", .val (.ref di))]
def R_Pa (c : Ads) : RR := fun G dl Kc => ∃ y z p s e, G = [(y, .ins c.pa []), (z, pzC c p)] ∧ dl = [.val (.ref y), .val (.ref z), dS s, dS e] ∧ p.length ≤ 1000 ∧ okS s (szs p) ∧ okS e (szs p) ∧
  Kc = fun d N G' => d = .non ∧ ∃ di q, N = [(q, .dn []), (di, diC c p q)] ∧ G' = [(y, paC c z di s e), (z, pzC c p)]
theorem sc_Pa : FnScope ["self", "puzzle", "start", "end"] ["self", "puzzle", "start", "end"] (defScope (inClass (top 47) 0)) := ⟨rfl, rfl, rfl, by decide +kernel, rfl, by decide +kernel, by decide +kernel⟩
theorem ok_Pa (T : Env K mg c) : Mk0 P w K mg base 6 "Path" c.pa ["self", "puzzle", "start", "end"] (R_Pa c) := T.Pa.mk0 fun f fd F => fn_A F sc_Pa (fun G dl d h => by obtain ⟨y, z, p, s, e, rfl, rfl, _⟩ := h; rfl) fun cdv A outer s0 H E0 hr G dl Kc hF => by
  obtain ⟨y, z, p, s, e, rfl, rfl, hz, hs, he, rfl⟩ := hF
  refine xs_expr (xw_e (xcl (d := .non) (ok_check_states T) (hr.mono (by decide)) (xa_cons (xv 1) (xa_one (XN.E (xn_lst (xa_cons (xv 2) (xa_one (xv 3))) (by simp))))) ⟨z, p, [s, e], rfl, rfl, hz, ?_, rfl⟩ (sub_pick [1] rfl (by decide))) ?_)
  · intro t ht
    simp at ht
    rcases ht with rfl | rfl <;> assumption
  refine xs_fld (p := y) (xw_e (xv 1) ⟨xv 0, 0, c.pa, _, rfl, T.Pa.cls, T.pa_p, by show 0 < 1000; decide, ?_⟩) (.inl (by simp))
  refine xs_fld (p := y) (xw_e (xv 2) ⟨xv 0, 0, c.pa, _, rfl, T.Pa.cls, T.pa_s, by show 1 < 1000; decide, ?_⟩) (.inl (by simp))
  refine xs_fld (p := y) (xw_e (xv 3) ⟨xv 0, 0, c.pa, _, rfl, T.Pa.cls, T.pa_e, by show 2 < 1000; decide, ?_⟩) (.inl (by simp))
  refine xs_fld (p := y) (xw_make (ok_Di T) (hr.mono (by decide)) rfl (xaw_a (xa_one (x_meth0 (d := dP p) (ok_Pz_rings T) (hr.mono (by decide)) T.Pz.cls (xv 1) (fs := [("stored_rings", dP p)]) (List.mem_cons_of_mem _ List.mem_cons_self) rfl ⟨z, p, rfl, rfl, rfl⟩ (sub_pick [1] rfl (by decide))))
    ⟨[], [], rfl, List.nodup_nil, by simp, by simp [ldTp, locD], ?_, fun di hdi => ⟨_, ⟨di, p, rfl, rfl, rfl⟩, ?_⟩⟩)) (.inl (by simp))
  · show gTp [(y, .ins c.pa [("own_puzzle", .val (.ref z)), ("own_start", dS s), ("own_end", dS e)]), (z, pzC c p)] = true
    simp [cellTp]
  rintro d N G' ⟨rfl, q, rfl, rfl⟩
  refine ⟨rfl, _, [], rfl, fun _ hN => ⟨xv 0, 2, c.pa, _, rfl, T.Pa.cls, T.pa_d, by show 3 < 1000; decide, ?_⟩⟩
  have hq := hN (q, .dn []) List.mem_cons_self
  refine xs_nil ⟨[(q, .dn []), (di, diC c p q)], _, rfl, rfl, ?_, rfl, di, q, rfl, rfl⟩
  intro x hx
  simp at hx
  rcases hx with rfl | rfl <;> assumption
def R_len (c : Ads) : RR := fun G dl Kc => ∃ y z p s e di q, G = [(y, paC c z di s e), (di, diC c p q), (q, .dn [])] ∧ dl = [.val (.ref y)] ∧ okZ p ∧ okS s (szs p) ∧ okS e (szs p) ∧
  Kc = fun d N G' => d = .int (dist p s.length s e) ∧ N = [] ∧ ∃ kvs, tpAll (kvs.map (·.2)) = true ∧ G' = [(y, paC c z di s e), (di, diC c p q), (q, .dn kvs)]
theorem sc_len : FnScope ["self"] ["self"] (defScope (inClass (top 47) 1)) := ⟨rfl, rfl, rfl, by decide +kernel, rfl, by decide +kernel, by decide +kernel⟩
theorem ok_len (T : Env K mg c) : Me0 P w K mg base c.pa 11 "length" ["self"] (spA P w (R_len c)) := T.Pa_length.mk0 fun f fd F => fn_A F sc_len (fun G dl d h => by obtain ⟨y, z, p, s, e, di, q, rfl, rfl, _⟩ := h; rfl) fun cdv A outer s0 H E0 hr G dl Kc hF => by
  obtain ⟨y, z, p, s, e, di, q, rfl, rfl, zp, hs, he, rfl⟩ := hF
  have l7 := zp.l7
  have hsl := hs.st.1
  refine xs_ret (xw_meth (l := di) (ok_between T s.length) (hr.mono (by omega)) T.Di.cls (xf (xv 0) List.mem_cons_self T.Pa.cls T.pa_d) (List.mem_cons_of_mem _ List.mem_cons_self) rfl (xaw_a (xa_cons (xf (xv 0) List.mem_cons_self T.Pa.cls T.pa_s) (xa_one (xf (xv 0) List.mem_cons_self T.Pa.cls T.pa_e)))
    ⟨[1, 2], _, _, rfl, by decide, ?_, by simp [ldTp, locD], ?_, ⟨di, p, q, [], s, e, s, e, rfl, rfl, pre_top zp hs he, ⟨by simp, by simp, by simp⟩, rfl⟩, ?_⟩))
  · intro x hx
    left
    simp at hx ⊢
    rcases hx with rfl | rfl <;> simp
  · show gTp [(y, paC c z di s e), (di, diC c p q), (q, .dn [])] = true
    simp [cellTp]
  · rintro d N G' ⟨rfl, rfl, kvs', ci, rfl⟩ _ _
    exact ⟨[], _, rfl, rfl, by simp, rfl, rfl, kvs', ci.tp, rfl⟩
end
end RS
end TxtP12

section TxtP13
set_option Elab.async false
set_option linter.all false
set_option maxRecDepth 100000
set_option maxHeartbeats 1000000
namespace RS
open PySem PySem.Spec PyProof.Rows L2
section
variable {X : Cx} {H0 : Hp} {M : List Addr} {ds : LD} {G : GG} {e a b o : Expr} {K : AK} {pos p2 p3 p4 p5 : Pos} {d1 d2 d3 : D} {p C : Addr} {f1 f2 f3 : Str} {rest : List Stmt} {i j : Int}
/-- o.f1, o.f2, o.f3 = a tuple of three -/
theorem xs_fld3 {o1 o2 o3 : Expr} {kk jx : Nat} {fs : List (Str × D)} (he : XE X G ds e (.tup [d1, d2, d3])) (ho1 : ∀ G, XE X G ds o1 (.val (.ref p))) (ho2 : ∀ G, XE X G ds o2 (.val (.ref p))) (ho3 : ∀ G, XE X G ds o3 (.val (.ref p))) (hj : G[jx]? = some (p, .ins C fs)) (cl : Cls X.K C) (n1 : NoAttr X.K C f1) (n2 : NoAttr X.K C f2) (n3 : NoAttr X.K C f3) (hz : fs.length < 900)
    (k : XSs X H0 M ds (G.set jx (p, .ins C (putFD f3 d3 (putFD f2 d2 (putFD f1 d1 fs))))) rest K) (hp : p ∈ M ∨ H0 p = none) (hc : X.calm = true := by rfl)
    (hst : (assignEach [.Attribute o1 f1 p2, .Attribute o2 f2 p3, .Attribute o3 f3 p4] X.env).findIdx? (·.1) = none := by rfl) (hn : (assignEach [.Attribute o1 f1 p2, .Attribute o2 f2 p3, .Attribute o3 f3 p4] X.env).length = 3 := by rfl)
    (q1 : (assignEach [.Attribute o1 f1 p2, .Attribute o2 f2 p3, .Attribute o3 f3 p4] X.env).map (·.2) = assign (.Attribute o1 f1 p2) X.env :: (assignEach [.Attribute o2 f2 p3, .Attribute o3 f3 p4] X.env).map (·.2) := by rfl)
    (q2 : (assignEach [.Attribute o2 f2 p3, .Attribute o3 f3 p4] X.env).map (·.2) = assign (.Attribute o2 f2 p3) X.env :: (assignEach [.Attribute o3 f3 p4] X.env).map (·.2) := by rfl)
    (q3 : (assignEach [.Attribute o3 f3 p4] X.env).map (·.2) = assign (.Attribute o3 f3 p4) X.env :: (assignEach [] X.env).map (·.2) := by rfl)
    (hs : swapsWithSole [.Tuple [.Attribute o1 f1 p2, .Attribute o2 f2 p3, .Attribute o3 f3 p4] kk p5] e pos.line X.env = pure false := by rfl) (hw : swappedStores [.Tuple [.Attribute o1 f1 p2, .Attribute o2 f2 p3, .Attribute o3 f3 p4] kk p5] e X.env = pure none := by rfl)
    (h1 : (assignEach [.Tuple [.Attribute o1 f1 p2, .Attribute o2 f2 p3, .Attribute o3 f3 p4] kk p5] X.env).map (·.2) = [assign (.Tuple [.Attribute o1 f1 p2, .Attribute o2 f2 p3, .Attribute o3 f3 p4] kk p5) X.env] := by rfl) :
    XSs X H0 M ds G (.Assign [.Tuple [.Attribute o1 f1 p2, .Attribute o2 f2 p3, .Attribute o3 f3 p4] kk p5] e pos :: rest) K := by
  intro σ H E at0 oo
  refine sswp (pss_cons (ps_asg peS (pg_tup hc (pgs_cons (pg_fld peS) (pgs_cons (pg_fld peS) (pgs_cons (pg_fld peS) pgs_nil q3) q2) q1) hn hst) hs hw h1) pssS) ?_
  refine he σ H _ at0.lo at0.sa fun v H1 e1 r => ?_
  rw [Rp] at r
  obtain ⟨t, xs, rfl, ht, rr⟩ := r
  rw [RpAll] at rr
  obtain ⟨v1, vs, rfl, r1, rr⟩ := rr
  obtain ⟨v2, v3, rfl, r2, r3⟩ := rpAll2 rr
  refine ⟨t, _, rfl, SqT.of ht, rfl, v1, _, rfl, ?_⟩
  have a1 := at0.ex e1
  refine ho1 _ σ H1 _ a1.lo a1.sa fun y H2 e2 ry => ?_
  obtain rfl : y = .ref p := rp_v ry
  have a2 := a1.ex e2
  have r1 := r1.ex e2
  have r2 := r2.ex e2
  have r3 := r3.ex e2
  obtain ⟨dx, gs, g1, g2⟩ := a2.sa.get hj
  have hl : gs.length = fs.length := by simpa using congrArg List.length g2.1
  refine ⟨p, C, dx, gs, rfl, g1, cl, n1, by omega, ?_⟩
  have len1 : ∀ (f : Str) (v : D) (fs : List (Str × D)), (putFD f v fs).length ≤ fs.length + 1 := by
    intro f v fs
    induction fs with
    | nil => simp [putFD]
    | cons x fs ih =>
      unfold putFD
      split
      · simp
      · simp; omega
  have tl2 : TL H2 (upd H2 p (.ins C dx (putF f1 v1 gs))) := TL.upd (a2.sa.get hj).notup ((a2.sa.get hj).nolst rfl)
  obtain ⟨a3, t3⟩ := a2.setN (o := .ins C dx (putF f1 v1 gs)) (c' := .ins C (putFD f1 d1 fs)) hj rfl hp fun t => ⟨dx, _, upd_same, fall_put (r1.tl t) (g2.tl t)⟩
  have hj3 : (G.set jx (p, Cell.ins C (putFD f1 d1 fs)))[jx]? = some (p, Cell.ins C (putFD f1 d1 fs)) := List.getElem?_set_self (List.getElem?_eq_some_iff.mp hj).1
  refine ⟨v2, _, rfl, ?_⟩
  refine ho2 _ σ _ _ a3.lo a3.sa fun y H4 e4 ry => ?_
  obtain rfl : y = .ref p := rp_v ry
  have a4 := a3.ex e4
  have r2 := (r2.tl tl2).ex e4
  have r3 := (r3.tl tl2).ex e4
  obtain ⟨dx4, gs4, g14, g24⟩ := a4.sa.get hj3
  have hl4 : gs4.length = (putFD f1 d1 fs).length := by simpa using congrArg List.length g24.1
  have lx1 := len1 f1 d1 fs
  refine ⟨p, C, dx4, gs4, rfl, g14, cl, n2, by omega, ?_⟩
  have tl4 : TL H4 (upd H4 p (.ins C dx4 (putF f2 v2 gs4))) := TL.upd (a4.sa.get hj3).notup ((a4.sa.get hj3).nolst rfl)
  obtain ⟨a5, t5⟩ := a4.setN (o := .ins C dx4 (putF f2 v2 gs4)) (c' := .ins C (putFD f2 d2 (putFD f1 d1 fs))) hj3 rfl hp fun t => ⟨dx4, _, upd_same, fall_put (r2.tl t) (g24.tl t)⟩
  rw [List.set_set] at a5
  have hj5 : (G.set jx (p, Cell.ins C (putFD f2 d2 (putFD f1 d1 fs))))[jx]? = some (p, Cell.ins C (putFD f2 d2 (putFD f1 d1 fs))) := List.getElem?_set_self (List.getElem?_eq_some_iff.mp hj).1
  refine ⟨v3, _, rfl, ?_⟩
  refine ho3 _ σ _ _ a5.lo a5.sa fun y H6 e6 ry => ?_
  obtain rfl : y = .ref p := rp_v ry
  have a6 := a5.ex e6
  have r3 := (r3.tl tl4).ex e6
  obtain ⟨dx6, gs6, g16, g26⟩ := a6.sa.get hj5
  have hl6 : gs6.length = (putFD f2 d2 (putFD f1 d1 fs)).length := by simpa using congrArg List.length g26.1
  have lx2 := len1 f2 d2 (putFD f1 d1 fs)
  refine ⟨p, C, dx6, gs6, rfl, g16, cl, n3, by omega, ?_⟩
  obtain ⟨a7, t7⟩ := a6.setN (o := .ins C dx6 (putF f3 v3 gs6)) (c' := .ins C (putFD f3 d3 (putFD f2 d2 (putFD f1 d1 fs)))) hj5 rfl hp fun t => ⟨dx6, _, upd_same, fall_put (r3.tl t) (g26.tl t)⟩
  rw [List.set_set] at a7
  refine ⟨rfl, ?_⟩
  exact k σ _ E a7 (oo.tu (((((((e1.tu.trans e2.tu).trans t3).trans e4.tu).trans t5).trans e6.tu)).trans t7))
theorem boot_max : bootBuiltins "max" = some (.builtin "max") := by decide +kernel
theorem x_max2 (hm : X.mg "max" = none) (ha : XE X G ds a (.int i)) (hb : XE X G ds b (.int j)) (hc : X.calm = true := by rfl) (hg : Gl X "max" := by rfl)
    (he : starEach [a, b] X.env = (false, eval a X.env) :: starEach [b] X.env := by rfl) (hs2 : starEach [b] X.env = (false, eval b X.env) :: starEach [] X.env := by rfl) (hpl : (backTo pos (starEach [b] X.env)).any (·.1) = false := by rfl) :
    XE X G ds (.Call (.Name "max" p2) [a, b] [] pos) (.int (if j > i then j else i)) := x_callB (call_max2 hc) hg hm boot_max (xa_cons ha (xa_cons hb xa_nil hs2) he) (fun vs H Q s r k => by
  obtain ⟨v, u, rfl, q, q2⟩ := rpAll2 r
  rw [rp_i q, rp_i q2]
  exact ⟨i, j, rfl, k _ H (Same.refl H) rp_int⟩) (by decide) (by decide) he hpl
end
end RS
end TxtP13

section TxtP14
set_option Elab.async false
set_option linter.all false
set_option maxRecDepth 100000
set_option maxHeartbeats 1000000
namespace RS
open PySem PySem.Spec PyProof.Rows L2
/-- a rule's effect -/
structure Ef where
  rs : List Int
  re : List Int
  n : Int
  dp : Int
  fm : Option Mv
  lm : Option Mv
  rd : Bool
def dMv (x : Mv) : D := .tup [.int (x.1 : Nat), .int x.2.1, .int x.2.2]
def dOm : Option Mv → D
  | none => .non
  | some x => dMv x
@[simp] theorem tp_dMv {x : Mv} : tp (dMv x) = true := rfl
@[simp] theorem tp_dOm {x : Option Mv} : tp (dOm x) = true := by cases x <;> rfl
theorem dOm_nv {x : Option Mv} : ∀ v, dOm x ≠ .val v := by cases x <;> intro v h <;> cases h
abbrev efC (c : Ads) (e : Ef) : Cell := .ins c.ef [("rule_start", dS e.rs), ("rule_end", dS e.re), ("move_count", .int e.n), ("depth", .int e.dp), ("first_move", dOm e.fm), ("last_move", dOm e.lm), ("reduced", .bl e.rd)]
def ef0 (s : List Int) : Ef := ⟨s, s, 0, 1, none, none, true⟩
def undo (x : Mv) : Mv := (x.1, x.2.2, x.2.1)
def Ef.ext (e : Ef) (t : List Int) (n : Int) (f l : Mv) : Ef := ⟨e.rs, t, e.n + n, e.dp, some (e.fm.getD f), some l, e.rd && !(match e.lm with | some m => decide (f = undo m) | none => false)⟩
theorem deq_dMv {x y : Mv} : deq (dMv x) (dMv y) = decide (x = y) := by
  obtain ⟨a, b, d⟩ := x
  obtain ⟨a', b', d'⟩ := y
  have h1 := deq_int (i := (a : Int)) (j := (a' : Int))
  have h2 := deq_int (i := b) (j := b')
  have h3 := deq_int (i := d) (j := d')
  unfold deq at h1 h2 h3
  unfold deq dMv
  simp only [py, pyAll, PyData.eqv, PyData.eqvAll] at h1 h2 h3 ⊢
  rw [h1, h2, h3]
  by_cases e1 : a = a' <;> by_cases e2 : b = b' <;> by_cases e3 : d = d' <;> first | (simp [e1, e2, e3]; done) | (simp [e1, e2, e3]; omega)
theorem shp_dMv {x : Mv} : shp (dMv x) = true := shp_of (n := 1) (by decide) (by unfold dMv; simp [sh, shAll])
section
variable {P : Program} {w : World} {K : PySem.W.Frag} {mg : Str → Option Value} {base : Heap} {c : Ads}
def R_Ef (c : Ads) : RR := fun G dl Kc => ∃ y s, G = [(y, .ins c.ef [])] ∧ dl = [.val (.ref y), dS s] ∧ Kc = fun d N G' => d = .non ∧ N = [] ∧ G' = [(y, efC c (ef0 s))]
theorem sc_Ef : FnScope ["self", "start"] ["self", "start"] (defScope (inClass (top 35) 0)) := ⟨rfl, rfl, rfl, by decide +kernel, rfl, by decide +kernel, by decide +kernel⟩
theorem ok_Ef (T : Env K mg c) : Mk0 P w K mg base 1 "RuleEffect" c.ef ["self", "start"] (R_Ef c) := T.Ef.mk0 fun f fd F => fn_A F sc_Ef (fun G dl d h => by obtain ⟨y, s, rfl, rfl, _⟩ := h; rfl) fun cdv A outer s0 H E0 hr G dl Kc hF => by
  obtain ⟨y, s, rfl, rfl, rfl⟩ := hF
  refine xs_fld (p := y) (xw_e (xv 1) ⟨xv 0, 0, c.ef, _, rfl, T.Ef.cls, T.ef_s, by show 0 < 1000; decide, ?_⟩) (.inl (by simp))
  refine xs_fld (p := y) (xw_e (xv 1) ⟨xv 0, 0, c.ef, _, rfl, T.Ef.cls, T.ef_e, by show 1 < 1000; decide, ?_⟩) (.inl (by simp))
  refine xs_fld (p := y) (xw_e x_int ⟨xv 0, 0, c.ef, _, rfl, T.Ef.cls, T.ef_n, by show 2 < 1000; decide, ?_⟩) (.inl (by simp))
  refine xs_fld (p := y) (xw_e x_int ⟨xv 0, 0, c.ef, _, rfl, T.Ef.cls, T.ef_d, by show 3 < 1000; decide, ?_⟩) (.inl (by simp))
  refine xs_fld (p := y) (xw_e x_non ⟨xv 0, 0, c.ef, _, rfl, T.Ef.cls, T.ef_f, by show 4 < 1000; decide, ?_⟩) (.inl (by simp))
  refine xs_fld (p := y) (xw_e x_non ⟨xv 0, 0, c.ef, _, rfl, T.Ef.cls, T.ef_l, by show 5 < 1000; decide, ?_⟩) (.inl (by simp))
  refine xs_fld (p := y) (xw_e x_bl ⟨xv 0, 0, c.ef, _, rfl, T.Ef.cls, T.ef_r, by show 6 < 1000; decide, ?_⟩) (.inl (by simp))
  exact xs_nil ⟨[], _, rfl, rfl, by simp, rfl, rfl, rfl⟩
def R_ext (c : Ads) : RR := fun G dl Kc => ∃ y e t n f l, G = [(y, efC c e)] ∧ dl = [.val (.ref y), dS t, .int n, dMv f, dMv l] ∧ Kc = fun d N G' => d = .non ∧ N = [] ∧ G' = [(y, efC c (e.ext t n f l))]
theorem sc_ext : FnScope ["self", "end", "move_count", "first_move", "last_move"] ["self", "end", "move_count", "first_move", "last_move"] (defScope (inClass (top 35) 1)) := ⟨rfl, rfl, rfl, by decide +kernel, rfl, by decide +kernel, by decide +kernel⟩
theorem ok_ext (T : Env K mg c) : Me0 P w K mg base c.ef 1 "extend" ["self", "end", "move_count", "first_move", "last_move"] (spA P w (R_ext c)) := T.Ef_extend.mk0 fun f fd F => fn_A F sc_ext (fun G dl d h => by obtain ⟨y, e, t, n, f, l, rfl, rfl, _⟩ := h; rfl) fun cdv A outer s0 H E0 hr G dl Kc hF => by
  obtain ⟨y, e, t, n, fv, l, rfl, rfl, rfl⟩ := hF
  have hu := hr.units
  obtain ⟨rs, re, cn, dp, fm, lm, rd⟩ := e
  -- behind the first statement
  have fin : ∀ rd', rd' = (rd && !(match lm with | some m => decide (fv = undo m) | none => false)) → XSs (bx P w K mg base ["self", "end", "move_count", "first_move", "last_move"] "RuleEffect.extend" (inClass (top 35) 1) f cdv A outer s0 H E0) H (List.map (·.1) [(y, efC c ⟨rs, re, cn, dp, fm, lm, rd⟩)]) [some (.val (.ref y)), some (dS t), some (.int n), some (dMv fv), some (dMv l)] [(y, efC c ⟨rs, re, cn, dp, fm, lm, rd'⟩)] ((defBody (inClass (top 35) 1)).drop 1)
      ⟨fun _ G' => ∃ Nw Gn, G' = Nw ++ Gn ∧ Gn.map (·.1) = List.map (·.1) [(y, efC c ⟨rs, re, cn, dp, fm, lm, rd⟩)] ∧ (∀ p ∈ Nw, H p.1 = none) ∧ (D.non = .non ∧ Nw = [] ∧ Gn = [(y, efC c (Ef.ext ⟨rs, re, cn, dp, fm, lm, rd⟩ t n fv l))]),
        fun d G' => ∃ Nw Gn, G' = Nw ++ Gn ∧ Gn.map (·.1) = List.map (·.1) [(y, efC c ⟨rs, re, cn, dp, fm, lm, rd⟩)] ∧ (∀ p ∈ Nw, H p.1 = none) ∧ (d = .non ∧ Nw = [] ∧ Gn = [(y, efC c (Ef.ext ⟨rs, re, cn, dp, fm, lm, rd⟩ t n fv l))]), fun _ _ => False, fun _ _ => False⟩ := by
    intro rd' hrd
    refine xs_fld (p := y) (xw_e (d := dMv (fm.getD fv)) (x_if (t_isN (xf (xv 0) List.mem_cons_self T.Ef.cls T.ef_f) dOm_nv) ?_ ?_) ⟨xv 0, 0, c.ef, _, rfl, T.Ef.cls, T.ef_f, by show 7 < 1000; decide, ?_⟩) (.inl (by simp))
    · intro h
      cases fm with
      | none => exact xv 3
      | some m => cases h
    · intro h
      cases fm with
      | none => cases h
      | some m => exact xf (xv 0) List.mem_cons_self T.Ef.cls T.ef_f
    refine xs_fld3 (p := y) (jx := 0) (C := c.ef) (x_tup (xa_cons (xv 1) (xa_cons (x_add (xf (xv 0) List.mem_cons_self T.Ef.cls T.ef_n) (xv 2)) (xa_one (xv 4)))) (by simp)) (fun G => xv 0) (fun G => xv 0) (fun G => xv 0) rfl T.Ef.cls T.ef_e T.ef_n T.ef_l (by show 7 < 900; decide) ?_ (.inl (by simp))
    refine xs_nil ⟨[], _, rfl, rfl, by simp, rfl, rfl, ?_⟩
    unfold Ef.ext
    rw [← hrd]
    cases fm <;> rfl
  cases lm with
  | none =>
    refine xs_if0 ((t_and (c := false) (c' := false) ((t_notN (xf (d := dOm none) (xv 0) List.mem_cons_self T.Ef.cls T.ef_l) dOm_nv).to rfl) fun h => nomatch h).T.to rfl) ?_
    exact fin rd (by simp)
  | some m =>
    refine xs_ifT (t := decide (fv = undo m)) ((t_and (t_notN (xf (d := dOm (some m)) (xv 0) List.mem_cons_self T.Ef.cls T.ef_l) dOm_nv) fun _ => t_and1 ((t_eq hu (xv 3) (x_tup (xa_cons (x_ixT (xf (d := dOm (some m)) (xv 0) List.mem_cons_self T.Ef.cls T.ef_l) x_int (atI_of (k := 0) rfl rfl)) (xa_cons (x_ixT (xf (d := dOm (some m)) (xv 0) List.mem_cons_self T.Ef.cls T.ef_l) x_int (atI_of (k := 2) rfl rfl)) (xa_one (x_ixT (xf (d := dOm (some m)) (xv 0) List.mem_cons_self T.Ef.cls T.ef_l) x_int (atI_of (k := 1) rfl rfl))))) (by simp)) shp_dMv (shp_dMv (x := undo m))).to (deq_dMv (x := fv) (y := undo m)))).T.to ?_) ?_ ?_
    · simp [isNone, dOm, dMv]
    · intro h
      refine xs_fld (p := y) (xw_e x_bl ⟨xv 0, 0, c.ef, _, rfl, T.Ef.cls, T.ef_r, by show 7 < 1000; decide, ?_⟩) (.inl (by simp))
      refine xs_nil ?_
      exact fin false (by simp [h])
    · intro h
      refine xs_nil ?_
      exact fin rd (by simp [h])
end
end RS
end TxtP14

section TxtP15
set_option Elab.async false
set_option linter.all false
set_option maxRecDepth 100000
set_option maxHeartbeats 1000000
namespace RS
open PySem PySem.Spec PyProof.Rows L2
/-- the puzzle's text as the movers want it -/
structure Sml (p : Pz) : Prop where
  l7 : p.length ≤ 7
  r7 : ∀ r ∈ p, r.length ≤ 7
  ne : ∀ r ∈ p, ∀ l ∈ r, l.1 ≠ l.2.1
theorem okP.sml {p : Pz} (h : okP p) : Sml p := ⟨h.l7, fun r hr => by have := h.few r hr; omega, fun r hr l hl => by
  obtain ⟨i, hi⟩ := List.mem_iff_getElem?.mp hr
  exact ((h.rg i r hi).lk l hl).ne⟩
def Ef.mv (e : Ef) (n : Nat) (b : Int) : Ef := e.ext (stepS e.re (n, b)) 1 (n, e.re.getD n 0, b) (n, e.re.getD n 0, b)
def Ef.join (e i : Ef) (f l : Mv) : Ef := Ef.ext ⟨e.rs, e.re, e.n, if i.dp + 1 > e.dp then i.dp + 1 else e.dp, e.fm, e.lm, e.rd && i.rd⟩ (i.re ++ e.re.drop i.rs.length) i.n f l
section
variable {P : Program} {w : World} {K : PySem.W.Frag} {mg : Str → Option Value} {base : Heap} {c : Ads}
def R_fm (c : Ads) : RR := fun G dl Kc => ∃ y e p n b, G = [(y, efC c e)] ∧ dl = [dP p, .val (.ref y), dPart (.move n b)] ∧ Sml p ∧ e.re.length = n + 1 ∧ n + 1 ≤ p.length ∧ legal p n e.re.dropLast (lastI e.re) b ∧ e.n < 10 ^ 60 ∧
  Kc = fun d N G' => d = .bl true ∧ N = [] ∧ G' = [(y, efC c (e.mv n b))]
theorem sc_fm : FnScope ["rings", "effect", "part", "state", "lowest", "move"] ["rings", "effect", "part"] (defScope (top 36)) := ⟨rfl, rfl, rfl, by decide +kernel, rfl, by decide +kernel, by decide +kernel⟩
theorem ok_fm (T : Env K mg c) : Fn0 P w K mg base 4 "follow_move" ["rings", "effect", "part"] (spA P w (R_fm c)) := T.follow_move.mk0 fun f fd F => fn_A F sc_fm (fun G dl d h => by obtain ⟨y, e, p, n, b, rfl, rfl, _⟩ := h; rfl) fun cdv A outer s0 H E0 hr G dl Kc hF => by
  obtain ⟨y, e, p, n, b, rfl, rfl, sm, hl, hn, lg, hc, rfl⟩ := hF
  have hu := hr.units
  have l7 := sm.l7
  have hm := legal_mem sm.ne hl lg
  have tl : (p.take (n + 1)).length = n + 1 := by rw [List.length_take]; omega
  have r7 : ∀ r ∈ p.take (n + 1), r.length ≤ 7 := fun r hr => sm.r7 r (List.mem_of_mem_take hr)
  refine xs_asg 3 sc_fm.nd (xw_e (xf (xv 1) List.mem_cons_self T.Ef.cls T.ef_e) ?_)
  refine xs_asg 4 sc_fm.nd (xw_e (d := dP (p.take (n + 1))) (XE.to (x_sl (xv 0) xo_none (xo_some (x_lenT T.len (xv 3)))) ?_) ?_)
  · rw [List.length_map, hl, cut_to rfl, ← List.map_take]; rfl
  refine xs_if0 ((t_or (c := false) ((t_neI hu (x_lenT T.len (xv 2)) x_int).to rfl) fun _ => t_or (c := false) ((t_ge (xf (xv 1) List.mem_cons_self T.Ef.cls T.ef_n) (xgi T.MAX_MOVES)).to (decide_eq_false (by omega))) fun _ => t_or1 ((t_not (t_val (xcl (d := .bl true) (ok_is_move T) (hr.mono (by decide)) (xa_one (XE.to (x_sl (xv 2) (xo_some x_int) xo_none) rfl)) ⟨(n, b), rfl, rfl⟩ sub_nil))).to rfl)).T.to rfl) ?_
  refine xs_if0 (t_notInQ (d := dM (n, b)) (c := false) (u65_of hr) (XE.to (x_sl (xv 2) (xo_some x_int) xo_none) rfl) (xq_call (ok_moves_from T) (hr.mono (by decide)) (xa_cons (xv 4) (xa_one (xv 3))) ⟨p.take (n + 1), e.re, rfl, rfl, by omega, r7, by omega, rfl⟩ sub_nil) shp_dM ?_) ?_
  · rintro z ⟨ns, hp, rfl⟩
    refine ⟨_, rfl, shp_dMs, ?_⟩
    rw [any_dM, decide_eq_true (hp.mem_iff.mpr hm)]; rfl
  refine xs_asg 5 sc_fm.nd (xw_e (d := dMv (n, e.re.getD n 0, b)) (x_tup (xa_cons (x_ixT (xv 2) x_int (atI_of (k := 1) rfl rfl)) (xa_cons (x_ixT (xv 3) (x_ixT (d := .int (n : Nat)) (xv 2) x_int (atI_of (k := 1) rfl rfl)) (atI_of rfl (getD_int (by omega)))) (xa_one (x_ixT (xv 2) x_int (atI_of (k := 2) rfl rfl))))) (by simp)) ?_)
  refine xs_expr (xw_meth (ok_ext T) (hr.mono (by decide)) T.Ef.cls (xv 1) List.mem_cons_self rfl (xaw_a (xa_cons (xcl (d := dS (stepS e.re (n, b))) (ok_moved T) hr (xa_cons (xv 4) (xa_cons (xv 3) (xa_one (XE.to (x_sl (xv 2) (xo_some x_int) xo_none) rfl)))) ⟨p.take (n + 1), e.re, (n, b), rfl, by omega, r7, by omega, by omega, hm, rfl⟩ sub_nil) (xa_cons x_int (xa_cons (xv 5) (xa_one (xv 5)))))
    ⟨[0], _, _, rfl, by decide, ?_, ?_, ?_, ⟨y, e, _, _, (n, e.re.getD n 0, b), (n, e.re.getD n 0, b), rfl, rfl, rfl⟩, ?_⟩))
  · intro x hx
    left
    simp at hx ⊢
    rw [hx]
  · simp [ldTp, locD]
  · simp [cellTp]
  · rintro d N G' ⟨rfl, rfl, rfl⟩ _ _
    exact xs_ret (xw_e x_bl ⟨[], _, rfl, rfl, by simp, rfl, rfl, rfl⟩)
def R_fr (c : Ads) : RR := fun G dl Kc => ∃ y e q a i refs j f l, G = [(y, efC c e), (q, .lst refs), (a, efC c i)] ∧ dl = [.val (.ref q), .val (.ref y), dPart (.rule j)] ∧ refs[j]? = some (.val (.ref a)) ∧ tpAll refs = true ∧ refs.length ≤ 100000 ∧
  e.re.take i.rs.length = i.rs ∧ i.dp < 60 ∧ e.n + i.n ≤ 10 ^ 60 ∧ i.fm = some f ∧ i.lm = some l ∧ i.re.length + e.re.length ≤ 1000 ∧
  Kc = fun d N G' => d = .bl true ∧ N = [] ∧ G' = [(y, efC c (e.join i f l)), (q, .lst refs), (a, efC c i)]
theorem sc_fr : FnScope ["earlier", "effect", "part", "inner", "covered", "end"] ["earlier", "effect", "part"] (defScope (top 37)) := ⟨rfl, rfl, rfl, by decide +kernel, rfl, by decide +kernel, by decide +kernel⟩
theorem ok_fr (T : Env K mg c) : Fn0 P w K mg base 4 "follow_rule" ["earlier", "effect", "part"] (spA P w (R_fr c)) := T.follow_rule.mk0 fun f fd F => fn_A F sc_fr (fun G dl d h => by obtain ⟨y, e, q, a, i, refs, j, fm, l, rfl, rfl, _⟩ := h; rfl) fun cdv A outer s0 H E0 hr G dl Kc hF => by
  obtain ⟨y, e, q, a, i, refs, j, fm, l, rfl, rfl, hj, rtp, rl, htk, hdp, hnn, hfm, hlm, hsz, rfl⟩ := hF
  have hu := hr.units
  have hjl := (List.getElem?_eq_some_iff.mp hj).1
  have m1 : ∀ x : Cell, (q, Cell.lst refs) ∈ [(y, x), (q, .lst refs), (a, efC c i)] := fun _ => List.mem_cons_of_mem _ List.mem_cons_self
  have m2 : ∀ x : Cell, (a, efC c i) ∈ [(y, x), (q, .lst refs), (a, efC c i)] := fun _ => List.mem_cons_of_mem _ (List.mem_cons_of_mem _ List.mem_cons_self)
  refine xs_if0 ((t_or (c := false) ((t_neI hu (x_lenT T.len (xv 2)) x_int).to rfl) fun _ => t_or1 ((t_not (t_val (xcl (d := .bl true) (ok_is_index T) (hr.mono (by decide)) (xa_cons (x_ixT (d := .int (j : Nat)) (xv 2) x_int (atI_of (k := 1) rfl rfl)) (xa_one (x_lenL T.len (x_cell (xv 0) (m1 _))))) ⟨_, _, rfl, rfl, ?_⟩ sub_nil))).to rfl)).T.to rfl) ?_
  · congr 1
    simp only [idx]
    rw [decide_eq_true (by omega), decide_eq_true (by omega)]; rfl
  refine xs_asg 3 sc_fr.nd (xw_e (x_ixL (x_cell (xv 0) (m1 _)) (x_ixT (d := .int (j : Nat)) (xv 2) x_int (atI_of (k := 1) rfl rfl)) (atI_of rfl hj)) ?_)
  refine xs_asg 4 sc_fr.nd (xw_e (x_lenT T.len (xf (xv 3) (m2 _) T.Ef.cls T.ef_s)) ?_)
  refine xs_if0 ((t_or (c := false) ((t_neS hu (x_to (k := i.rs.length) (xf (xv 1) List.mem_cons_self T.Ef.cls T.ef_e) (xv 4) (by rw [List.length_map])) (xf (xv 3) (m2 _) T.Ef.cls T.ef_s)).to (by simp [htk])) fun _ => t_or1 ((t_ge (xf (xv 3) (m2 _) T.Ef.cls T.ef_d) (xgi T.MAX_DEPTH)).to (decide_eq_false (by omega)))).T.to rfl) ?_
  refine xs_if0 ((t_gt (x_add (xf (xv 1) List.mem_cons_self T.Ef.cls T.ef_n) (xf (xv 3) (m2 _) T.Ef.cls T.ef_n)) (xgi T.MAX_MOVES)).to (decide_eq_false (by omega))) ?_
  refine xs_fld (p := y) (xw_e (x_max2 T.max (xf (xv 1) List.mem_cons_self T.Ef.cls T.ef_d) (x_add (xf (xv 3) (m2 _) T.Ef.cls T.ef_d) x_int)) ⟨xv 1, 0, c.ef, _, rfl, T.Ef.cls, T.ef_d, by show 7 < 1000; decide, ?_⟩) (.inl (by simp))
  refine xs_fld (p := y) (xw_e (x_and (xf (d := .bl e.rd) (xv 1) List.mem_cons_self T.Ef.cls T.ef_r) fun _ => x_one (xf (xv 3) (m2 _) T.Ef.cls T.ef_r)) ⟨xv 1, 0, c.ef, _, rfl, T.Ef.cls, T.ef_r, by show 7 < 1000; decide, ?_⟩) (.inl (by simp))
  refine xs_asg 5 sc_fr.nd (xw_e (x_catS (xf (d := dS i.re) (xv 3) (m2 _) T.Ef.cls T.ef_e) (x_from (s := e.re) (k := i.rs.length) (xf (xv 1) List.mem_cons_self T.Ef.cls T.ef_e) (xv 4) (by rw [List.length_map])) (by rw [List.length_drop]; omega)) ?_)
  refine xs_expr (xw_meth (ok_ext T) (hr.mono (by decide)) T.Ef.cls (xv 1) List.mem_cons_self rfl (xaw_a (xa_cons (xv 5) (xa_cons (xf (d := .int i.n) (xv 3) (m2 _) T.Ef.cls T.ef_n) (xa_cons (xf (d := dOm i.fm) (xv 3) (m2 _) T.Ef.cls T.ef_f) (xa_one (xf (d := dOm i.lm) (xv 3) (m2 _) T.Ef.cls T.ef_l)))))
    ⟨[0], _, _, rfl, by decide, ?_, ?_, ?_, ⟨y, ⟨e.rs, e.re, e.n, if i.dp + 1 > e.dp then i.dp + 1 else e.dp, e.fm, e.lm, e.rd && i.rd⟩, i.re ++ e.re.drop i.rs.length, i.n, fm, l, rfl, by rw [hfm, hlm]; rfl, rfl⟩, ?_⟩))
  · intro x hx
    left
    simp at hx ⊢
    rw [hx]
    exact .inl rfl
  · simp [ldTp, locD]
  · show gTp [(y, efC c ⟨e.rs, e.re, e.n, if i.dp + 1 > e.dp then i.dp + 1 else e.dp, e.fm, e.lm, e.rd && i.rd⟩), (q, .lst refs), (a, efC c i)] = true
    simp [cellTp, rtp]
  · rintro d N G' ⟨rfl, rfl, rfl⟩ _ _
    exact xs_ret (xw_e x_bl ⟨[], _, rfl, rfl, by simp, rfl, rfl, rfl⟩)
theorem shp_dPart {x : Part} : shp (dPart x) = true := by
  cases x with
  | rule i =>
    refine shp_of (n := 1) (by decide) ?_
    unfold dPart
    rw [sh, shAll, shAll, shAll, sh, sh, Bool.and_true, Bool.and_true]
    decide +kernel
  | move r b =>
    refine shp_of (n := 1) (by decide) ?_
    unfold dPart
    rw [sh, shAll, shAll, shAll, shAll, sh, sh, sh, Bool.and_true, Bool.and_true, Bool.and_true]
    decide +kernel
/-- a part followed: what it asks of the effect -/
inductive Fp (c : Ads) (p : Pz) (q : Addr) (refs : List D) (e : Ef) : GG → Part → Ef → Prop where
  | move {n : Nat} {b : Int} (h1 : e.re.length = n + 1) (h2 : n + 1 ≤ p.length) (h3 : legal p n e.re.dropLast (lastI e.re) b) (h4 : e.n < 10 ^ 60) : Fp c p q refs e [] (.move n b) (e.mv n b)
  | rule {a : Addr} {i : Ef} {j : Nat} {f l : Mv} (h1 : refs[j]? = some (.val (.ref a))) (h2 : tpAll refs = true) (h3 : refs.length ≤ 100000) (h4 : e.re.take i.rs.length = i.rs) (h5 : i.dp < 60) (h6 : e.n + i.n ≤ 10 ^ 60) (h7 : i.fm = some f) (h8 : i.lm = some l) (h9 : i.re.length + e.re.length ≤ 1000) :
      Fp c p q refs e [(q, .lst refs), (a, efC c i)] (.rule j) (e.join i f l)
def R_fp (c : Ads) : RR := fun G dl Kc => ∃ y e p q refs G1 part e', G = (y, efC c e) :: G1 ∧ dl = [dP p, .val (.ref q), .val (.ref y), dPart part] ∧ Sml p ∧ Fp c p q refs e G1 part e' ∧ Kc = fun d N G' => d = .bl true ∧ N = [] ∧ G' = (y, efC c e') :: G1
theorem sc_fp : FnScope ["rings", "earlier", "effect", "part"] ["rings", "earlier", "effect", "part"] (defScope (top 39)) := ⟨rfl, rfl, rfl, by decide +kernel, rfl, by decide +kernel, by decide +kernel⟩
theorem deq_strB {a b : Str} : deq (.str a) (.str b) = (a == b) := by
  unfold deq
  rw [py, py, PyData.eqv]
theorem ok_fp (T : Env K mg c) : Fn0 P w K mg base 5 "follow_part" ["rings", "earlier", "effect", "part"] (spA P w (R_fp c)) := T.follow_part.mk0 fun f fd F => fn_A F sc_fp (fun G dl d h => by obtain ⟨y, e, p, q, refs, G1, part, e', rfl, rfl, _⟩ := h; rfl) fun cdv A outer s0 H E0 hr G dl Kc hF => by
  obtain ⟨y, e, p, q, refs, G1, part, e', rfl, rfl, sm, fp, rfl⟩ := hF
  have hu := hr.units
  cases fp with
  | @move n b h1 h2 h3 h4 =>
    refine xs_if0 ((t_or (c := false) ((t_not (t_val (x_isi (c := true) T.isinstance (xv 3) (xty "tuple" T.tuple) rfl rfl))).to rfl) fun _ => t_or (c := false) ((t_eq hu (xv 3) (x_tup xa_nil (by simp)) shp_dPart (shp_of (n := 1) (by decide) (by decide +kernel))).to rfl) fun _ => t_or1 ((t_not (t_val (x_isi (c := true) T.isinstance (x_ixT (d := .str "move") (xv 3) x_int (atI_of (k := 0) rfl rfl)) (xty "str" T.str) rfl rfl))).to rfl)).T.to rfl) ?_
    refine xs_if1 ((t_eq hu (x_ixT (d := .str "move") (xv 3) x_int (atI_of (k := 0) rfl rfl)) x_str (shp_of (n := 1) (by decide) (by decide +kernel)) (shp_of (n := 1) (by decide) (by decide +kernel))).to (by rw [deq_strB]; decide +kernel)) ?_
    refine xs_ret (xw_call (ok_fm T) hr rfl (xaw_a (xa_cons (xv 0) (xa_cons (xv 2) (xa_one (xv 3)))) ⟨[0], _, _, rfl, by decide, ?_, by simp [ldTp, locD], by simp [cellTp], ⟨y, e, p, n, b, rfl, rfl, sm, h1, h2, h3, h4, rfl⟩, ?_⟩))
    · intro x hx
      left
      simp at hx ⊢
      rw [hx]
    · rintro d N G' ⟨rfl, rfl, rfl⟩ _ _
      exact ⟨[], _, rfl, rfl, by simp, rfl, rfl, rfl⟩
  | @rule a i j fm l h1 h2 h3 h4 h5 h6 h7 h8 h9 =>
    refine xs_if0 ((t_or (c := false) ((t_not (t_val (x_isi (c := true) T.isinstance (xv 3) (xty "tuple" T.tuple) rfl rfl))).to rfl) fun _ => t_or (c := false) ((t_eq hu (xv 3) (x_tup xa_nil (by simp)) shp_dPart (shp_of (n := 1) (by decide) (by decide +kernel))).to rfl) fun _ => t_or1 ((t_not (t_val (x_isi (c := true) T.isinstance (x_ixT (d := .str "rule") (xv 3) x_int (atI_of (k := 0) rfl rfl)) (xty "str" T.str) rfl rfl))).to rfl)).T.to rfl) ?_
    refine xs_if0 ((t_eq hu (x_ixT (d := .str "rule") (xv 3) x_int (atI_of (k := 0) rfl rfl)) x_str (shp_of (n := 1) (by decide) (by decide +kernel)) (shp_of (n := 1) (by decide) (by decide +kernel))).to (by rw [deq_strB]; decide +kernel)) ?_
    refine xs_ret (xw_and (xw_e ((x_eq hu (x_ixT (d := .str "rule") (xv 3) x_int (atI_of (k := 0) rfl rfl)) x_str (shp_of (n := 1) (by decide) (by decide +kernel)) (shp_of (n := 1) (by decide) (by decide +kernel))).to (da := .bl true) (congrArg D.bl (by rw [deq_strB]; decide +kernel))) ⟨true, rfl, (fun z => nomatch z), fun _ =>
      xw_one (xw_call (ok_fr T) hr rfl (xaw_a (xa_cons (xv 1) (xa_cons (xv 2) (xa_one (xv 3)))) ⟨[0, 1, 2], _, _, rfl, by decide, ?_, by simp [ldTp, locD], by simp [cellTp, h2], ⟨y, e, q, a, i, refs, j, fm, l, rfl, rfl, h1, h2, h3, h4, h5, h6, h7, h8, h9, rfl⟩, ?_⟩))⟩))
    · intro x hx
      left
      simp at hx ⊢
      rcases hx with rfl | rfl | rfl <;> simp
    · rintro d N G' ⟨rfl, rfl, rfl⟩ _ _
      exact ⟨[], _, rfl, rfl, by simp, rfl, rfl, rfl⟩
end
end RS
end TxtP15

section TxtM7
set_option Elab.async false
set_option linter.all false
set_option maxRecDepth 100000
set_option maxHeartbeats 1000000
/-! the moves of a path: how many, none undoes the one before; effects of rules -/
namespace RS
open PySem PySem.Spec PyProof.Rows L2
theorem last_ne {α : Type} (A : List α) {B : List α} (h : B ≠ []) : (A ++ B).getLast? = B.getLast? := by
  rw [List.getLast?_append, List.getLast?_eq_some_getLast h]; rfl
def noUndo (l : List Mv) : Prop := ∀ (i : Nat) a b, l[i]? = some a → l[i + 1]? = some b → b ≠ undo a
theorem noUndo_nil : noUndo [] := fun i a b h => by simp at h
theorem noUndo_one (x : Mv) : noUndo [x] := fun i a b h1 h2 => by simp at h2
theorem noUndo_app {A B : List Mv} (ha : noUndo A) (hb : noUndo B) (h : ∀ a b, A.getLast? = some a → B.head? = some b → b ≠ undo a) : noUndo (A ++ B) := by
  intro i a b h1 h2
  by_cases c1 : i + 1 < A.length
  · rw [List.getElem?_append_left (by omega)] at h1
    rw [List.getElem?_append_left c1] at h2
    exact ha i a b h1 h2
  · by_cases c2 : i < A.length
    · rw [List.getElem?_append_left c2] at h1
      rw [List.getElem?_append_right (by omega)] at h2
      refine h a b ?_ ?_
      · rw [List.getLast?_eq_getElem?]
        have : A.length - 1 = i := by omega
        rw [this]; exact h1
      · rw [List.head?_eq_getElem?]
        have : i + 1 - A.length = 0 := by omega
        rwa [this] at h2
    · rw [List.getElem?_append_right (by omega)] at h1 h2
      have : i + 1 - A.length = i - A.length + 1 := by omega
      rw [this] at h2
      exact hb _ a b h1 h2
theorem noUndo_left {A B : List Mv} (h : noUndo (A ++ B)) : noUndo A := fun i a b h1 h2 => h i a b (by rw [List.getElem?_append_left (List.getElem?_eq_some_iff.mp h1).1]; exact h1) (by rw [List.getElem?_append_left (List.getElem?_eq_some_iff.mp h2).1]; exact h2)
theorem noUndo_join {A B : List Mv} (h : noUndo (A ++ B)) {a b : Mv} (ha : A.getLast? = some a) (hb : B.head? = some b) : b ≠ undo a := by
  rw [List.getLast?_eq_getElem?] at ha
  rw [List.head?_eq_getElem?] at hb
  have hl := (List.getElem?_eq_some_iff.mp ha).1
  refine h (A.length - 1) a b ?_ ?_
  · rw [List.getElem?_append_left (by omega)]; exact ha
  · rw [List.getElem?_append_right (by omega)]
    have : A.length - 1 + 1 - A.length = 0 := by omega
    rw [this]; exact hb
/-- what holds of a path's moves -/
structure MvOk (n : Nat) (l : List Mv) : Prop where
  lt : ∀ x ∈ l, x.1 < n
  nu : noUndo l
  len : l.length + 1 ≤ 4 ^ n
/-- along the segments -/
structure MsOk (n : Nat) (pre : List Int) (k : Nat) (l : List Mv) (a : Int) : Prop where
  le : ∀ x ∈ l, x.1 ≤ n
  nu : noUndo l
  len : l.length + k ≤ k * 4 ^ n + k
  la : (k = 0 ∧ l = []) ∨ ∃ b, pre.getLast? = some b ∧ l.getLast? = some (n, b, a)
theorem undo_ring {x : Mv} : (undo x).1 = x.1 := rfl
theorem mvs_ok {p : Pz} (z : okZ p) : ∀ (n : Nat) (s e : List Int), n ≤ p.length → okSt p n s → okSt p n e → MvOk n (mvs p n s e)
  | 0, s, e, _, _, _ => ⟨by simp [mvs], noUndo_nil, by simp [mvs]⟩
  | n + 1, s, e, hn, hs, he => by
    by_cases h : lastI s = lastI e
    · rw [mvs_same h]
      have q := mvs_ok z n s.dropLast e.dropLast (by omega) (hs.drop hn) (he.drop hn)
      refine ⟨fun x hx => by have := q.lt x hx; omega, q.nu, ?_⟩
      have := q.len
      rw [Nat.pow_succ]
      omega
    · rw [mvs_unf h]
      have sg := seg_ok z hn hs he
      obtain ⟨r, l, hr, po, es⟩ := sg.path
      -- the invariant along the segments
      have inv : ∀ i, i ≤ (segsOf p s e).length → okSt p n (msum p n ((segsOf p s e).take i) s).1.1 ∧ (∀ x ∈ (msum p n ((segsOf p s e).take i) s).2, x.1 ≤ n) ∧ noUndo (msum p n ((segsOf p s e).take i) s).2 ∧ (msum p n ((segsOf p s e).take i) s).2.length + i ≤ i * 4 ^ n + i ∧
          ((i = 0 ∧ (msum p n ((segsOf p s e).take i) s).2 = [] ∧ (msum p n ((segsOf p s e).take i) s).1.2 = lastI s) ∨ ∃ j, i = j + 1 ∧ ∃ a b, (lastI s :: l.map (·.2))[j]? = some a ∧ (lastI s :: l.map (·.2))[j + 1]? = some b ∧ (msum p n ((segsOf p s e).take i) s).1.2 = b ∧ (msum p n ((segsOf p s e).take i) s).2.getLast? = some (n, a, b)) := by
        intro i
        induction i with
        | zero => exact fun _ => ⟨hs.drop hn, by simp [msum], by simp [msum]; exact noUndo_nil, by simp [msum], .inl ⟨rfl, by simp [msum], by simp [msum]⟩⟩
        | succ i ih =>
          intro hi
          obtain ⟨h1, h2, h3, h4, h5⟩ := ih (by omega)
          obtain ⟨x, hx⟩ : ∃ x, (segsOf p s e)[i]? = some x := ⟨_, List.getElem?_eq_getElem (by omega)⟩
          rw [msum_take hx]
          have xp := sg.pat x (List.mem_of_getElem? hx)
          have q := mvs_ok z n _ _ (by omega) h1 xp
          have hxl : ∃ y, l[i]? = some y ∧ x = (y.1, y.2, patAt r y.1) := by
            have := hx
            rw [es, List.getElem?_map] at this
            obtain ⟨y, h1, h2⟩ := Option.map_eq_some_iff.mp this
            exact ⟨y, h1, h2.symm⟩
          obtain ⟨y, hy, exy⟩ := hxl
          have hb : (lastI s :: l.map (·.2))[i + 1]? = some x.2.1 := by
            rw [List.getElem?_cons_succ, List.getElem?_map, hy, exy]; rfl
          have ha : (lastI s :: l.map (·.2))[i]? = some (msum p n ((segsOf p s e).take i) s).1.2 := by
            rcases h5 with ⟨rfl, _, h6⟩ | ⟨j, rfl, a, b, _, h7, h8, _⟩
            · rw [h6]; rfl
            · rw [h8]; exact h7
          refine ⟨xp, ?_, ?_, ?_, .inr ⟨i, rfl, _, _, ha, hb, rfl, by simp⟩⟩
          · intro w hw
            rcases List.mem_append.mp hw with hw | hw
            · rcases List.mem_append.mp hw with hw | hw
              · exact h2 w hw
              · have := q.lt w hw; omega
            · rw [List.mem_singleton] at hw
              subst hw
              exact Nat.le_refl _
          · refine noUndo_app (noUndo_app h3 q.nu ?_) (noUndo_one _) ?_
            · intro a b h6 h7
              rcases h5 with ⟨_, h8, _⟩ | ⟨j, _, a', b', _, _, _, h8⟩
              · rw [h8] at h6; cases h6
              · rw [h8] at h6
                cases h6
                intro e1
                have := q.lt b (List.mem_of_mem_head? h7)
                rw [e1] at this
                exact Nat.lt_irrefl _ this
            · intro a b h6 h7
              cases h7
              intro e1
              by_cases hc : mvs p n (msum p n ((segsOf p s e).take i) s).1.1 x.2.2 = []
              · rw [hc, List.append_nil] at h6
                rcases h5 with ⟨_, h8, _⟩ | ⟨j, rfl, a', b', g1, g2, g3, h8⟩
                · rw [h8] at h6; cases h6
                · rw [h8] at h6
                  cases h6
                  have e2 : x.2.1 = a' := by
                    have := congrArg (fun z : Mv => z.2.2) e1
                    simpa [undo] using this
                  rw [e2] at hb
                  have := nd_ix po.nd g1 hb
                  omega
              · rw [last_ne _ hc] at h6
                have := q.lt a (List.mem_of_getLast? h6)
                have e3 := congrArg (fun z : Mv => z.1) e1
                have e4 : n = a.1 := e3
                omega
          · have := q.len
            rw [List.length_append, List.length_append, List.length_singleton, Nat.succ_mul]
            omega
      obtain ⟨h1, h2, h3, h4, h5⟩ := inv (segsOf p s e).length (Nat.le_refl _)
      rw [List.take_length] at h1 h2 h3 h4 h5
      have q := mvs_ok z n _ _ (by omega) h1 (he.drop hn)
      refine ⟨?_, ?_, ?_⟩
      · intro w hw
        rcases List.mem_append.mp hw with hw | hw
        · have := h2 w hw; omega
        · have := q.lt w hw; omega
      · refine noUndo_app h3 q.nu ?_
        intro a b h6 h7
        rcases h5 with ⟨_, h8, _⟩ | ⟨j, _, a', b', _, _, _, h8⟩
        · rw [h8] at h6; cases h6
        · rw [h8] at h6
          cases h6
          intro e1
          have := q.lt b (List.mem_of_mem_head? h7)
          rw [e1] at this
          exact Nat.lt_irrefl _ this
      · have h6 := q.len
        have h7 := sg.len
        rw [List.length_append]
        have h8 : (segsOf p s e).length * 4 ^ n ≤ 3 * 4 ^ n := Nat.mul_le_mul_right _ h7
        rw [Nat.pow_succ]
        omega
theorem mvs_ne {p : Pz} {n : Nat} {s e : List Int} (z : okZ p) (hn : n + 1 ≤ p.length) (hs : okSt p (n + 1) s) (he : okSt p (n + 1) e) (h : lastI s ≠ lastI e) : mvs p (n + 1) s e ≠ [] := by
  have sg := seg_ok z hn hs he
  obtain ⟨i, hi⟩ : ∃ i, (segsOf p s e).length = i + 1 := ⟨(segsOf p s e).length - 1, by have := List.length_pos_iff.mpr (seg_ne sg h); omega⟩
  obtain ⟨x, hx⟩ : ∃ x, (segsOf p s e)[i]? = some x := ⟨_, List.getElem?_eq_getElem (by omega)⟩
  have e1 := msum_take (p := p) (m := n) (s := s) hx
  rw [← hi, List.take_length] at e1
  rw [mvs_unf h, e1]
  simp
/-- the effect of a rule -/
structure EfOk (p : Pz) (x : Rec) (e : Ef) : Prop where
  rs : e.rs = x.1.1
  re : e.re = x.1.2
  n : e.n = ((mvs p x.1.1.length x.1.1 x.1.2).length : Int)
  dp : e.dp ≤ (x.1.1.length : Int)
  fm : e.fm = (mvs p x.1.1.length x.1.1 x.1.2).head?
  lm : e.lm = (mvs p x.1.1.length x.1.1 x.1.2).getLast?
  rd : e.rd = true
/-- the effect while its parts are followed -/
structure PSt (n : Nat) (s0 : List Int) (e : Ef) (s : List Int) (ms : List Mv) : Prop where
  rs : e.rs = s0
  re : e.re = s
  cn : e.n = (ms.length : Int)
  dp : e.dp ≤ (n : Int) + 1
  fm : e.fm = ms.head?
  lm : e.lm = ms.getLast?
  rd : e.rd = true
theorem PSt.start (n : Nat) (s : List Int) : PSt n s (ef0 s) s [] := ⟨rfl, rfl, rfl, by show (1 : Int) ≤ _; omega, rfl, rfl, rfl⟩
theorem head_app {A B : List Mv} {f : Mv} (hb : B.head? = some f) : some (A.head?.getD f) = (A ++ B).head? := by
  cases A with
  | nil => rw [List.nil_append, hb]; rfl
  | cons a A => rfl
theorem last_app {A B : List Mv} {l : Mv} (hb : B.getLast? = some l) : some l = (A ++ B).getLast? := by
  rw [last_ne _ (fun z => by rw [z] at hb; cases hb), hb]
theorem PSt.ext {n : Nat} {s0 s t : List Int} {e : Ef} {ms B : List Mv} {f l : Mv} {dp : Int} {rd : Bool} (h : PSt n s0 e s ms) (hf : B.head? = some f) (hl : B.getLast? = some l) (hu : noUndo (ms ++ B)) (hd : dp ≤ (n : Int) + 1) (hr : rd = true) : PSt n s0 (Ef.ext ⟨e.rs, e.re, e.n, dp, e.fm, e.lm, rd⟩ t (B.length : Nat) f l) t (ms ++ B) := by
  refine ⟨h.rs, rfl, ?_, hd, ?_, last_app hl, ?_⟩
  · show e.n + (B.length : Nat) = _
    rw [h.cn, List.length_append]; push_cast; rfl
  · show some (e.fm.getD f) = _
    rw [h.fm]; exact head_app hf
  · show (rd && !(match e.lm with | some m => decide (f = undo m) | none => false)) = true
    rw [hr, h.lm]
    cases hm : ms.getLast? with
    | none => rfl
    | some m =>
      have := noUndo_join hu hm hf
      simp [this]
theorem PSt.mv {n : Nat} {s0 s : List Int} {e : Ef} {ms : List Mv} {b : Int} (h : PSt n s0 e s ms) (hs : s.length = n + 1) (hu : noUndo (ms ++ [(n, lastI s, b)])) : PSt n s0 (e.mv n b) (s.dropLast ++ [b]) (ms ++ [(n, lastI s, b)]) := by
  have hg : e.re.getD n 0 = lastI s := by
    rw [h.re]
    unfold lastI
    rw [List.getLastD_eq_getLast?, List.getLast?_eq_getElem?, hs, Nat.add_sub_cancel, List.getD_eq_getElem?_getD]
  have ht : stepS e.re (n, b) = s.dropLast ++ [b] := by
    unfold stepS
    rw [h.re]
    show s.take n ++ [b] ++ s.drop (n + 1) = _
    rw [List.drop_eq_nil_of_le (by omega), List.append_nil, List.dropLast_eq_take, hs]; rfl
  unfold Ef.mv
  rw [hg, ht]
  exact h.ext (B := [(n, lastI s, b)]) rfl rfl hu h.dp h.rd
theorem PSt.join {p : Pz} {n : Nat} {s0 s : List Int} {e i : Ef} {ms : List Mv} {k : SKey} {qs : List Part} {f l : Mv} (h : PSt n s0 e s ms) (hi : EfOk p (k, qs) i) (hk : k.1.length ≤ n) (hf : i.fm = some f) (hl : i.lm = some l) (hu : noUndo (ms ++ mvs p k.1.length k.1 k.2)) :
    PSt n s0 (e.join i f l) (k.2 ++ s.drop k.1.length) (ms ++ mvs p k.1.length k.1 k.2) := by
  unfold Ef.join
  have h1 : i.re ++ e.re.drop i.rs.length = k.2 ++ s.drop k.1.length := by rw [hi.re, hi.rs, h.re]
  have h2 : i.n = ((mvs p k.1.length k.1 k.2).length : Nat) := hi.n
  rw [h1, h2]
  have d1 := hi.dp
  have d2 := h.dp
  have d3 : i.dp ≤ (k.1.length : Int) := d1
  refine h.ext ?_ ?_ hu ?_ ?_
  · rw [← hf, hi.fm]
  · rw [← hl, hi.lm]
  · split <;> omega
  · rw [h.rd, hi.rd]; rfl
end RS
end TxtM7

section TxtP16
set_option Elab.async false
set_option linter.all false
set_option maxRecDepth 100000
set_option maxHeartbeats 1000000
namespace RS
open PySem PySem.Spec PyProof.Rows L2
section
variable {P : Program} {w : World} {K : PySem.W.Frag} {mg : Str → Option Value} {base : Heap} {c : Ads}
def F_is_rule (G : GG) (dl : List D) (d : D) : Prop := ∃ (p : Pz) (x : Rec) (n : Nat), dl = [dP p, dRec x] ∧ p.length ≤ 1000 ∧ n ≤ p.length ∧ okSt p n x.1.1 ∧ 1 ≤ x.2.length ∧ x.2.length ≤ 60 ∧ d = .bl true
theorem sc_is_rule : FnScope ["rings", "value"] ["rings", "value"] (defScope (top 38)) := ⟨rfl, rfl, rfl, by decide +kernel, rfl, by decide +kernel, by decide +kernel⟩
theorem ok_is_rule (T : Env K mg c) : Fn0 P w K mg base 4 "is_rule" ["rings", "value"] (spP P w F_is_rule) := T.is_rule.mk0 fun f fd F => fn_P F sc_is_rule (fun G dl d h => by obtain ⟨p, x, n, rfl, _⟩ := h; rfl) fun cdv A outer s0 H E0 hr G dl d hF => by
  obtain ⟨p, x, n, rfl, hp, hn, hs, h1, h60, rfl⟩ := hF
  have hu := hr.units
  have hl := hs.len hn
  refine xs_if0 ((t_or (c := false) ((t_not (t_val (x_isi (c := true) T.isinstance (xv 1) (xty "tuple" T.tuple) rfl rfl))).to rfl) fun _ => t_or (c := false) ((t_neI hu (x_lenT T.len (xv 1)) x_int).to rfl) fun _ => t_or1 ((t_not (t_val (x_isi (c := true) T.isinstance (x_ixT (d := dS x.1.1) (xv 1) x_int (atI_of (k := 0) rfl rfl)) (xty "tuple" T.tuple) rfl rfl))).to rfl)).T.to rfl) ?_
  refine xs_if0 ((t_or (c := false) ((t_gt (x_lenT T.len (x_ixT (d := dS x.1.1) (xv 1) x_int (atI_of (k := 0) rfl rfl))) (x_lenT T.len (xv 0))).to (decide_eq_false ?_)) fun _ => t_or1 ((t_not (t_val (xcl (d := .bl true) (ok_are_positions T) hr (xa_cons (x_ixT (d := dS x.1.1) (xv 1) x_int (atI_of (k := 0) rfl rfl)) (xa_one (XN.E (xn_sl (XN.E (xncl (rl := (szs p).map .int) (ok_ring_sizes T) (hr.mono (by decide)) (xa_one (xv 0)) ⟨p, rfl, hp, rfl⟩ sub_nil)) xo_none (xo_some (x_lenT T.len (x_ixT (d := dS x.1.1) (xv 1) x_int (atI_of (k := 0) rfl rfl)))))))) ⟨dS x.1.1, szs (p.take n), ?_, nvs_dS, ?_, ?_⟩ sub_nil))).to rfl)).T.to rfl) ?_
  · rw [List.length_map, List.length_map, hl]; omega
  · rw [List.length_map, hl, cut_to rfl]
    have : szs (p.take n) = (szs p).take n := by unfold szs; rw [List.map_take]
    rw [this, dI, List.map_take]
  · rw [szs_len, List.length_take]; omega
  · rw [posOk_dS.mpr hs]
  refine xs_ret (xw_e (XE.to (x_and (x_isi (c := true) T.isinstance (x_ixT (d := .tup (x.2.map dPart)) (xv 1) x_int (atI_of (k := 1) rfl rfl)) (xty "tuple" T.tuple) rfl rfl) fun _ => x_one (x_chainI op_le op_le x_int (x_lenT T.len (x_ixT (d := .tup (x.2.map dPart)) (xv 1) x_int (atI_of (k := 1) rfl rfl))) (xgi T.MAX_PARTS))) ?_) rfl)
  rw [List.length_map, decide_eq_true (by omega), decide_eq_true (by omega)]; rfl
/-- the effects so far, the newest first -/
abbrev Ins := List (Addr × Ef)
def refsOf (ins : Ins) : List D := ins.reverse.map fun x => .val (.ref x.1)
def insC (c : Ads) (ins : Ins) : GG := ins.map fun x => (x.1, efC c x.2)
def EfsOk (p : Pz) (W : List Rec) (ins : Ins) : Prop := ins.length = W.length ∧ ∀ (j : Nat) x y, W[j]? = some x → ins.reverse[j]? = some y → EfOk p x y.2
theorem refs_tp (ins : Ins) : tpAll (refsOf ins) = true := tpAll_map (fun _ => rfl) _
theorem insC_tp (ins : Ins) : gTp (insC c ins) = true := by
  induction ins with
  | nil => rfl
  | cons x ins ih =>
    show (cellTp (efC c x.2) && gTp (insC c ins)) = true
    rw [ih]
    simp [cellTp]
theorem gTp_app {A B : GG} (ha : gTp A = true) (hb : gTp B = true) : gTp (A ++ B) = true := by
  unfold gTp at *
  rw [List.all_append, ha, hb]; rfl
theorem set_same {α : Type} {l : List α} {k : Nat} {x : α} (h : l[k]? = some x) : l.set k x = l := by
  refine List.ext_getElem? fun i => ?_
  by_cases e : k = i
  · subst e
    rw [List.getElem?_set_self (List.getElem?_eq_some_iff.mp h).1, h]
  · rw [List.getElem?_set_ne e]
theorem rev_get {α : Type} {l : List α} {j : Nat} {x : α} (h : l.reverse[j]? = some x) : l[l.length - 1 - j]? = some x := by
  have hj := (List.getElem?_eq_some_iff.mp h).1
  rw [List.length_reverse] at hj
  rw [List.getElem?_reverse hj] at h
  exact h
def R_re (c : Ads) : RR := fun G dl Kc => ∃ y ru p S E W, G = [(y, pzC c p), (ru, .lst (W.map dRec))] ∧ dl = [.val (.ref y), .val (.ref ru)] ∧ okZ p ∧ WInv p S E W ∧
  Kc = fun d N G' => ∃ q ins, d = .val (.ref q) ∧ N = (q, .lst (refsOf ins)) :: insC c ins ∧ G' = [(y, pzC c p), (ru, .lst (W.map dRec))] ∧ EfsOk p W ins
theorem sc_re : FnScope ["puzzle", "rules", "effects", "index", "rule", "effect", "at", "part"] ["puzzle", "rules"] (defScope (top 40)) := ⟨rfl, rfl, rfl, by decide +kernel, rfl, by decide +kernel, by decide +kernel⟩
theorem ok_re (T : Env K mg c) : Fn0 P w K mg base 7 "rule_effects" ["puzzle", "rules"] (spA P w (R_re c)) := T.rule_effects.mk0 fun f fd F => fn_A F sc_re (fun G dl d h => by obtain ⟨y, ru, p, S, E, W, rfl, rfl, _⟩ := h; rfl) fun cdv A outer s0 H E0 hr G dl Kc hF => by
  obtain ⟨y, ru, p, S, E, W, rfl, rfl, z, wi, rfl⟩ := hF
  have hu := hr.units
  have l7 := z.l7
  have wl := wi.len' z.tookP
  refine xs_expr (xw_e (xcl (d := .non) (ok_check_states T) (hr.mono (by decide)) (xa_cons (xv 0) (xa_one (XN.E (xn_lst xa_nil (by simp))))) ⟨y, p, [], rfl, rfl, by omega, by simp, rfl⟩ (sub_pick [0] rfl (by decide))) ?_)
  refine xs_if0 ((t_or (c := false) ((t_not (t_val (x_isi (c := true) T.isinstance (x_cell (xv 1) (List.mem_cons_of_mem _ List.mem_cons_self)) (xty "list" T.list) rfl rfl))).to rfl) fun _ => t_or1 ((t_gt (x_lenL T.len (x_cell (xv 1) (List.mem_cons_of_mem _ List.mem_cons_self))) (xgi T.MAX_RULES)).to (decide_eq_false (by rw [List.length_map]; omega)))).T.to rfl) ?_
  refine xs_asg 2 sc_re.nd (xw_n (xn_lst xa_nil (by simp)) fun q hq => ?_)
  have my : ∀ (a : Cell) (ins : Ins), (y, pzC c p) ∈ (q, a) :: (insC c ins ++ [(y, pzC c p), (ru, .lst (W.map dRec))]) := fun a ins => List.mem_cons_of_mem _ (List.mem_append_right _ List.mem_cons_self)
  have mr : ∀ (a : Cell) (ins : Ins), (ru, Cell.lst (W.map dRec)) ∈ (q, a) :: (insC c ins ++ [(y, pzC c p), (ru, .lst (W.map dRec))]) := fun a ins => List.mem_cons_of_mem _ (List.mem_append_right _ (List.mem_cons_of_mem _ List.mem_cons_self))
  have rest_tp : ∀ ins : Ins, gTp (insC c ins ++ [(y, pzC c p), (ru, .lst (W.map dRec))]) = true := fun ins => gTp_app (insC_tp ins) (by simp [cellTp, tpAll_map (fun _ => tp_dRec)])
  refine xs_forC (dl := enD (W.map dRec)) (q := ru) (xi_enumC T.enumerate (xv 1) (List.mem_cons_of_mem _ (List.mem_cons_of_mem _ List.mem_cons_self))) (fun i ds' G' => ∃ b3 b4 b5 b6 b7 ins, ds' = [some (.val (.ref y)), some (.val (.ref ru)), some (.val (.ref q)), b3, b4, b5, b6, b7] ∧ ldTp [b3, b4, b5, b6, b7] = true ∧
    G' = (q, .lst (refsOf ins)) :: (insC c ins ++ [(y, pzC c p), (ru, .lst (W.map dRec))]) ∧ EfsOk p (W.take i) ins ∧ ∀ x ∈ ins, H x.1 = none) ?_ ⟨⟨none, none, none, none, none, [], rfl, rfl, rfl, ⟨rfl, by simp⟩, by simp⟩, ?_, ?_⟩
  · rintro i ds' G' ⟨b3, b4, b5, b6, b7, ins, rfl, hb, rfl, _⟩
    exact mr _ _
  · rintro i d ds' G' hd ⟨b3, b4, b5, b6, b7, ins, rfl, hb, rfl, eo, hfr⟩
    rw [enD_get] at hd
    obtain ⟨u, hu1, rfl⟩ := Option.map_eq_some_iff.mp hd
    obtain ⟨x, hx, rfl⟩ := map_get hu1
    have hiW := (List.getElem?_eq_some_iff.mp hx).1
    have ro := wi.rc i x hx
    obtain ⟨n, ln, hnp, sk, ek, hne, po⟩ := ro.ex
    have p7 := ro.p7
    have p1 := ro.p1
    have insl : ins.length = i := by rw [eo.1, List.length_take]; omega
    have mo := mvs_ok z (n + 1) x.1.1 x.1.2 hnp sk ek
    have mlen : (mvs p (n + 1) x.1.1 x.1.2).length < 16384 := by
      have h1 := mo.len
      have h2 : 4 ^ (n + 1) ≤ 4 ^ 7 := Nat.pow_le_pow_right (by decide) (by omega)
      omega
    refine ⟨_, _, xg_tup (xgs_cons (xgn 3 sc_re.nd) (xgs_cons (xgn 4 sc_re.nd) xgs_nil)) rfl, ?_⟩
    refine xs_if0 ((t_not (t_val (xcl (d := .bl true) (ok_is_rule T) (hr.mono (by decide)) (xa_cons (x_meth0 (d := dP p) (ok_Pz_rings T) (hr.mono (by decide)) T.Pz.cls (xv 0) (my _ _) rfl ⟨y, p, rfl, rfl, rfl⟩ (sub_one (my _ _))) (xa_one (xv 4))) ⟨p, x, n + 1, rfl, by omega, hnp, sk, by omega, by omega, rfl⟩ sub_nil))).to rfl) ?_
    refine xs_asg 5 sc_re.nd (xw_make (ok_Ef T) (hr.mono (by decide)) rfl (xaw_a (xa_one (x_ixT (d := dS x.1.1) (xv 4) x_int (atI_of (k := 0) rfl rfl))) ⟨[], [], rfl, List.nodup_nil, by simp, ?_, ?_, fun ef hef => ⟨_, ⟨ef, x.1.1, rfl, rfl, rfl⟩, ?_⟩⟩))
    · simp [ldTp] at hb ⊢
      exact hb.2.2
    · rw [gTp_cons, rest_tp]
      simp [cellTp, refs_tp]
    rintro d N G' ⟨rfl, rfl, rfl⟩
    refine ⟨rfl, _, [], rfl, fun _ _ => ?_⟩
    refine xs_for (dl := enD (x.2.map dPart)) (xi_enumT T.enumerate (x_ixT (d := .tup (x.2.map dPart)) (xv 4) x_int (atI_of (k := 1) rfl rfl)) parts_tp) (fun j ds' G' => ∃ b6 b7 e s ms1 ms2, ds' = [some (.val (.ref y)), some (.val (.ref ru)), some (.val (.ref q)), some (.int (i : Nat)), some (dRec x), some (.val (.ref ef)), b6, b7] ∧ ldTp [b6, b7] = true ∧
      G' = (ef, efC c e) :: (q, .lst (refsOf ins)) :: (insC c ins ++ [(y, pzC c p), (ru, .lst (W.map dRec))]) ∧ PSt n x.1.1 e s ms1 ∧ PartsOk p (W.take i) n s (x.2.drop j) ms2 x.1.2 ∧ ms1 ++ ms2 = mvs p (n + 1) x.1.1 x.1.2 ∧ s.length = n + 1) ⟨⟨b6, b7, ef0 x.1.1, x.1.1, [], _, rfl, ?_, rfl, PSt.start n x.1.1, po, rfl, ln⟩, ?_, ?_⟩
    · simp [ldTp] at hb ⊢
      exact hb.2.2.2
    · rintro j d ds' G' hd ⟨b6, b7, e, s, ms1, ms2, rfl, hb67, rfl, ps, pk, hms, hsl0⟩
      rw [enD_get] at hd
      obtain ⟨u, hu2, rfl⟩ := Option.map_eq_some_iff.mp hd
      obtain ⟨part, hpart, rfl⟩ := map_get hu2
      have hj := (List.getElem?_eq_some_iff.mp hpart).1
      have hdrop : x.2.drop j = part :: x.2.drop (j + 1) := by
        rw [List.drop_eq_getElem_cons hj]
        congr 1
        exact (List.getElem?_eq_some_iff.mp hpart).2
      rw [hdrop] at pk
      refine ⟨_, _, xg_tup (xgs_cons (xgn 6 sc_re.nd) (xgs_cons (xgn 7 sc_re.nd) xgs_nil)) rfl, ?_⟩
      have hnu : noUndo (ms1 ++ ms2) := by rw [hms]; exact mo.nu
      have m1l : ms1.length < 16384 := by
        have := congrArg List.length hms
        rw [List.length_append] at this
        omega
      have gt : gTp ((ef, efC c e) :: (q, .lst (refsOf ins)) :: (insC c ins ++ [(y, pzC c p), (ru, .lst (W.map dRec))])) = true := by
        rw [gTp_cons, gTp_cons, rest_tp]
        simp [cellTp, refs_tp]
      have my2 : (y, pzC c p) ∈ (ef, efC c e) :: (q, .lst (refsOf ins)) :: (insC c ins ++ [(y, pzC c p), (ru, .lst (W.map dRec))]) := List.mem_cons_of_mem _ (my _ _)
      cases pk with
      | @move _ _ _ ms b lg hsl pk2 =>
        refine xs_if (xv_not (xv_val (xw_call (ok_fp T) (hr.mono (by decide)) rfl (xaw_a (xa_cons (x_meth0 (d := dP p) (ok_Pz_rings T) (hr.mono (by decide)) T.Pz.cls (xv 0) my2 rfl ⟨y, p, rfl, rfl, rfl⟩ (sub_one my2)) (xa_cons (xv 2) (xa_cons (xv 5) (xa_one (xv 7)))))
          ⟨[0], _, _, rfl, by decide, ?_, ?_, gt, ⟨ef, e, p, q, refsOf ins, [], .move n b, e.mv n b, rfl, rfl, z.tookP.sml, .move (by rw [ps.re]; exact hsl) hnp (by rw [ps.re]; exact lg) (by rw [ps.cn]; omega), rfl⟩, ?_⟩))))
        · intro w hw
          rw [List.mem_singleton] at hw
          subst hw
          exact .inr hef
        · simp [ldTp]
        · rintro d N G' ⟨rfl, rfl, rfl⟩ _ _
          refine ⟨true, rfl, (fun h => nomatch h), fun _ => xs_nil (xs_nil ?_)⟩
          refine ⟨some (.int (j : Nat)), some (dPart (.move n b)), e.mv n b, _, _, _, rfl, by simp [ldTp], rfl, ps.mv hsl ?_, pk2, ?_, ?_⟩
          · refine noUndo_left (B := ms) ?_
            rw [List.append_assoc]; exact hnu
          · rw [List.append_assoc]; exact hms
          · rw [List.length_append, List.length_dropLast, hsl0]; rfl
      | @rule _ _ _ qs ms j2 k hW hk hsk pk2 =>
        have hj2 : j2 < i := by
          have := (List.getElem?_eq_some_iff.mp hW).1
          rw [List.length_take] at this
          omega
        obtain ⟨w, hw⟩ : ∃ w, ins.reverse[j2]? = some w := ⟨_, List.getElem?_eq_getElem (by rw [List.length_reverse]; omega)⟩
        have ew := eo.2 j2 _ w hW hw
        obtain ⟨n2, l2, hn2, s2, e2, hne2, _⟩ := (wi.rc j2 (k, qs) (by rw [List.getElem?_take_of_lt hj2] at hW; exact hW)).ex
        have hne3 : mvs p k.1.length k.1 k.2 ≠ [] := by
          rw [show k.1.length = n2 + 1 from l2]
          exact mvs_ne z hn2 s2 e2 hne2
        obtain ⟨fmv, hfm⟩ : ∃ fmv, (mvs p k.1.length k.1 k.2).head? = some fmv := by
          cases h : mvs p k.1.length k.1 k.2 with
          | nil => exact absurd h hne3
          | cons a l => exact ⟨a, rfl⟩
        obtain ⟨lmv, hlm⟩ : ∃ lmv, (mvs p k.1.length k.1 k.2).getLast? = some lmv := ⟨_, List.getLast?_eq_some_getLast hne3⟩
        have hpos := rev_get hw
        generalize hkk : ins.length - 1 - j2 = kk at hpos
        have hkl := (List.getElem?_eq_some_iff.mp hpos).1
        have hG : (insC c ins ++ [(y, pzC c p), (ru, Cell.lst (W.map dRec))])[kk]? = some (w.1, efC c w.2) := by
          rw [List.getElem?_append_left (by unfold insC; rw [List.length_map]; exact hkl)]
          unfold insC
          rw [List.getElem?_map, hpos]; rfl
        have hlen2 : w.2.re.length = k.1.length := by
          rw [ew.re]
          show k.2.length = _
          rw [show k.1.length = n2 + 1 from l2]
          exact e2.len hn2
        have hrl : (refsOf ins)[j2]? = some (.val (.ref w.1)) := by unfold refsOf; rw [List.getElem?_map, hw]; rfl
        have hcl : (mvs p k.1.length k.1 k.2).length + ms1.length < 16384 := by
          have := congrArg List.length hms
          rw [List.length_append, List.length_append] at this
          omega
        refine xs_if (xv_not (xv_val (xw_call (ok_fp T) (hr.mono (by decide)) rfl (xaw_a (xa_cons (x_meth0 (d := dP p) (ok_Pz_rings T) (hr.mono (by decide)) T.Pz.cls (xv 0) my2 rfl ⟨y, p, rfl, rfl, rfl⟩ (sub_one my2)) (xa_cons (xv 2) (xa_cons (xv 5) (xa_one (xv 7)))))
          ⟨[0, 1, kk + 2], [(ef, efC c e), (q, .lst (refsOf ins)), (w.1, efC c w.2)], _, ?_, ?_, ?_, ?_, gt, ⟨ef, e, p, q, refsOf ins, _, .rule j2, e.join w.2 fmv lmv, rfl, rfl, z.tookP.sml, .rule hrl (refs_tp ins) ?_ ?_ ?_ ?_ ?_ ?_ ?_, rfl⟩, ?_⟩))))
        · exact congrArg (fun z => [some (ef, efC c e), some (q, Cell.lst (refsOf ins)), z]) hG
        · simp
        · intro v hv
          right
          simp at hv
          rcases hv with rfl | rfl | rfl
          · exact hef
          · exact hq
          · exact hfr w (List.mem_of_getElem? hpos)
        · simp [ldTp]
        · unfold refsOf; rw [List.length_map, List.length_reverse]; omega
        · rw [ps.re, ew.rs]; exact hsk
        · have := ew.dp
          have h3 : w.2.dp ≤ (k.1.length : Int) := this
          omega
        · rw [ps.cn, ew.n]
          show ((ms1.length : Int)) + ((mvs p k.1.length k.1 k.2).length : Int) ≤ _
          omega
        · rw [ew.fm]; exact hfm
        · rw [ew.lm]; exact hlm
        · rw [hlen2, ps.re]; omega
        · rintro d N G' ⟨rfl, rfl, rfl⟩ _ _
          refine ⟨true, rfl, (fun h => nomatch h), fun _ => xs_nil (xs_nil ?_)⟩
          refine ⟨some (.int (j : Nat)), some (dPart (.rule j2)), e.join w.2 fmv lmv, _, _, _, rfl, by simp [ldTp], ?_, ps.join ew hk (by rw [ew.fm]; exact hfm) (by rw [ew.lm]; exact hlm) ?_, pk2, ?_, ?_⟩
          · show (ef, efC c (e.join w.2 fmv lmv)) :: (q, Cell.lst (refsOf ins)) :: (insC c ins ++ [(y, pzC c p), (ru, Cell.lst (W.map dRec))]).set kk (w.1, efC c w.2) = _
            rw [set_same hG]
          · refine noUndo_left (B := ms) ?_
            rw [List.append_assoc]; exact hnu
          · rw [List.append_assoc]; exact hms
          · have h4 : k.2.length = k.1.length := by rw [← ew.re, hlen2]
            rw [List.length_append, List.length_drop, h4, hsl0]; omega
    · rintro ds' G' ⟨b6, b7, e, s, ms1, ms2, rfl, hb67, rfl, ps, pk, hms, hsl0⟩
      rw [enD_len, List.length_map, List.drop_length] at pk
      cases pk
      rw [List.append_nil] at hms
      have efo : EfOk p x e := by
        have e1 : mvs p x.1.1.length x.1.1 x.1.2 = ms1 := by rw [ln, hms]
        refine ⟨ps.rs, ps.re, by rw [e1]; exact ps.cn, by rw [ln]; have := ps.dp; push_cast; exact this, by rw [e1]; exact ps.fm, by rw [e1]; exact ps.lm, ps.rd⟩
      refine xs_expr (xw_append (p := q) (xv 2) (List.mem_cons_of_mem _ List.mem_cons_self) (xw_e (xv 5) ⟨1, _, rfl, rfl, ?_, ?_, ?_⟩) (.inr hq) ?_)
      · unfold refsOf; rw [List.length_map, List.length_reverse]; omega
      · rw [gTp_cons, gTp_cons, rest_tp]
        simp [cellTp, refs_tp]
      · refine xs_weak (G' := (q, .lst (refsOf ((ef, e) :: ins))) :: (insC c ((ef, e) :: ins) ++ [(y, pzC c p), (ru, .lst (W.map dRec))])) (xs_nil ⟨some (.int (i : Nat)), some (dRec x), some (.val (.ref ef)), b6, b7, (ef, e) :: ins, rfl, ?_, rfl, ⟨?_, ?_⟩, ?_⟩) rfl (fun _ _ h => h) ⟨fun h => ?_, fun v hv => ?_⟩
        · simp [ldTp] at hb67 ⊢
          exact hb67
        · rw [List.length_cons, insl, List.length_take]; omega
        · intro j2 x2 y2 h1 h2
          rw [List.reverse_cons] at h2
          by_cases hjj : j2 < i
          · rw [List.getElem?_append_left (by rw [List.length_reverse]; omega)] at h2
            refine eo.2 j2 x2 y2 ?_ h2
            rw [List.getElem?_take_of_lt (by omega)] at h1
            rw [List.getElem?_take_of_lt hjj]; exact h1
          · have hj3 : j2 = i := by
              have := (List.getElem?_eq_some_iff.mp h1).1
              rw [List.length_take] at this
              omega
            subst hj3
            rw [List.getElem?_take_of_lt (by omega), hx] at h1
            cases h1
            rw [List.getElem?_append_right (by rw [List.length_reverse]; omega), List.length_reverse, insl, Nat.sub_self] at h2
            cases h2
            exact efo
        · intro v hv
          rcases List.mem_cons.mp hv with rfl | hv
          · exact hef
          · exact hfr v hv
        · have h1 := List.nodup_cons.mp h
          have h2 := List.nodup_cons.mp h1.2
          refine List.nodup_cons.mpr ⟨fun hm => ?_, List.nodup_cons.mpr ⟨fun hm => h1.1 (List.mem_cons_of_mem _ hm), h2.2⟩⟩
          rcases List.mem_cons.mp hm with hm | hm
          · exact h1.1 (by rw [← hm]; exact List.mem_cons_self)
          · exact h2.1 hm
        · have er : refsOf ((ef, e) :: ins) = refsOf ins ++ [.val (.ref ef)] := by
            unfold refsOf
            rw [List.reverse_cons, List.map_append]; rfl
          rw [er] at hv
          rcases List.mem_cons.mp hv with rfl | hv
          · exact List.mem_cons_of_mem _ List.mem_cons_self
          · rcases List.mem_cons.mp hv with rfl | hv
            · exact List.mem_cons_self
            · exact List.mem_cons_of_mem _ (List.mem_cons_of_mem _ hv)
      · simp [ldTp] at hb67 ⊢
        exact hb67
  · rintro ds' G' ⟨b3, b4, b5, b6, b7, ins, rfl, hb, rfl, eo, hfr⟩
    rw [enD_len, List.length_map, List.take_length] at eo
    refine xs_ret (xw_e (xv 2) ⟨(q, .lst (refsOf ins)) :: insC c ins, [(y, pzC c p), (ru, .lst (W.map dRec))], rfl, rfl, ?_, q, ins, rfl, rfl, rfl, eo⟩)
    intro v hv
    rcases List.mem_cons.mp hv with rfl | hv
    · exact hq
    · obtain ⟨u, hu2, rfl⟩ := List.mem_map.mp hv
      exact hfr u hu2
end
end RS
end TxtP16

section TxtP17
set_option Elab.async false
set_option linter.all false
set_option maxRecDepth 100000
set_option maxHeartbeats 1000000
namespace RS
open PySem PySem.Spec PyProof.Rows L2
section
variable {X : Cx} {ds : LD} {G : GG} {a b : Expr} {pos p2 : Pos} {xs ys : List D}
/-- lists of unlike lengths -/
theorem t_eqLen (hu : X.A.units + 64 < cLine) (ha : XE X G ds a (.lst xs)) (hb : XE X G ds b (.lst ys)) (hl : xs.length ≠ ys.length) : XT X G ds (.Compare a [.Eq] [b] pos) false := t_cmp (op_eqLen (by omega)) ha hb (nomark _) fun x y H Q _ rx ry k => by
  rw [Rp] at rx ry
  obtain ⟨p, us, rfl, h1, r1⟩ := rx
  obtain ⟨q, ws, rfl, h2, r2⟩ := ry
  exact ⟨p, q, us, ws, rfl, rfl, SqL.of h1, SqL.of h2, by rw [r1.length, r2.length]; exact hl, k _ H (Same.refl H) rp_bl⟩
theorem x_eqLen (hu : X.A.units + 64 < cLine) (ha : XE X G ds a (.lst xs)) (hb : XE X G ds b (.lst ys)) (hl : xs.length ≠ ys.length) : XE X G ds (.Compare a [.Eq] [b] pos) (.bl false) := x_cmp (op_eqLen (by omega)) ha hb (nomark _) fun x y H Q _ rx ry k => by
  rw [Rp] at rx ry
  obtain ⟨p, us, rfl, h1, r1⟩ := rx
  obtain ⟨q, ws, rfl, h2, r2⟩ := ry
  exact ⟨p, q, us, ws, rfl, rfl, SqL.of h1, SqL.of h2, by rw [r1.length, r2.length]; exact hl, k _ H (Same.refl H) rp_bl⟩
end
theorem last_refs {ins : Ins} {x : Addr × Ef} {is : Ins} (h : ins = x :: is) : atI (refsOf ins) (-1) = some (.val (.ref x.1)) := by
  refine atI_last ?_
  subst h
  unfold refsOf
  rw [List.reverse_cons, List.map_append]
  simp
/-- the newest effect is the last rule's -/
theorem efs_last {p : Pz} {V : List Rec} {r : Rec} {ins : Ins} (h : EfsOk p (V ++ [r]) ins) : ∃ x is, ins = x :: is ∧ EfOk p r x.2 := by
  cases ins with
  | nil => have := h.1; simp at this
  | cons x is =>
    have hl : is.length = V.length := by have := h.1; simpa using this
    refine ⟨x, is, rfl, h.2 V.length r x ?_ ?_⟩
    · rw [List.getElem?_append_right (Nat.le_refl _)]; simp
    · rw [List.reverse_cons, List.getElem?_append_right (by rw [List.length_reverse]; omega), List.length_reverse, hl]; simp
section
variable {P : Program} {w : World} {K : PySem.W.Frag} {mg : Str → Option Value} {base : Heap} {c : Ads}
abbrev prG (c : Ads) (y ru : Addr) (p : Pz) (W : List Rec) : GG := [(y, pzC c p), (ru, .lst (W.map dRec))]
theorem prG_tp {y ru : Addr} {p : Pz} {W : List Rec} : gTp (prG c y ru p W) = true := by simp [cellTp, tpAll_map (fun _ => tp_dRec)]
/-- the call of rule_effects -/
theorem eff_re {H0 : Hp} {M : List Addr} {ds : LD} {Kk : D → GG → Prop} {y ru : Addr} {p : Pz} {S E : List Int} {W : List Rec} (z : okZ p) (wi : WInv p S E W) (hM : y ∈ M ∧ ru ∈ M) (hd : ldTp ds = true)
    (hk : ∀ q ins, H0 q = none → EfsOk p W ins → Kk (.val (.ref q)) ((q, .lst (refsOf ins)) :: (insC c ins ++ prG c y ru p W))) : Eff H0 M ds (R_re c) (prG c y ru p W) [.val (.ref y), .val (.ref ru)] Kk := by
  refine ⟨[0, 1], _, _, rfl, by decide, ?_, hd, prG_tp, ⟨y, ru, p, S, E, W, rfl, rfl, z, wi, rfl⟩, ?_⟩
  · intro x hx
    simp at hx
    rcases hx with rfl | rfl
    · exact .inl hM.1
    · exact .inl hM.2
  · rintro d N G' ⟨q, ins, rfl, rfl, rfl, eo⟩ _ hN
    exact hk q ins (hN _ List.mem_cons_self) eo
theorem sub_tail {q : Addr × Cell} {A G : GG} : Sub G (q :: (A ++ G)) := ⟨fun h => by
  have h1 := (List.nodup_cons.mp h).2
  rw [List.map_append] at h1
  exact (List.nodup_append.mp h1).2.1, fun x hx => List.mem_cons_of_mem _ (List.mem_append_right _ hx)⟩
def R_check (c : Ads) : RR := fun G dl Kc => ∃ y ru p S E W, G = prG c y ru p W ∧ dl = [.val (.ref y), .val (.ref ru)] ∧ okZ p ∧ WInv p S E W ∧ Kc = fun d N G' => d = .non ∧ N = [] ∧ G' = prG c y ru p W
theorem sc_check : FnScope ["puzzle", "rules"] ["puzzle", "rules"] (defScope (top 41)) := ⟨rfl, rfl, rfl, by decide +kernel, rfl, by decide +kernel, by decide +kernel⟩
theorem ok_check (T : Env K mg c) : Fn0 P w K mg base 8 "check_rules" ["puzzle", "rules"] (spA P w (R_check c)) := T.check_rules.mk0 fun f fd F => fn_A F sc_check (fun G dl d h => by obtain ⟨y, ru, p, S, E, W, rfl, rfl, _⟩ := h; rfl) fun cdv A outer s0 H E0 hr G dl Kc hF => by
  obtain ⟨y, ru, p, S, E, W, rfl, rfl, z, wi, rfl⟩ := hF
  refine xs_expr (xw_call (ok_re T) hr rfl (xaw_a (xa_cons (xv 0) (xa_one (xv 1))) (eff_re z wi (by simp) (by simp [ldTp, locD]) fun q ins hq eo => ?_)))
  exact xs_weak (G' := prG c y ru p W) (xs_nil ⟨[], _, rfl, rfl, by simp, rfl, rfl, rfl⟩) rfl (fun _ _ h => h) sub_tail
def R_follow (c : Ads) : RR := fun G dl Kc => ∃ y ru p S E V r s, G = prG c y ru p (V ++ [r]) ∧ dl = [.val (.ref y), .val (.ref ru), dS s] ∧ okZ p ∧ WInv p S E (V ++ [r]) ∧ okS s (szs p) ∧ s.take r.1.1.length = r.1.1 ∧
  Kc = fun d N G' => d = .tup [dS (r.1.2 ++ s.drop r.1.1.length), .int ((mvs p r.1.1.length r.1.1 r.1.2).length : Nat)] ∧ N = [] ∧ G' = prG c y ru p (V ++ [r])
theorem sc_follow : FnScope ["puzzle", "rules", "state", "effects", "last", "covered"] ["puzzle", "rules", "state"] (defScope (top 42)) := ⟨rfl, rfl, rfl, by decide +kernel, rfl, by decide +kernel, by decide +kernel⟩
theorem ok_follow (T : Env K mg c) : Fn0 P w K mg base 8 "follow" ["puzzle", "rules", "state"] (spA P w (R_follow c)) := T.follow.mk0 fun f fd F => fn_A F sc_follow (fun G dl d h => by obtain ⟨y, ru, p, S, E, V, r, s, rfl, rfl, _⟩ := h; rfl) fun cdv A outer s0 H E0 hr G dl Kc hF => by
  obtain ⟨y, ru, p, S, E, V, r, s, rfl, rfl, z, wi, hs, ht, rfl⟩ := hF
  have hu := hr.units
  have l7 := z.l7
  have hsl := hs.st.1
  refine xs_asg 3 sc_follow.nd (xw_call (ok_re T) hr rfl (xaw_a (xa_cons (xv 0) (xa_one (xv 1))) (eff_re z wi (by simp) (by simp [ldTp, locD]) fun q ins hq eo => ?_)))
  obtain ⟨x, is, hins, ex⟩ := efs_last eo
  have my : (y, pzC c p) ∈ (q, Cell.lst (refsOf ins)) :: (insC c ins ++ prG c y ru p (V ++ [r])) := List.mem_cons_of_mem _ (List.mem_append_right _ List.mem_cons_self)
  have mx : (x.1, efC c x.2) ∈ (q, Cell.lst (refsOf ins)) :: (insC c ins ++ prG c y ru p (V ++ [r])) := List.mem_cons_of_mem _ (List.mem_append_left _ (by rw [hins]; exact List.mem_cons_self))
  have ro := (wi.rc V.length r (by rw [List.getElem?_append_right (Nat.le_refl _)]; simp)).ex
  obtain ⟨n, ln, hnp, sk, ek, _⟩ := ro
  have rl := ek.len hnp
  refine xs_expr (xw_e (xcl (d := .non) (ok_check_states T) (hr.mono (by decide)) (xa_cons (xv 0) (xa_one (XN.E (xn_lst (xa_one (xv 2)) (by simp))))) ⟨y, p, [s], rfl, rfl, by omega, by simpa using hs, rfl⟩ (sub_one my)) ?_)
  refine xs_if0 (t_eqLen hu (x_cell (xv 3) List.mem_cons_self) (XN.E (xn_lst xa_nil (by simp))) (by rw [hins]; simp [refsOf])) ?_
  refine xs_asg 4 sc_follow.nd (xw_e (x_ixL (x_cell (xv 3) List.mem_cons_self) (x_neg x_int) (last_refs hins)) ?_)
  refine xs_asg 5 sc_follow.nd (xw_e (x_lenT T.len (xf (d := dS x.2.rs) (xv 4) mx T.Ef.cls T.ef_s)) ?_)
  refine xs_if0 ((t_neS hu (x_to (k := r.1.1.length) (xv 2) (xv 5) (by rw [List.length_map, ex.rs])) (xf (d := dS x.2.rs) (xv 4) mx T.Ef.cls T.ef_s)).to (by rw [ex.rs]; simp [ht])) ?_
  refine xs_retW (xw_e (x_tup (xa_cons (x_catS (xf (d := dS x.2.re) (xv 4) mx T.Ef.cls T.ef_e) (x_from (k := r.1.1.length) (xv 2) (xv 5) (by rw [List.length_map, ex.rs])) ?_) (xa_one (xf (d := .int x.2.n) (xv 4) mx T.Ef.cls T.ef_n))) (by simp)) ⟨prG c y ru p (V ++ [r]), sub_tail, [], _, rfl, rfl, by simp, ?_, rfl, rfl⟩)
  · rw [ex.re, List.length_drop]; omega
  · rw [ex.re, ex.n]
def R_isr (c : Ads) : RR := fun G dl Kc => ∃ y ru p S E V r, G = prG c y ru p (V ++ [r]) ∧ dl = [.val (.ref y), .val (.ref ru)] ∧ okZ p ∧ WInv p S E (V ++ [r]) ∧ Kc = fun d N G' => d = .bl true ∧ N = [] ∧ G' = prG c y ru p (V ++ [r])
theorem sc_isr : FnScope ["puzzle", "rules", "effects"] ["puzzle", "rules"] (defScope (top 43)) := ⟨rfl, rfl, rfl, by decide +kernel, rfl, by decide +kernel, by decide +kernel⟩
theorem ok_isr (T : Env K mg c) : Fn0 P w K mg base 8 "is_reduced" ["puzzle", "rules"] (spA P w (R_isr c)) := T.is_reduced.mk0 fun f fd F => fn_A F sc_isr (fun G dl d h => by obtain ⟨y, ru, p, S, E, V, r, rfl, rfl, _⟩ := h; rfl) fun cdv A outer s0 H E0 hr G dl Kc hF => by
  obtain ⟨y, ru, p, S, E, V, r, rfl, rfl, z, wi, rfl⟩ := hF
  have hu := hr.units
  refine xs_asg 2 sc_isr.nd (xw_call (ok_re T) hr rfl (xaw_a (xa_cons (xv 0) (xa_one (xv 1))) (eff_re z wi (by simp) (by simp [ldTp, locD]) fun q ins hq eo => ?_)))
  obtain ⟨x, is, hins, ex⟩ := efs_last eo
  have mx : (x.1, efC c x.2) ∈ (q, Cell.lst (refsOf ins)) :: (insC c ins ++ prG c y ru p (V ++ [r])) := List.mem_cons_of_mem _ (List.mem_append_left _ (by rw [hins]; exact List.mem_cons_self))
  refine xs_retW (xw_e (XE.to (x_or (x_eqLen hu (x_cell (xv 2) List.mem_cons_self) (XN.E (xn_lst xa_nil (by simp))) (by rw [hins]; simp [refsOf])) fun _ => x_one (xf (d := .bl x.2.rd) (x_ixL (x_cell (xv 2) List.mem_cons_self) (x_neg x_int) (last_refs hins)) mx T.Ef.cls T.ef_r)) rfl) ⟨prG c y ru p (V ++ [r]), sub_tail, [], _, rfl, rfl, by simp, ?_, rfl, rfl⟩)
  rw [ex.rd]; rfl
end
end RS
end TxtP17

section TxtL10
set_option Elab.async false
set_option linter.all false
set_option maxRecDepth 100000
set_option maxHeartbeats 1000000
/-! list items stored; a comprehension whose element changes cells -/
namespace RS
open PySem PySem.Spec PyProof.Rows L2
section
variable {X : Cx} {H0 : Hp} {M : List Addr} {ds : LD} {G : GG} {e a b o i elt tg iter : Expr} {K : AK} {KD : D → GG → Prop} {pos p2 : Pos} {p : Addr} {rest : List Stmt} {dl : List D} {scope : Scope}
theorem xs_lset {value : Expr} {p4 : Pos} (hv : XW X H0 M ds G value fun d G' => XE X G' ds o (.val (.ref p)) ∧ ∃ n k j xs, XE X G' ds i (.int n) ∧ ixN xs.length n = some k ∧ G'[j]? = some (p, .lst xs) ∧ tp d = true ∧ gTp G' = true ∧ XSs X H0 M ds (G'.set j (p, .lst (xs.set k d))) rest K)
    (hp : p ∈ M ∨ H0 p = none) (hd : ldTp ds = true) (hs : swapsWithSole [.Subscript o i p4] value pos.line X.env = pure false := by rfl) (hw : swappedStores [.Subscript o i p4] value X.env = pure none := by rfl)
    (h1 : (assignEach [.Subscript o i p4] X.env).map (·.2) = [assign (.Subscript o i p4) X.env] := by rfl)
    (ha : ∀ v, assign (.Subscript o i p4) X.env v = (do
      let ov ← holding [v] (eval o X.env)
      let iv ← holding [v, ov] (eval i X.env)
      standAt p4
      holding [v, ov, iv] (setItem ov iv v)
      release [v, ov, iv] []) := by intro _; rfl) : XSs X H0 M ds G (.Assign [.Subscript o i p4] value pos :: rest) K := by
  intro σ H E at0 oo
  refine sswp (pss_cons (ps_asg peS (pg_sub peS peS set_list ha) hs hw h1) pssS) ?_
  refine hv σ H _ at0 fun d G1 v H1 k1 a1 t1 r1 => ?_
  obtain ⟨ho, n, k, j, xs, hi, hk, hj, td, gt, kk⟩ := k1
  refine ho σ H1 _ a1.lo a1.sa fun y H2 e2 r2 => ?_
  refine hi σ H2 _ (a1.lo.ex e2) (a1.sa.ex e2) fun z H3 e3 r3 => ?_
  obtain rfl : y = .ref p := rp_v r2
  obtain rfl : z = .int n := rp_i r3
  have a2 := (a1.ex e2).ex e3
  obtain ⟨us, h1, rr⟩ := a2.sa.get hj
  have hl := rr.length
  refine ⟨p, us, n, k, rfl, rfl, h1, by rw [hl]; exact hk, ?_⟩
  have gp := List.all_eq_true.mp gt _ (List.mem_of_getElem? hj)
  obtain ⟨a3, t3⟩ := a2.set (o := .lst (us.set k v)) (c' := .lst (xs.set k d)) hj gt hd hp fun t => ⟨_, upd_same, (rr.tu t gp).set k (((r1.ex e2).ex e3).tu t td)⟩
  exact kk σ _ E a3 (oo.tu (((t1.trans e2.tu).trans e3.tu).trans t3))
def rgD (n : Nat) : List D := (List.range n).map fun i => .int (i : Nat)
theorem ldTp_wipe : ∀ {ds : LD} (vs : List Nat), ldTp ds = true → ldTp (wipeD ds vs) = true
  | ds, [], h => h
  | ds, v :: vs, h => by
    have h1 := ldTp_wipe vs h
    unfold wipeD
    unfold ldTp at h1 ⊢
    rw [List.all_eq_true] at h1 ⊢
    intro o ho
    rcases List.mem_or_eq_of_mem_set ho with h2 | h2
    · exact h1 o h2
    · subst h2; rfl
/-- [elt for tg in iter], the element changing cells: I tells the cells and what is made so far -/
theorem xw_lcA (own : List (Str × Nat)) (hN : X.N.Nodup) (hi : XI X G ds tg iter dl Tu) (ok : BlkOk X.N X.env.scope scope own) (I : Nat → GG → List D → Prop) (h0 : I 0 G []) (hd : ldTp ds = true)
    (he : ∀ (k : Nat) d G' acc L, dl[k]? = some d → I k G' acc → H0 L = none → ∃ ds' ix, (∀ j ∈ ix, j ∈ own.map (·.2)) ∧ ∀ s H C cl fp, XG (Cx.bk X scope s H C cl fp) tg d (wipeD ds (own.map (·.2))) ds' ix ∧
      XW (Cx.bk X scope s H C cl fp) H0 M ds' ((L, .lst acc) :: G') elt fun r G'' => tp r = true ∧ ∃ G3, G'' = (L, .lst acc) :: G3 ∧ gTp G3 = true ∧ tpAll acc = true ∧ acc.length < 100000 ∧ I (k + 1) G3 (acc ++ [r]))
    (hk : ∀ L rl G', I dl.length G' rl → H0 L = none → KD (.val (.ref L)) ((L, .lst rl) :: G'))
    (hc : X.calm = true := by rfl) (hs : ∀ x, foldedSetIterable iter X.env x = pure x := by intro _; rfl) : XW X H0 M ds G (.ListComp elt [⟨tg, iter, [], 0⟩] scope pos) KD := by
  intro σ H Q at0 kk
  refine ewp (pe_lc (own := own) (wi := wpI X tg iter) (g := tBG X scope tg) (tt := tYes) (te := tBE X scope elt) hc hN piS ok
    (fun s H C cl fp => ⟨fun pins s' σ H' v u Q I r h => (h s H C cl fp).run pins s' u I r⟩) (fun _ _ _ _ _ => pts_nil) (fun s H C cl fp => ⟨fun pins s' σ H' Q I h => (h s H C cl fp).run pins s' I⟩) hs) ?_
  refine hi σ H _ at0.lo at0.sa fun J H1 Gd e1 gd w L hL => ?_
  have L0 : H0 L = none := at0.fr.trk L (Same.free e1 hL)
  have a1 := at0.ex e1
  have a1w : At X.prog X.w H0 M (wipeD ds (own.map (·.2))) G (wipe σ (own.map (·.2))) H1 := ⟨a1.lo.wipe _, a1.sa, a1.fr⟩
  refine lc_it (vs := own.map (·.2)) (σ := σ) (D := L) (H1 := H1) (g := tBG X scope tg) (tt := tYes) (te := tBE X scope elt) (Qd := fun H => Q (.ref L) H) w
    (fun i H' => ∃ acc G', I i G' acc ∧ At X.prog X.w H0 M (wipeD ds (own.map (·.2))) ((L, .lst acc) :: G') (wipe σ (own.map (·.2))) H' ∧ Tu H1 H' ∧ Loc σ H' ds) ?_ ?_ ?_ ?_
  · refine ⟨[], G, h0, ?_, (Ex.new hL).tu, a1.lo.ex (Ex.new hL)⟩
    exact a1w.new (Ex.new hL) hL ⟨[], upd_same, .nil⟩
  · rintro i H' _ ⟨acc, G', _, _, t, _⟩
    exact gd H' t
  · rintro i x H' H2 hlt ⟨acc, G', hI, a2, t, lo2⟩ ⟨e2, d, hdl, rd⟩
    obtain ⟨ds', ix, hix, hb⟩ := he i d G' acc L hdl hI L0
    intro s' H'' C cl fp
    refine (hb s' H'' C cl fp).1 _ H2 x _ (a2.lo.ex e2) rd fun σ' l' hl' ho => ?_
    have hwp := wipe_same (by rw [hl', wipe_length]) (vs := own.map (·.2)) (σ := σ) (σ' := σ') fun j hj => ho j fun q => hj (hix j q)
    refine ⟨hwp, ?_⟩
    dsimp only [tYes]
    rw [if_pos rfl]
    intro s2 H3 C2 cl2 fp2
    refine (hb s2 H3 C2 cl2 fp2).2 σ' H2 _ ⟨l', a2.sa.ex e2, a2.fr.ex e2⟩ fun r G'' v H4 k4 a4 t4 r4 => ?_
    obtain ⟨tr, G3, rfl, gt3, ta, hz, hI2⟩ := k4
    obtain ⟨xs, hx1, hx2⟩ := a4.sa.get (j := 0) (a := L) (c := .lst acc) rfl
    have hxl := hx2.length
    refine ⟨xs, hx1, by rw [sizeLine_eq]; omega, acc ++ [r], G3, hI2, ?_, ?_, ?_⟩
    · have a5 : At X.prog X.w H0 M (wipeD ds (own.map (·.2))) ((L, .lst acc) :: G3) (wipe σ (own.map (·.2))) H4 := ⟨(a2.lo.ex e2).tu t4 (ldTp_wipe _ hd), a4.sa, a4.fr⟩
      exact (a5.set (j := 0) (o := .lst (xs ++ [v])) (c' := .lst (acc ++ [r])) rfl (by rw [gTp_cons, gt3, Bool.and_true]; exact ta) (ldTp_wipe _ hd) (.inr L0) fun t5 => ⟨_, upd_same, rpAll_snoc (hx2.tu t5 ta) (r4.tu t5 tr)⟩).1
    · have t5 : Tu H4 (upd H4 L (.lst (xs ++ [v]))) := upd_tu hx1
      exact ((t.trans e2.tu).trans t4).trans t5
    · have t5 : Tu H4 (upd H4 L (.lst (xs ++ [v]))) := upd_tu hx1
      exact ((lo2.ex e2).tu t4 hd).tu t5 hd
  · rintro H' ⟨rl, G', hI, a2, t, lo2⟩
    exact kk _ _ _ H' (hk L rl G' hI L0) ⟨lo2, a2.sa, a2.fr⟩ (e1.tu.trans t) rp_val
end
end RS
end TxtL10

section TxtP18
set_option Elab.async false
set_option linter.all false
set_option maxRecDepth 100000
set_option maxHeartbeats 1000000
namespace RS
open PySem PySem.Spec PyProof.Rows L2
structure Pl where
  i : Int
  cc : Int
  sd : Int
structure okPl (q : Pl) : Prop where
  i : 0 ≤ q.i
  cc : 0 ≤ q.cc
  s0 : 0 ≤ q.sd
  s1 : q.sd < 2147483647
abbrev plG (pl sl : Addr) (ns : List Int) (q : Pl) : GG := [(pl, .lst [.val (.ref sl), .int q.i, .int q.cc, .int q.sd]), (sl, .lst (ns.map .int))]
theorem plG_tp {pl sl : Addr} {ns : List Int} {q : Pl} : gTp (plG pl sl ns q) = true := by simp [cellTp]
section
variable {X : Cx} {H0 : Hp} {M : List Addr} {ds : LD} {G : GG} {a b : Expr} {K : D → GG → Prop} {pos p2 : Pos}
/-- tuple(a list that an effect makes) -/
theorem xw_tupleOf (hm : X.mg "tuple" = none) (ha : XW X H0 M ds G a fun d G1 => ∃ p xs, d = .val (.ref p) ∧ (p, Cell.lst xs) ∈ G1 ∧ K (.tup xs) G1) (hg : Gl X "tuple" := by rfl) (he : starEach [a] X.env = (false, eval a X.env) :: starEach [] X.env := by rfl) (hpl : (backTo pos (starEach [] X.env)).any (·.1) = false := by rfl) :
    XW X H0 M ds G (.Call (.Name "tuple" p2) [a] [] pos) K := by
  intro σ H Q at0 kk
  refine ewp (pe_callTy call_tuple_of hg hm boot_tuple (pa_cons peS pa_nil he) (by decide) (by decide) he hpl) ?_
  refine ha σ H _ at0 fun d G1 v H1 k1 a1 t1 r1 => ?_
  obtain ⟨p, xs, rfl, hG, k⟩ := k1
  obtain ⟨us, h1, rr⟩ := a1.sa.2 _ hG
  obtain rfl : v = .ref p := rp_v r1
  exact ⟨p, us, rfl, .inl ⟨SqL.of h1, fun l hl => kk _ _ _ _ k (a1.ex (Ex.new hl)) (t1.trans (Ex.new hl).tu) (rp_tup upd_same (rr.ex (Ex.new hl)))⟩⟩
theorem x_cellL {p : Addr} {xs : List D} (h : XE X G ds a (.val (.ref p))) (hG : (p, Cell.lst xs) ∈ G) : XE X G ds a (.lst xs) := x_cell h hG
end
section
variable {P : Program} {w : World} {K : PySem.W.Frag} {mg : Str → Option Value} {base : Heap} {c : Ads}
def R_draw : RR := fun G dl Kc => ∃ pl sl ns q n, G = plG pl sl ns q ∧ dl = [.val (.ref pl), .int n] ∧ okPl q ∧ 0 < n ∧ n < 1000 ∧ Kc = fun d N G' => ∃ r q', d = .int r ∧ 0 ≤ r ∧ r < n ∧ N = [] ∧ okPl q' ∧ G' = plG pl sl ns q'
theorem sc_draw : FnScope ["_law_pool", "_law_count", "_law_cell", "_law_result"] ["_law_pool", "_law_count"] (defScope (top 49)) := ⟨rfl, rfl, rfl, by decide +kernel, rfl, by decide +kernel, by decide +kernel⟩
theorem ok_draw (T : Env K mg c) : Fn0 P w K mg base 1 "_law_draw" ["_law_pool", "_law_count"] (spA P w R_draw) := T.draw.mk0 fun f fd F => fn_A F sc_draw (fun G dl d h => by obtain ⟨pl, sl, ns, q, n, rfl, rfl, _⟩ := h; rfl) fun cdv A outer s0 H E0 hr G dl Kc hF => by
  obtain ⟨pl, sl, ns, q, n, rfl, rfl, oq, n0, n1, rfl⟩ := hF
  have hu := hr.units
  obtain ⟨qi, qc, qs⟩ := q
  have oi : 0 ≤ qi := oq.i
  have oc : 0 ≤ qc := oq.cc
  have os0 : 0 ≤ qs := oq.s0
  have os1 : qs < 2147483647 := oq.s1
  -- the last three statements
  have fin : ∀ (i cc : Int) (b2 : Option D), 0 ≤ i → 0 ≤ cc → ldTp [b2] = true → XSs (bx P w K mg base ["_law_pool", "_law_count", "_law_cell", "_law_result"] "_law_draw" (top 49) f cdv A outer s0 H E0) H [pl, sl] [some (.val (.ref pl)), some (.int n), b2, none] (plG pl sl ns ⟨i, cc, qs⟩) ((defBody (top 49)).drop 1)
      ⟨fun _ G' => ∃ Nw Gn, G' = Nw ++ Gn ∧ Gn.map (·.1) = List.map (·.1) (plG pl sl ns ⟨qi, qc, qs⟩) ∧ (∀ p ∈ Nw, H p.1 = none) ∧ ∃ r q', D.non = .int r ∧ 0 ≤ r ∧ r < n ∧ Nw = [] ∧ okPl q' ∧ Gn = plG pl sl ns q',
        fun d G' => ∃ Nw Gn, G' = Nw ++ Gn ∧ Gn.map (·.1) = List.map (·.1) (plG pl sl ns ⟨qi, qc, qs⟩) ∧ (∀ p ∈ Nw, H p.1 = none) ∧ ∃ r q', d = .int r ∧ 0 ≤ r ∧ r < n ∧ Nw = [] ∧ okPl q' ∧ Gn = plG pl sl ns q', fun _ _ => False, fun _ _ => False⟩ := by
    intro i cc b2 hi hcc hb2
    refine xs_asg 3 sc_draw.nd (xw_e (x_mod (x_ixL (x_cell (xv 0) List.mem_cons_self) x_int (atI_of (k := 2) rfl rfl)) (xv 1) n0) ?_)
    refine xs_lset (p := pl) (xw_e (x_fdiv (x_ixL (x_cell (xv 0) List.mem_cons_self) x_int (atI_of (k := 2) rfl rfl)) (xv 1) ⟨n0, by omega⟩) ⟨xv 0, 2, 2, 0, _, x_int, rfl, rfl, rfl, plG_tp, ?_⟩) (.inl (by simp)) ?_
    · refine xs_ret (xw_e (xv 3) ⟨[], _, rfl, rfl, by simp, cc % n, ⟨i, cc / n, qs⟩, rfl, Int.emod_nonneg _ (by omega), Int.emod_lt_of_pos _ n0, rfl, ⟨hi, Int.ediv_nonneg hcc (by omega), os0, os1⟩, rfl⟩)
    · simpa [ldTp] using hb2
  by_cases h0 : qc = 0
  · refine xs_if1 ((t_eqI hu (x_ixL (x_cell (xv 0) List.mem_cons_self) x_int (atI_of (k := 2) rfl rfl)) x_int).to (by simp [h0])) ?_
    obtain ⟨v, hv1, hv2⟩ : ∃ v : Int, (qi < (ns.length : Int) → ns[qi.toNat]? = some v) ∧ (¬ qi < (ns.length : Int) → v = 0) := by
      by_cases h : qi < (ns.length : Int)
      · exact ⟨ns[qi.toNat], fun _ => List.getElem?_eq_getElem (by omega), fun z => absurd h z⟩
      · exact ⟨0, fun z => absurd z h, fun _ => rfl⟩
    have mpl : ∀ q, (pl, Cell.lst [.val (.ref sl), .int q.i, .int q.cc, .int q.sd]) ∈ plG pl sl ns q := fun _ => List.mem_cons_self
    have msl : ∀ q, (sl, Cell.lst (ns.map .int)) ∈ plG pl sl ns q := fun _ => List.mem_cons_of_mem _ List.mem_cons_self
    refine xs_asg 2 sc_draw.nd (xw_e (d := .int v) (x_if (t_lt (x_ixL (x_cell (xv 0) List.mem_cons_self) x_int (atI_of (k := 1) rfl rfl)) (x_lenL T.len (x_cell (x_ixL (d := .val (.ref sl)) (x_cell (xv 0) List.mem_cons_self) x_int (atI_of (k := 0) rfl rfl)) (msl ⟨qi, qc, qs⟩)))) ?_ ?_) ?_)
    · intro h
      have h := of_decide_eq_true h
      rw [List.length_map] at h
      exact x_ixL (x_cell (x_ixL (d := .val (.ref sl)) (x_cell (xv 0) List.mem_cons_self) x_int (atI_of (k := 0) rfl rfl)) (msl ⟨qi, qc, qs⟩)) (x_ixL (x_cell (xv 0) List.mem_cons_self) x_int (atI_of (k := 1) rfl rfl)) (atI_of (k := qi.toNat) (by show qi = _; omega) (by rw [List.getElem?_map, hv1 h]; rfl))
    · intro h
      have h := of_decide_eq_false h
      rw [List.length_map] at h
      rw [hv2 h]
      exact x_int
    refine xs_lset (p := pl) (xw_e (x_add (x_ixL (d := .int qi) (x_cell (xv 0) List.mem_cons_self) x_int (atI_of (k := 1) rfl rfl)) x_int) ⟨xv 0, 1, 1, 0, _, x_int, rfl, rfl, rfl, plG_tp, ?_⟩) (.inl (by simp)) (by simp [ldTp, locD])
    refine xs_ifT (t := decide (v < 10 ^ 18)) (t_lt (xv 2) (x_pow (i := 10) (j := 18) x_int x_int ⟨by decide, by decide, by decide⟩)) ?_ ?_
    · intro hlt
      have m0 := Int.emod_nonneg (qs * 48271 + v % 2147483629 + (qi + 1)) (show (2147483647 : Int) ≠ 0 by decide)
      have m1 := Int.emod_lt_of_pos (qs * 48271 + v % 2147483629 + (qi + 1)) (show (0 : Int) < 2147483647 by decide)
      refine xs_lset (p := pl) (xw_e (x_mod (x_add (x_add (x_mul (i := qs) (x_ixL (x_cell (xv 0) List.mem_cons_self) x_int (atI_of (k := 3) rfl rfl)) x_int (.inl (by omega))) (x_mod (xv 2) x_int (by decide))) (x_ixL (d := .int (qi + 1)) (x_cell (xv 0) List.mem_cons_self) x_int (atI_of (k := 1) rfl rfl))) x_int (by decide)) ⟨xv 0, 3, 3, 0, _, x_int, rfl, rfl, rfl, plG_tp (q := ⟨qi + 1, qc, qs⟩), ?_⟩) (.inl (by simp)) (by simp [ldTp, locD])
      generalize (qs * 48271 + v % 2147483629 + (qi + 1)) % 2147483647 = sd at m0 m1
      refine xs_ret (xw_e (x_mod (x_fdiv (x_mod (x_mul (i := sd) (j := sd) (x_ixL (x_cell (xv 0) List.mem_cons_self) x_int (atI_of (k := 3) rfl rfl)) (x_ixL (x_cell (xv 0) List.mem_cons_self) x_int (atI_of (k := 3) rfl rfl)) (.inl (by omega))) x_int (by decide)) x_int ⟨by decide, by decide⟩) (xv 1) n0)
        ⟨[], _, rfl, rfl, by simp, _, ⟨qi + 1, qc, sd⟩, rfl, Int.emod_nonneg _ (by omega), Int.emod_lt_of_pos _ n0, rfl, ⟨by show 0 ≤ qi + 1; omega, oc, m0, m1⟩, rfl⟩)
    · intro hge
      have hge := of_decide_eq_false hge
      refine xs_nil ?_
      refine xs_lset (p := pl) (xw_e (xv 2) ⟨xv 0, 2, 2, 0, _, x_int, rfl, rfl, rfl, plG_tp (q := ⟨qi + 1, qc, qs⟩), ?_⟩) (.inl (by simp)) (by simp [ldTp, locD])
      refine xs_nil ?_
      exact fin (qi + 1) v (some (.int v)) (by omega) (by omega) rfl
  · refine xs_if0 ((t_eqI hu (x_ixL (x_cell (xv 0) List.mem_cons_self) x_int (atI_of (k := 2) rfl rfl)) x_int).to (by simp [h0])) ?_
    exact fin qi qc none oi oc rfl
end
end RS
end TxtP18

section TxtP19
set_option Elab.async false
set_option linter.all false
set_option maxRecDepth 100000
set_option maxHeartbeats 1000000
namespace RS
open PySem PySem.Spec PyProof.Rows L2
section
variable {X : Cx} {H0 : Hp} {M : List Addr} {ds : LD} {G : GG} {a b : Expr} {K : D → GG → Prop} {pos p2 p3 p4 : Pos}
/-- list(range(n)) -/
theorem xn_listRg {n : Nat} (hl : X.mg "list" = none) (hm : X.mg "range" = none) (ha : XE X G ds a (.int (n : Int))) (hn : n ≤ 1000) (hc : X.calm = true := by rfl) (hg : Gl X "list" := by rfl) (hg2 : Gl X "range" := by rfl)
    (he : starEach [a] X.env = (false, eval a X.env) :: starEach [] X.env := by rfl) (he2 : starEach [.Call (.Name "range" p3) [a] [] p4] X.env = (false, eval (.Call (.Name "range" p3) [a] [] p4) X.env) :: starEach [] X.env := by rfl) :
    XN X G ds (.Call (.Name "list" p2) [.Call (.Name "range" p3) [a] [] p4] [] pos) ((List.range n).map fun i => .int (i : Nat)) := by
  intro σ H Q l s k
  refine ewp (pe_listRg hc hg hl (prg_1 hg2 hm peS he) he2) ?_
  refine ha σ H _ l s fun v H1 e1 r => ?_
  refine ⟨n, rp_i r, RgOk.of_le (by omega) (by omega) (by omega) (by omega), fun q hq => ?_⟩
  refine k q _ _ (Same.free e1 hq) (e1.trans (Ex.new hq)) upd_same ?_
  have e : rgV 0 (n : Int) = ((List.range n).map fun (i : Nat) => (i : Int)).map V.int := by
    unfold rgV
    rw [List.map_map]
    have : ((n : Int) - 0).toNat = n := by omega
    rw [this]
    refine List.map_congr_left fun i _ => ?_
    show V.int (0 + (i : Nat)) = V.int (i : Nat)
    rw [Int.zero_add]
  rw [e]
  have e2 : ((List.range n).map fun i => D.int (i : Nat)) = ((List.range n).map fun (i : Nat) => (i : Int)).map D.int := by rw [List.map_map]; rfl
  rw [e2]
  exact rpAll_ints.mpr rfl
/-- for over range(e), e an effect -/
theorem xs_forRW {tg : Expr} {body rest : List Stmt} {K : AK} (hm : X.mg "range" = none) (ha : XW X H0 M ds G a fun d G1 => ∃ (n : Int) (J : Nat → LD → GG → Prop), d = .int n ∧ -(2 ^ 62) ≤ n ∧ n < 2 ^ 62 ∧ Lp X H0 M ds G1 tg body rest K ((List.range n.toNat).map fun i => .int (i : Nat)) J)
    (hg : Gl X "range" := by rfl) (hs : starEach [a] X.env = [(false, eval a X.env)] := by rfl)
    (hp : PassesOwn (model X.prog X.w) X.A X.env X.xe := by exact PassesOwn.never) (hc : X.calm = true := by rfl) (hsf : ∀ x, foldedSetIterable (.Call (.Name "range" p2) [a] [] p3) X.env x = pure x := by intro _; rfl) : XSs X H0 M ds G (.For tg (.Call (.Name "range" p2) [a] [] p3) body [] pos :: rest) K := by
  intro σ H E at0 o
  refine sswp (pss_cons (ps_for hp hc piS pgS pssS hsf) pssS) ?_
  refine iwp (pi_range1 hg hm (pa_cons peS pa_nil hs) hs) ?_
  refine ha σ H _ at0 fun d G1 v H1 k1 a1 t1 r1 => ?_
  obtain ⟨n, J, rfl, h1, h2, L⟩ := k1
  refine ⟨n, by rw [rp_i r1], h1, h2, ?_⟩
  have ln : ((List.range n.toNat).map fun i => D.int (i : Nat)).length = n.toNat := by rw [List.length_map, List.length_range]
  refine for_it walk_range (fun i σ' H' => ∃ ds' G', J i ds' G' ∧ At X.prog X.w H0 M ds' G' σ' H' ∧ Tu H1 H') ⟨ds, G1, L.h0, a1, Tu.refl _⟩ ?_ ?_ ?_
  · intros; trivial
  · rintro i x σ' H' H2 hlt ⟨ds', G', j, a2, t⟩ ⟨rfl, hx⟩
    have hd : ((List.range n.toNat).map fun i => D.int (i : Nat))[i]? = some (.int (i : Nat)) := by rw [List.getElem?_map, List.getElem?_range hlt]; rfl
    obtain ⟨ds2, ix, hx2, hb⟩ := L.hs i _ ds' G' hd j
    have rx : Rp H2 (.int (i : Nat)) x := by
      rw [hx]
      show Rp H2 (.int (i : Nat)) (.int (0 + (i : Nat)))
      rw [Int.zero_add]; exact rp_int
    refine hx2 σ' H2 x _ a2.lo rx fun σ2 l2 _ _ => ?_
    exact hb σ2 H2 _ ⟨l2, a2.sa, a2.fr⟩ ⟨fun ds3 G3 σ3 H3 k a3 t3 => ⟨ds3, G3, k, a3, t.trans t3⟩, o.rt, fun ds3 G3 σ3 H3 k a3 t3 => k σ3 H3 E a3 (o.tu ((t1.trans t).trans t3)), fun ds3 G3 σ3 H3 k a3 t3 => ⟨ds3, G3, k, a3, t.trans t3⟩⟩
  · rintro σ' H' ⟨ds', G', j, a2, t⟩
    rw [← ln] at j
    exact L.hd ds' G' j σ' H' E a2 (o.tu (t1.trans t))
end
/-- the call of _law_draw -/
theorem eff_draw {H0 : Hp} {M : List Addr} {ds : LD} {G : GG} {Kk : D → GG → Prop} {pl sl : Addr} {ns : List Int} {q : Pl} {n : Int} (js : List Nat) (hp : Pick G js (plG pl sl ns q)) (hj : js.Nodup) (oq : okPl q) (n0 : 0 < n) (n1 : n < 1000) (hM : (pl ∈ M ∨ H0 pl = none) ∧ (sl ∈ M ∨ H0 sl = none)) (hd : ldTp ds = true) (hg : gTp G = true)
    (hk : ∀ r q', 0 ≤ r → r < n → okPl q' → Kk (.int r) (setAll G js (plG pl sl ns q'))) : Eff H0 M ds R_draw G [.val (.ref pl), .int n] Kk := by
  refine ⟨js, _, _, hp, hj, ?_, hd, hg, ⟨pl, sl, ns, q, n, rfl, rfl, oq, n0, n1, rfl⟩, ?_⟩
  · intro x hx
    simp at hx
    rcases hx with rfl | rfl
    · exact hM.1
    · exact hM.2
  · rintro d N G' ⟨r, q', rfl, h1, h2, rfl, h3, rfl⟩ _ _
    exact hk r q' h1 h2 h3
section
variable {P : Program} {w : World} {K : PySem.W.Frag} {mg : Str → Option Value} {base : Heap} {c : Ads}
def R_pos : RR := fun G dl Kc => ∃ pl sl ns q p, G = plG pl sl ns q ∧ dl = [.val (.ref pl), dP p] ∧ okPl q ∧ p.length ≤ 7 ∧ (∀ r ∈ p, r.length ≤ 7) ∧ Kc = fun d N G' => ∃ s q', d = dS s ∧ okS s (szs p) ∧ N = [] ∧ okPl q' ∧ G' = plG pl sl ns q'
theorem sc_pos : FnScope ["_law_pool", "_law_puzzle", "_law_ring"] ["_law_pool", "_law_puzzle"] (defScope (top 51)) := ⟨rfl, rfl, rfl, by decide +kernel, rfl, by decide +kernel, by decide +kernel⟩
theorem ok_pos (T : Env K mg c) : Fn0 P w K mg base 2 "_law_positions" ["_law_pool", "_law_puzzle"] (spA P w R_pos) := T.positions.mk0 fun f fd F => fn_A F sc_pos (fun G dl d h => by obtain ⟨pl, sl, ns, q, p, rfl, rfl, _⟩ := h; rfl) fun cdv A outer s0 H E0 hr G dl Kc hF => by
  obtain ⟨pl, sl, ns, q, p, rfl, rfl, oq, p7, r7, rfl⟩ := hF
  refine xs_retW (xw_tupleOf T.tuple (xw_lcA [("_law_ring", 2)] sc_pos.nd (xi_tup (xv 1) (tpAll_map (fun _ => tp_dR) p)) (blk ["_law_pool", "_law_puzzle", "_law_ring"] (top 51) (by decide +kernel)) (fun k G' acc => ∃ s q', acc = s.map .int ∧ okS s (szs (p.take k)) ∧ okPl q' ∧ G' = plG pl sl ns q') ⟨[], q, rfl, ⟨rfl, by simp⟩, oq, rfl⟩ (by simp [ldTp, locD]) ?_ ?_))
  · rintro k d G' acc L hd ⟨s, q', rfl, hs, oq', rfl⟩ hL
    obtain ⟨r, hr1, rfl⟩ := map_get hd
    have hrl := r7 r (List.mem_of_getElem? hr1)
    have hkl := (List.getElem?_eq_some_iff.mp hr1).1
    have sl' : s.length ≤ 7 := by rw [hs.1, szs_len, List.length_take]; omega
    refine ⟨_, _, ?_, fun s' H' C cl fp => ⟨xgn 2 sc_pos.nd, ?_⟩⟩
    · simp
    · refine xw_call (ok_draw T) hr rfl (xaw_a (xa_cons (xv 0) (xa_one (x_add (x_lenT T.len (xv 2)) x_int))) (eff_draw [1, 2] rfl (by decide) oq' ?_ ?_ (by simp) ?_ ?_ ?_))
      · rw [List.length_map]; omega
      · rw [List.length_map]; omega
      · simp [ldTp, locD, wipeD]
      · rw [gTp_cons, plG_tp]; simp [cellTp]
      · intro r' q2 h1 h2 oq2
        refine ⟨rfl, plG pl sl ns q2, rfl, plG_tp, tpAll_ints, by rw [List.length_map]; omega, s ++ [r'], q2, by rw [List.map_append]; rfl, ?_, oq2, rfl⟩
        rw [List.length_map] at h2
        rw [szs_take hr1]
        refine ⟨by rw [List.length_append, List.length_append, hs.1]; rfl, fun i a n ha hn => ?_⟩
        by_cases hi : i < s.length
        · rw [List.getElem?_append_left hi] at ha
          rw [List.getElem?_append_left (by rw [← hs.1]; exact hi)] at hn
          exact hs.2 i a n ha hn
        · rw [List.getElem?_append_right (by omega)] at ha
          rw [List.getElem?_append_right (by rw [← hs.1]; omega), ← hs.1] at hn
          have hz : i - s.length = 0 := by
            have := (List.getElem?_eq_some_iff.mp ha).1
            simp at this
            omega
          rw [hz] at ha hn
          cases ha
          cases hn
          exact ⟨h1, h2⟩
  · rintro L rl G' ⟨s, q', rfl, hs, oq', rfl⟩ hL
    rw [List.length_map, List.take_length] at hs
    exact ⟨L, _, rfl, List.mem_cons_self, plG pl sl ns q', sub_pick [1, 2] rfl (by decide), [], _, rfl, rfl, by simp, s, q', rfl, hs, rfl, oq', rfl⟩
end
end RS
end TxtP19

section TxtP20
set_option Elab.async false
set_option linter.all false
set_option maxRecDepth 100000
set_option maxHeartbeats 1000000
namespace RS
open PySem PySem.Spec PyProof.Rows L2
/-- the pairs of a random tree: each new position joined to one before it -/
inductive RB (ord : List Int) : Nat → List (Int × Int) → Prop where
  | one : RB ord 1 []
  | step {k j i : Nat} {L : List (Int × Int)} {a b : Int} (fl : Bool) (h : RB ord k L) (hj : j < k) (ha : ord[j]? = some a) (hb : ord[k]? = some b) (hi : i < k) : RB ord (k + 1) (L.take i ++ [if fl then (b, a) else (a, b)] ++ L.drop i)
theorem RB.len {ord : List Int} {k : Nat} {L : List (Int × Int)} (h : RB ord k L) : L.length + 1 = k := by
  induction h with
  | one => rfl
  | step fl h hj ha hb hi ih => simp; omega
def rgI (n : Nat) : List Int := (List.range n).map fun (i : Nat) => (i : Int)
def TreeOk (n : Nat) (L : List (Int × Int)) : Prop := ∃ ord, ord.Perm (rgI n) ∧ RB ord n L
def dPr (x : Int × Int) : D := .tup [.int x.1, .int x.2]
@[simp] theorem tp_dPr {x : Int × Int} : tp (dPr x) = true := rfl
theorem prs_tp {L : List (Int × Int)} : tpAll (L.map dPr) = true := tpAll_map (fun _ => tp_dPr) L
theorem erase_map {α β : Type} (f : α → β) : ∀ (l : List α) (i : Nat), (l.map f).eraseIdx i = (l.eraseIdx i).map f
  | [], i => by simp
  | a :: l, 0 => by simp
  | a :: l, i + 1 => by rw [List.map_cons, List.eraseIdx_cons_succ, List.eraseIdx_cons_succ, List.map_cons, erase_map f l i]
section
variable {X : Cx} {H0 : Hp} {M : List Addr} {ds : LD} {G : GG} {c : Expr} {K : AK} {pos : Pos} {rest x1 x2 : List Stmt}
theorem XSs.nxm {n n' : LD → GG → Prop} {sts : List Stmt} (h : XSs X H0 M ds G sts (K.wnx n)) (hn : ∀ ds G, n ds G → n' ds G) : XSs X H0 M ds G sts (K.wnx n') := fun σ H E a o => h σ H E a ⟨fun ds G σ' H' k => o.nx ds G σ' H' (hn ds G k), o.rt, o.bk, o.ct⟩
/-- an if that ends in Mid either way -/
theorem xs_ifM (Mid : LD → GG → Prop) (hc : XV X H0 M ds G c fun t G' => (t = true → XSs X H0 M ds G' x1 (K.wnx Mid)) ∧ (t = false → XSs X H0 M ds G' x2 (K.wnx Mid))) (hm : ∀ ds' G', Mid ds' G' → XSs X H0 M ds' G' rest K) : XSs X H0 M ds G (.If c x1 x2 pos :: rest) K :=
  xs_if fun σ H Q a kk => hc σ H Q a fun t G' H' k => kk t G' H' ⟨fun ht => (k.1 ht).nxm hm, fun ht => (k.2 ht).nxm hm⟩
end
theorem perm_pick {α : Type} : ∀ {l : List α} {i : Nat} {x : α}, l[i]? = some x → (x :: l.eraseIdx i).Perm l
  | [], i, x, h => by simp at h
  | y :: l, 0, x, h => by simp at h; subst h; exact List.Perm.refl _
  | y :: l, i + 1, x, h => by
    have := perm_pick (l := l) (i := i) (by simpa using h)
    rw [List.eraseIdx_cons_succ]
    exact (List.Perm.swap _ _ _).trans (this.cons y)
section
variable {P : Program} {w : World} {K : PySem.W.Frag} {mg : Str → Option Value} {base : Heap} {c : Ads}
def R_tree : RR := fun G dl Kc => ∃ pl sl ns q, ∃ n : Nat, G = plG pl sl ns q ∧ dl = [.val (.ref pl), .int (n : Nat)] ∧ okPl q ∧ 1 ≤ n ∧ n ≤ 4 ∧ Kc = fun d N G' => ∃ t L q', d = .val (.ref t) ∧ TreeOk n L ∧ N = [(t, .lst (L.map dPr))] ∧ okPl q' ∧ G' = plG pl sl ns q'
theorem sc_tree : FnScope ["_law_pool", "_law_size", "_law_left", "_law_order", "_law_k", "_law_ring", "_law_pair"] ["_law_pool", "_law_size"] (defScope (top 50)) := ⟨rfl, rfl, rfl, by decide +kernel, rfl, by decide +kernel, by decide +kernel⟩
theorem ok_tree (T : Env K mg c) : Fn0 P w K mg base 2 "_law_random_tree" ["_law_pool", "_law_size"] (spA P w R_tree) := T.random_tree.mk0 fun f fd F => fn_A F sc_tree (fun G dl d h => by obtain ⟨pl, sl, ns, q, n, rfl, rfl, _⟩ := h; rfl) fun cdv A outer s0 H E0 hr G dl Kc hF => by
  obtain ⟨pl, sl, ns, q, n, rfl, rfl, oq, n1, n4, rfl⟩ := hF
  have hu := hr.units
  refine xs_asg 2 sc_tree.nd (xw_n (xn_listRg T.list T.range (xv 1) (by omega)) fun lf hlf => ?_)
  refine xs_asg 3 sc_tree.nd (xw_n (xn_lst xa_nil (by simp)) fun od hod => ?_)
  refine xs_for (xi_range1 T.range (xv 1) (by omega) (by omega)) (fun k ds' G' => ∃ b4 left ord q', ds' = [some (.val (.ref pl)), some (.int (n : Nat)), some (.val (.ref lf)), some (.val (.ref od)), b4, none, none] ∧ ldTp [b4] = true ∧ (ord ++ left).Perm (rgI n) ∧ ord.length = k ∧ okPl q' ∧
    G' = (od, .lst (ord.map .int)) :: (lf, .lst (left.map .int)) :: plG pl sl ns q') ⟨⟨none, rgI n, [], q, rfl, rfl, List.Perm.refl _, rfl, oq, by unfold rgI; rw [List.map_map]; rfl⟩, ?_, ?_⟩
  · rintro k d ds' G' hd ⟨b4, left, ord, q', rfl, hb, hperm, hol, oq', rfl⟩
    obtain ⟨k', hk, rfl⟩ := map_get hd
    have hkn : k < n := by
      have := (List.getElem?_eq_some_iff.mp hk).1
      rw [List.length_range] at this
      omega
    rw [List.getElem?_range (by omega)] at hk
    cases hk
    have hll : ord.length + left.length = n := by
      have := hperm.length_eq
      rw [List.length_append] at this
      rw [this]; unfold rgI; simp
    refine ⟨_, _, xgn 4 sc_tree.nd, ?_⟩
    have gt : ∀ q2, gTp ((od, .lst (ord.map .int)) :: (lf, .lst (left.map .int)) :: plG pl sl ns q2) = true := fun q2 => by
      rw [gTp_cons, gTp_cons, plG_tp]; simp [cellTp]
    refine xs_expr (xw_append (p := od) (xv 3) List.mem_cons_self (xw_popAt (p := lf) (xv 2) (List.mem_cons_of_mem _ List.mem_cons_self) (xw_call (ok_draw T) hr rfl (xaw_a (xa_cons (xv 0) (xa_one (x_sub (xv 1) (xv 4))))
      (eff_draw [2, 3] rfl (by decide) oq' (by omega) (by omega) (by simp) ?_ (gt q') ?_))) (.inr hlf) ?_) (.inr hod) ?_)
    · simp [ldTp]
    · intro r q2 r0 r1 oq2
      obtain ⟨x, hx⟩ : ∃ x, left[r.toNat]? = some x := ⟨_, List.getElem?_eq_getElem (by omega)⟩
      refine ⟨r, 1, _, .int x, rfl, r0, by rw [List.getElem?_map, hx]; rfl, rfl, by rw [List.length_map]; omega, gt q2, 0, _, rfl, rfl, by rw [List.length_map]; omega, ?_, ?_⟩
      · show gTp ((od, .lst (ord.map .int)) :: (lf, .lst ((left.map .int).eraseIdx r.toNat)) :: plG pl sl ns q2) = true
        rw [gTp_cons, gTp_cons, plG_tp]
        have : (left.map D.int).eraseIdx r.toNat = (left.eraseIdx r.toNat).map D.int := by rw [erase_map]
        rw [this]
        simp [cellTp]
      · refine xs_nil ⟨some (.int (k : Nat)), left.eraseIdx r.toNat, ord ++ [x], q2, rfl, rfl, ?_, by rw [List.length_append, hol]; rfl, oq2, ?_⟩
        · rw [List.append_assoc]
          exact (List.Perm.append_left ord (perm_pick hx)).trans hperm
        · show (od, Cell.lst (ord.map .int ++ [.int x])) :: (lf, Cell.lst ((left.map .int).eraseIdx r.toNat)) :: plG pl sl ns q2 = _
          rw [erase_map, List.map_append]; rfl
    · simp [ldTp]
    · simp [ldTp]
  · rintro ds' G' ⟨b4, left, ord, q', rfl, hb, hperm, hol, oq', rfl⟩
    rw [List.length_map, List.length_range, Int.toNat_natCast] at hol
    have hle : left = [] := by
      have := hperm.length_eq
      rw [List.length_append, hol] at this
      have h2 : (rgI n).length = n := by unfold rgI; simp
      exact nil_of_len (by omega)
    subst hle
    rw [List.append_nil] at hperm
    have ogt : ∀ j, j < n → ∃ x, ord[j]? = some x := fun j hj => ⟨_, List.getElem?_eq_getElem (by omega)⟩
    refine xs_asg 5 sc_tree.nd (xw_n (xn_lst xa_nil (by simp)) fun rg hrg => ?_)
    refine xs_for (xi_range2 T.range x_int (xv 1) ⟨by omega, by omega, by omega, by omega⟩) (fun k ds' G' => ∃ b4 b6 L q', ds' = [some (.val (.ref pl)), some (.int (n : Nat)), some (.val (.ref lf)), some (.val (.ref od)), b4, some (.val (.ref rg)), b6] ∧ ldTp [b4, b6] = true ∧ RB ord (k + 1) L ∧ okPl q' ∧
      G' = (rg, .lst (L.map dPr)) :: (od, .lst (ord.map .int)) :: (lf, .lst []) :: plG pl sl ns q') ⟨⟨b4, none, [], q', rfl, ?_, .one, oq', rfl⟩, ?_, ?_⟩
    · simpa [ldTp] using hb
    · rintro k d ds' G' hd ⟨b4, b6, L, q2, rfl, hb2, hrb, oq2, rfl⟩
      obtain ⟨k', hk, rfl⟩ := map_get hd
      have hkn : k + 1 < n := by
        have := (List.getElem?_eq_some_iff.mp hk).1
        rw [List.length_range] at this
        omega
      rw [List.getElem?_range (by omega)] at hk
      cases hk
      have lL := hrb.len
      refine ⟨_, _, xgn 4 sc_tree.nd, ?_⟩
      have gt : ∀ q2, gTp ((rg, .lst (L.map dPr)) :: (od, .lst (ord.map .int)) :: (lf, .lst []) :: plG pl sl ns q2) = true := fun q2 => by
        rw [gTp_cons, gTp_cons, gTp_cons, plG_tp]; simp [cellTp, prs_tp]
      have mo : ∀ q2, (od, Cell.lst (ord.map .int)) ∈ (rg, Cell.lst (L.map dPr)) :: (od, .lst (ord.map .int)) :: (lf, .lst []) :: plG pl sl ns q2 := fun _ => List.mem_cons_of_mem _ List.mem_cons_self
      obtain ⟨xb, hxb⟩ := ogt (k + 1) hkn
      refine xs_asg 6 sc_tree.nd (xw_tup (xaw_cons1 (xw_ixC (xw_e (xv 3) ⟨od, rfl, xw_call (ok_draw T) hr rfl (xaw_a (xa_cons (xv 0) (xa_one (xv 4))) (eff_draw [3, 4] rfl (by decide) oq2 (by omega) (by omega) (by simp) ?_ (gt q2) ?_))⟩))))
      · simp [ldTp] at hb2 ⊢
        exact hb2.2
      · intro r q3 r0 r1 oq3
        obtain ⟨xa, hxa⟩ := ogt r.toNat (by omega)
        refine ⟨r, _, .int xa, rfl, mo q3, atI_of (k := r.toNat) (by omega) (by rw [List.getElem?_map, hxa]; rfl), [.int xb], xa_one (x_ixL (x_cell (xv 3) (mo q3)) (xv 4) (atI_of (k := k + 1) (by push_cast; omega) (by rw [List.getElem?_map, hxb]; rfl))), by simp, ?_⟩
        refine xs_ifM (fun ds' G' => ∃ fl q4, okPl q4 ∧ ds' = [some (.val (.ref pl)), some (.int (n : Nat)), some (.val (.ref lf)), some (.val (.ref od)), some (.int (1 + (k : Nat))), some (.val (.ref rg)), some (dPr (if fl = true then (xb, xa) else (xa, xb)))] ∧ G' = (rg, .lst (L.map dPr)) :: (od, .lst (ord.map .int)) :: (lf, .lst []) :: plG pl sl ns q4) (xv_cmp (op_eqD hu) (nomark _) (xw_call (ok_draw T) hr rfl (xaw_a (xa_cons (xv 0) (xa_one x_int)) (eff_draw [3, 4] rfl (by decide) oq3 (by decide) (by decide) (by simp) (by simp [ldTp]) (gt q3) ?_)))) ?_
        · intro r2 q4 _ _ oq4
          refine ⟨rfl, xw_e x_int ⟨_, ⟨?_, ?_⟩, rEqD_of rfl rfl⟩⟩
          · intro _
            refine xs_asg 6 sc_tree.nd (xw_e (x_tup (xa_cons (x_ixT (d := .int xb) (xv 6) x_int (atI_of (k := 1) rfl rfl)) (xa_one (x_ixT (d := .int xa) (xv 6) x_int (atI_of (k := 0) rfl rfl)))) (by simp)) ?_)
            exact xs_nil ⟨true, q4, oq4, rfl, rfl⟩
          · intro _
            exact xs_nil ⟨false, q4, oq4, rfl, rfl⟩
        · rintro ds' G' ⟨fl, q4, oq4, rfl, rfl⟩
          refine xs_expr (xw_insert (p := rg) (xv 5) List.mem_cons_self (xw_call (ok_draw T) hr rfl (xaw_a (xa_cons (xv 0) (xa_one (xv 4))) (eff_draw [3, 4] rfl (by decide) oq4 (by omega) (by omega) (by simp) (by simp [ldTp]) (gt q4) ?_))) (.inr hrg) (by simp [ldTp]))
          intro r2 q5 s0 s1 oq5
          refine ⟨_, xv 6, r2, 0, _, rfl, s0, by omega, rfl, rfl, by rw [List.length_map]; omega, gt q5, ?_⟩
          refine xs_nil ⟨some (.int (1 + (k : Nat))), some (dPr (if fl = true then (xb, xa) else (xa, xb))), _, q5, rfl, by simp [ldTp], .step fl hrb (by omega) hxa hxb (i := r2.toNat) (by omega), oq5, ?_⟩
          show (rg, Cell.lst ((L.map dPr).take r2.toNat ++ [dPr (if fl = true then (xb, xa) else (xa, xb))] ++ (L.map dPr).drop r2.toNat)) :: (od, .lst (ord.map .int)) :: (lf, .lst []) :: plG pl sl ns q5 = _
          rw [← List.map_take, ← List.map_drop, List.map_append, List.map_append]; rfl
    · rintro ds' G' ⟨b4, b6, L, q2, rfl, hb2, hrb, oq2, rfl⟩
      rw [List.length_map, List.length_range] at hrb
      have : ((n : Int) - 1).toNat + 1 = n := by omega
      rw [this] at hrb
      refine xs_retW (xw_e (xv 5) ⟨(rg, .lst (L.map dPr)) :: plG pl sl ns q2, sub_pick [0, 3, 4] rfl (by decide), [(rg, .lst (L.map dPr))], plG pl sl ns q2, rfl, rfl, by simpa using hrg, rg, L, q2, rfl, ⟨ord, hperm, hrb⟩, rfl, oq2, rfl⟩)
end
end RS
end TxtP20

section TxtP21
set_option Elab.async false
set_option linter.all false
set_option maxRecDepth 100000
set_option maxHeartbeats 1000000
namespace RS
open PySem PySem.Spec PyProof.Rows L2
theorem rgI_get {n j : Nat} {x : Int} (h : (rgI n)[j]? = some x) : x = (j : Int) ∧ j < n := by
  unfold rgI at h
  obtain ⟨y, h1, h2⟩ := map_get h
  have hj := (List.getElem?_eq_some_iff.mp h1).1
  rw [List.length_range] at hj
  rw [List.getElem?_range hj] at h1
  cases h1
  exact ⟨h2, hj⟩
theorem rgI_nodup (n : Nat) : (rgI n).Nodup := by
  unfold rgI
  exact List.Pairwise.map _ (fun a b h => by omega) List.nodup_range
theorem RB.ok {ord : List Int} {n k : Nat} {L : List (Int × Int)} (hp : ord.Perm (rgI n)) (h : RB ord k L) : ∀ x ∈ L, (0 ≤ x.1 ∧ x.1 < (n : Int)) ∧ (0 ≤ x.2 ∧ x.2 < (n : Int)) ∧ x.1 ≠ x.2 := by
  have hb : ∀ x ∈ ord, 0 ≤ x ∧ x < (n : Int) := fun x hx => by
    obtain ⟨j, hj⟩ := List.mem_iff_getElem?.mp (hp.mem_iff.mp hx)
    obtain ⟨rfl, h2⟩ := rgI_get hj
    omega
  have hn : ord.Nodup := hp.nodup_iff.mpr (rgI_nodup n)
  induction h with
  | one => intro x hx; simp at hx
  | @step k j i L a b fl h hj ha hb2 hi ih =>
    intro x hx
    rcases List.mem_append.mp hx with hx | hx
    · rcases List.mem_append.mp hx with hx | hx
      · exact ih x (List.mem_of_mem_take hx)
      · rw [List.mem_singleton] at hx
        have h1 := hb a (List.mem_of_getElem? ha)
        have h2 := hb b (List.mem_of_getElem? hb2)
        have h3 : a ≠ b := fun z => by
          subst z
          have := nd_ix hn ha hb2
          omega
        subst hx
        cases fl
        · exact ⟨h1, h2, h3⟩
        · exact ⟨h2, h1, h3.symm⟩
    · exact ih x (List.mem_of_mem_drop hx)
def prs (r : Rg) : List (Int × Int) := r.map fun l => (l.1, l.2.1)
structure okG (r : Rg) (ns : List Int) : Prop where
  len : r.length ≤ 3
  lk : ∀ l ∈ r, okL l ((r.length : Int) + 1) ns
  tr : TreeOk (r.length + 1) (prs r)
def GP (p : Pz) : Prop := ∀ (i : Nat) r, p[i]? = some r → okG r (szs (p.take i))
theorem GP.r7 {p : Pz} (h : GP p) : ∀ r ∈ p, r.length ≤ 7 := fun r hr => by
  obtain ⟨i, hi⟩ := List.mem_iff_getElem?.mp hr
  have := (h i r hi).len
  omega
theorem GP.snoc {p : Pz} {r : Rg} (h : GP p) (hr : okG r (szs p)) : GP (p ++ [r]) := fun i x hx => by
  by_cases hi : i < p.length
  · rw [List.getElem?_append_left hi] at hx
    rw [List.take_append_of_le_length (by omega)]
    exact h i x hx
  · rw [List.getElem?_append_right (by omega)] at hx
    have hi0 : i = p.length := by
      have := (List.getElem?_eq_some_iff.mp hx).1
      simp at this
      omega
    subst hi0
    simp at hx
    subst hx
    rw [List.take_append_of_le_length (Nat.le_refl _), List.take_length]
    exact hr
section
variable {P : Program} {w : World} {K : PySem.W.Frag} {mg : Str → Option Value} {base : Heap} {c : Ads}
theorem eff_pos {H0 : Hp} {M : List Addr} {ds : LD} {G : GG} {Kk : D → GG → Prop} {pl sl : Addr} {ns : List Int} {q : Pl} {p : Pz} (js : List Nat) (hp : Pick G js (plG pl sl ns q)) (hj : js.Nodup) (oq : okPl q) (p7 : p.length ≤ 7) (r7 : ∀ r ∈ p, r.length ≤ 7) (hM : (pl ∈ M ∨ H0 pl = none) ∧ (sl ∈ M ∨ H0 sl = none)) (hd : ldTp ds = true) (hg : gTp G = true)
    (hk : ∀ s q', okS s (szs p) → okPl q' → Kk (dS s) (setAll G js (plG pl sl ns q'))) : Eff H0 M ds R_pos G [.val (.ref pl), dP p] Kk := by
  refine ⟨js, _, _, hp, hj, ?_, hd, hg, ⟨pl, sl, ns, q, p, rfl, rfl, oq, p7, r7, rfl⟩, ?_⟩
  · intro x hx
    simp at hx
    rcases hx with rfl | rfl
    · exact hM.1
    · exact hM.2
  · rintro d N G' ⟨s, q', rfl, h1, rfl, h3, rfl⟩ _ _
    exact hk s q' h1 h3
def R_rings : RR := fun G dl Kc => ∃ pl sl ns q, G = plG pl sl ns q ∧ dl = [.val (.ref pl), .int 7, .int 4] ∧ okPl q ∧ Kc = fun d N G' => ∃ p q', d = dP p ∧ 1 ≤ p.length ∧ p.length ≤ 7 ∧ GP p ∧ N = [] ∧ okPl q' ∧ G' = plG pl sl ns q'
theorem sc_rings : FnScope ["_law_pool", "_law_rings", "_law_size", "_law_puzzle", "_law_k", "_law_ring", "_law_shared", "_law_pattern", "_law_one", "_law_other"] ["_law_pool", "_law_rings", "_law_size"] (defScope (top 52)) := ⟨rfl, rfl, rfl, by decide +kernel, rfl, by decide +kernel, by decide +kernel⟩
theorem ok_rings (T : Env K mg c) : Fn0 P w K mg base 3 "_law_random_rings" ["_law_pool", "_law_rings", "_law_size"] (spA P w R_rings) := T.random_rings.mk0 fun f fd F => fn_A F sc_rings (fun G dl d h => by obtain ⟨pl, sl, ns, q, rfl, rfl, _⟩ := h; rfl) fun cdv A outer s0 H E0 hr G dl Kc hF => by
  obtain ⟨pl, sl, ns, q, rfl, rfl, oq, rfl⟩ := hF
  have hu := hr.units
  refine xs_asg 3 sc_rings.nd (xw_e (d := dP []) (x_tup xa_nil (by simp)) ?_)
  refine xs_forRW T.range (xw_add (xw_e x_int ⟨_, rfl, xw_call (ok_draw T) (hr.mono (by decide)) rfl (xaw_a (xa_cons (xv 0) (xa_one (xv 1))) (eff_draw [0, 1] rfl (by decide) oq (by decide) (by decide) (by simp) (by simp [ldTp, locD]) plG_tp ?_))⟩))
  intro rn q1 rn0 rn1 oq1
  refine ⟨_, rfl, 1 + rn, fun i ds' G' => ∃ b4 b5 b6 b7 b8 b9 p q', ds' = [some (.val (.ref pl)), some (.int 7), some (.int 4), some (dP p), b4, b5, b6, b7, b8, b9] ∧ ldTp [b4, b5, b6, b7, b8, b9] = true ∧ p.length = i ∧ GP p ∧ okPl q' ∧ G' = plG pl sl ns q', rfl, by omega, by omega, ⟨⟨none, none, none, none, none, none, [], q1, rfl, rfl, rfl, fun i r h => by simp at h, oq1, rfl⟩, ?_, ?_⟩⟩
  · rintro i d ds' G' hd ⟨b4, b5, b6, b7, b8, b9, p, q2, rfl, hb, hpl, gp, oq2, rfl⟩
    obtain ⟨i', hi, rfl⟩ := map_get hd
    have hin := (List.getElem?_eq_some_iff.mp hi).1
    rw [List.length_range] at hin
    rw [List.getElem?_range hin] at hi
    cases hi
    have p7 : p.length ≤ 6 := by omega
    refine ⟨_, _, xgn 4 sc_rings.nd, ?_⟩
    refine xs_asg 5 sc_rings.nd (xw_n (xn_lst xa_nil (by simp)) fun rg hrg => ?_)
    have gt : ∀ (r : Rg) q2, gTp ((rg, .lst (r.map dL)) :: plG pl sl ns q2) = true := fun r q2 => by
      rw [gTp_cons, plG_tp]; simp [cellTp, tpAll_map (fun _ => tp_dL)]
    have hb6 : tpAll [] = true := rfl
    refine xs_asg 6 sc_rings.nd (xw_call (ok_draw T) (hr.mono (by decide)) rfl (xaw_a (xa_cons (xv 0) (xa_one x_int)) (eff_draw [1, 2] rfl (by decide) oq2 (by decide) (by decide) (by simp) ?_ (gt [] q2) ?_)))
    · simp [ldTp] at hb ⊢
      exact hb.2.2
    intro sh q3 _ _ oq3
    refine xs_asg 7 sc_rings.nd (xw_call (ok_pos T) hr rfl (xaw_a (xa_cons (xv 0) (xa_one (xv 3))) (eff_pos (p := p) [1, 2] rfl (by decide) oq3 (by omega) gp.r7 (by simp) ?_ (gt [] q3) ?_)))
    · simp [ldTp] at hb ⊢
      exact hb.2.2.2
    intro pat0 q4 hpat0 oq4
    refine xs_forW (xw_call (ok_tree T) hr rfl (xaw_cons (xw_e (xv 0) ⟨rfl, xaw_cons1 (xw_add (xw_e x_int ⟨_, rfl, xw_call (ok_draw T) (hr.mono (by decide)) rfl (xaw_a (xa_cons (xv 0) (xa_one (xv 2))) (eff_draw [1, 2] rfl (by decide) oq4 (by decide) (by decide) (by simp) ?_ (gt [] q4) ?_))⟩))⟩)))
    · simp [ldTp] at hb ⊢
      exact hb.2.2.2.2
    intro sz q5 sz0 sz1 oq5
    obtain ⟨sn, hsn⟩ : ∃ sn : Nat, sz = (sn : Int) := ⟨sz.toNat, by omega⟩
    subst hsn
    have hargs : (1 + (sn : Int)) = ((1 + sn : Nat) : Int) := by push_cast; rfl
    refine ⟨_, rfl, [], xa_nil, [1, 2], _, _, rfl, by decide, ?_, ?_, gt [] q5, ⟨pl, sl, ns, q5, 1 + sn, rfl, by rw [hargs], oq5, by omega, by omega, rfl⟩, ?_⟩
    · intro x hx; simp at hx ⊢; rcases hx with rfl | rfl <;> simp
    · simp [ldTp] at hb ⊢
      exact hb.2.2.2.2
    rintro d N G' ⟨t, L, q6, rfl, tro, rfl, oq6, rfl⟩ _ hN
    have ht := hN _ List.mem_cons_self
    obtain ⟨ord, hperm, hrb⟩ := tro
    have lL := hrb.len
    have okl := hrb.ok hperm
    have gt2 : ∀ (r : Rg) q2, gTp ((t, .lst (L.map dPr)) :: (rg, .lst (r.map dL)) :: plG pl sl ns q2) = true := fun r q2 => by
      rw [gTp_cons, gt]; simp [cellTp, prs_tp]
    refine ⟨t, L.map dPr, fun j ds' G' => ∃ b8 b9 r pat q', ds' = [some (.val (.ref pl)), some (.int 7), some (.int 4), some (dP p), some (.int (i : Nat)), some (.val (.ref rg)), some (.int sh), some (dS pat), b8, b9] ∧ ldTp [b8, b9] = true ∧ okS pat (szs p) ∧ prs r = L.take j ∧ (∀ l ∈ r, okS l.2.2 (szs p)) ∧ okPl q' ∧
      G' = (t, .lst (L.map dPr)) :: (rg, .lst (r.map dL)) :: plG pl sl ns q', rfl, List.mem_cons_self, ?_, ⟨⟨b8, b9, [], pat0, q6, rfl, ?_, hpat0, rfl, by simp, oq6, rfl⟩, ?_, ?_⟩⟩
    · rintro j ds' G' ⟨b8, b9, r, pat, q', rfl, _, _, _, _, _, rfl⟩
      exact List.mem_cons_self
    · simp [ldTp] at hb ⊢
      exact hb.2.2.2.2
    · rintro j d ds' G' hd ⟨b8, b9, r, pat, q7, rfl, hb89, hpat, hpr, hrl, oq7, rfl⟩
      obtain ⟨x, hx, rfl⟩ := map_get hd
      have hjl := (List.getElem?_eq_some_iff.mp hx).1
      have hrlen : r.length = j := by
        have := congrArg List.length hpr
        rw [List.length_take] at this
        unfold prs at this
        rw [List.length_map] at this
        omega
      refine ⟨_, _, xg_tup (xgs_cons (xgn 8 sc_rings.nd) (xgs_cons (xgn 9 sc_rings.nd) xgs_nil)) rfl, ?_⟩
      refine xs_ifM (fun ds' G' => ∃ pat q', ds' = [some (.val (.ref pl)), some (.int 7), some (.int 4), some (dP p), some (.int (i : Nat)), some (.val (.ref rg)), some (.int sh), some (dS pat), some (.int x.1), some (.int x.2)] ∧ okS pat (szs p) ∧ okPl q' ∧ G' = (t, .lst (L.map dPr)) :: (rg, .lst (r.map dL)) :: plG pl sl ns q') (xv_t (t_gt (xv 6) x_int) ⟨?_, ?_⟩) ?_
      · intro _
        refine xs_asg 7 sc_rings.nd (xw_call (ok_pos T) hr rfl (xaw_a (xa_cons (xv 0) (xa_one (xv 3))) (eff_pos (p := p) [2, 3] rfl (by decide) oq7 (by omega) gp.r7 (by simp) (by simp [ldTp]) (gt2 r q7) fun s q8 hs oq8 => xs_nil ⟨s, q8, rfl, hs, oq8, rfl⟩)))
      · intro _
        exact xs_nil ⟨pat, q7, rfl, hpat, oq7, rfl⟩
      · rintro ds' G' ⟨pat2, q8, rfl, hpat2, oq8, rfl⟩
        refine xs_expr (xw_append (p := rg) (xv 5) (List.mem_cons_of_mem _ List.mem_cons_self) (xw_e (d := dL (x.1, x.2, pat2)) (x_tup (xa_cons (xv 8) (xa_cons (xv 9) (xa_one (xv 7)))) (by simp)) ⟨1, _, rfl, by simp, by rw [List.length_map]; omega, gt2 r q8, ?_⟩) (.inr hrg) (by simp [ldTp]))
        refine xs_nil ⟨some (.int x.1), some (.int x.2), r ++ [(x.1, x.2, pat2)], pat2, q8, rfl, by simp [ldTp], hpat2, ?_, ?_, oq8, ?_⟩
        · unfold prs at hpr ⊢
          rw [List.map_append, hpr, take_snoc hx]; rfl
        · intro l hl
          rcases List.mem_append.mp hl with h | h
          · exact hrl l h
          · rw [List.mem_singleton] at h; subst h; exact hpat2
        · show (t, Cell.lst (L.map dPr)) :: (rg, .lst (r.map dL ++ [dL (x.1, x.2, pat2)])) :: plG pl sl ns q8 = _
          rw [List.map_append]; rfl
    · rintro ds' G' ⟨b8, b9, r, pat, q7, rfl, hb89, hpat, hpr, hrl, oq7, rfl⟩
      rw [List.length_map, List.take_length] at hpr
      have hrlen : r.length = L.length := by
        have := congrArg List.length hpr
        unfold prs at this
        rwa [List.length_map] at this
      have og : okG r (szs p) := by
        refine ⟨by omega, fun l hl => ?_, ord, ?_, ?_⟩
        · have hm : (l.1, l.2.1) ∈ L := by rw [← hpr]; exact List.mem_map_of_mem (f := fun l : Lk => (l.1, l.2.1)) hl
          obtain ⟨⟨a1, a2⟩, ⟨a3, a4⟩, a5⟩ := okl _ hm
          have en : ((1 + sn : Nat) : Int) = (r.length : Int) + 1 := by omega
          rw [en] at a2 a4
          exact ⟨a1, a2, a3, a4, a5, hrl l hl⟩
        · have : r.length + 1 = 1 + sn := by omega
          rw [this]; exact hperm
        · have : r.length + 1 = 1 + sn := by omega
          rw [this, hpr]; exact hrb
      refine xs_asg 3 sc_rings.nd (xw_e (d := dP (p ++ [r])) (XE.to (x_cat (xv 3) (x_tup (xa_one (x_tupleOf T.tuple boot_tuple (x_cell (xv 5) (List.mem_cons_of_mem _ List.mem_cons_self)))) (by simp)) ?_) ?_) ?_)
      · rw [List.length_map]; simp; omega
      · unfold dP; rw [List.map_append]; rfl
      · refine xs_weak (G' := plG pl sl ns q7) (xs_nil ⟨some (.int (i : Nat)), some (.val (.ref rg)), some (.int sh), some (dS pat), b8, b9, p ++ [r], q7, rfl, ?_, by rw [List.length_append, hpl]; rfl, gp.snoc og, oq7, rfl⟩) rfl (fun _ _ h => h) (sub_pick [2, 3] rfl (by decide))
        simp [ldTp] at hb89 ⊢
        exact hb89
  · rintro ds' G' ⟨b4, b5, b6, b7, b8, b9, p, q2, rfl, hb, hpl, gp, oq2, rfl⟩
    rw [List.length_map, List.length_range] at hpl
    exact xs_ret (xw_e (xv 3) ⟨[], _, rfl, rfl, by simp, p, q2, rfl, by omega, by omega, gp, rfl, oq2, rfl⟩)
end
end RS
end TxtP21

section TxtM8
set_option Elab.async false
set_option linter.all false
set_option maxRecDepth 100000
set_option maxHeartbeats 4000000
/-! trees of at most four positions: by table -/
namespace RS
open PySem PySem.Spec PyProof.Rows L2
abbrev Pr := List (Int × Int)
def rstep2 (ks : List Int) (l : Int × Int) : List Int := if l.1 ∈ ks ∨ l.2 ∈ ks then addI (addI ks l.1) l.2 else ks
def reach2 (r : Pr) : List Int := r.foldl (fun ks _ => r.foldl rstep2 ks) [0]
def conn2 (r : Pr) : Bool := decide ((reach2 r).length = r.length + 1)
theorem foldl_const {α β γ : Type} (f : γ → γ) : ∀ (l : List α) (m : List β), l.length = m.length → ∀ x, l.foldl (fun a _ => f a) x = m.foldl (fun a _ => f a) x
  | [], [], _, _ => rfl
  | [], _ :: _, h, _ => by simp at h
  | _ :: _, [], h, _ => by simp at h
  | a :: l, b :: m, h, x => by rw [List.foldl_cons, List.foldl_cons]; exact foldl_const f l m (by simpa using h) _
theorem conn_prs (r : Rg) : conn r = conn2 (prs r) := by
  have h1 : ∀ ks, r.foldl rstep ks = (prs r).foldl rstep2 ks := fun ks => by
    unfold prs
    rw [List.foldl_map]; rfl
  have h2 : reach r = reach2 (prs r) := by
    unfold reach reach2
    simp only [h1]
    exact foldl_const (fun ks => (prs r).foldl rstep2 ks) r (prs r) (by unfold prs; simp) _
  unfold conn conn2
  rw [h2]
  unfold prs
  rw [List.length_map]
def pstep' (ps : PT0) (x : (Int × Int) × Nat) : PT0 := pstep2 (pstep2 ps x.2 x.1.1 x.1.2) x.2 x.1.2 x.1.1
def rpath2 (r : Pr) (s e : Int) : Option (List (Nat × Int)) := getP (r.foldl (fun ps _ => r.zipIdx.foldl pstep' ps) [(s, [])]) e
theorem rpath_prs (r : Rg) (s e : Int) : rpath r s e = rpath2 (prs r) s e := by
  have h1 : ∀ ps, ppass r ps = (prs r).zipIdx.foldl pstep' ps := fun ps => by
    unfold ppass prs
    rw [List.zipIdx_map, List.foldl_map]; rfl
  unfold rpath rpath2 pathsOf
  simp only [h1]
  rw [foldl_const (fun ps => (prs r).zipIdx.foldl pstep' ps) r (prs r) (by unfold prs; simp)]
def chainB (r : Pr) : Int → List (Nat × Int) → Bool
  | _, [] => true
  | cur, x :: l => (match r[x.1]? with | some lk => (decide (lk.1 = cur) && decide (lk.2 = x.2)) || (decide (lk.2 = cur) && decide (lk.1 = x.2)) | none => false) && chainB r x.2 l
def nodupB : List Int → Bool
  | [] => true
  | a :: l => !l.any (fun b => decide (b = a)) && nodupB l
theorem nodupB_ok : ∀ {l : List Int}, nodupB l = true → l.Nodup
  | [], _ => List.nodup_nil
  | a :: l, h => by
    unfold nodupB at h
    rw [Bool.and_eq_true] at h
    rw [List.nodup_cons]
    refine ⟨fun z => ?_, nodupB_ok h.2⟩
    have h1 := h.1
    simp at h1
    exact h1 a z rfl
def pathB (r : Pr) (s e : Int) : Bool := match rpath2 r s e with
  | some l => chainB r s l && decide ((l.map (·.2)).getLastD s = e) && nodupB (s :: l.map (·.2)) && decide (l.length ≤ 3)
  | none => false
theorem chainB_ok {r : Rg} : ∀ {l : List (Nat × Int)} {cur : Int}, chainB (prs r) cur l = true → chain r cur l
  | [], _, _ => True.intro
  | x :: l, cur, h => by
    unfold chainB at h
    rw [Bool.and_eq_true] at h
    refine ⟨?_, chainB_ok h.2⟩
    have h1 := h.1
    unfold prs at h1
    rw [List.getElem?_map] at h1
    cases hr : r[x.1]? with
    | none => rw [hr] at h1; cases h1
    | some lk =>
      rw [hr] at h1
      refine ⟨lk, rfl, ?_⟩
      simp at h1
      rcases h1 with h | h
      · exact .inl h
      · exact .inr h
theorem pathB_ok {r : Rg} {s e : Int} (h : pathB (prs r) s e = true) : ∃ l, rpath r s e = some l ∧ PathOk r s e l := by
  unfold pathB at h
  rw [rpath_prs]
  cases hl : rpath2 (prs r) s e with
  | none => rw [hl] at h; cases h
  | some l =>
    rw [hl] at h
    simp only [Bool.and_eq_true, decide_eq_true_eq] at h
    obtain ⟨⟨⟨h1, h2⟩, h3⟩, h4⟩ := h
    exact ⟨l, rfl, chainB_ok h1, h2, nodupB_ok h3, h4⟩
/-- all rows of n of the items -/
def rows {α : Type} (xs : List α) : Nat → List (List α)
  | 0 => [[]]
  | n + 1 => (rows xs n).flatMap fun l => xs.map fun x => x :: l
theorem rows_mem {α : Type} {xs : List α} : ∀ {n : Nat} {l : List α}, l.length = n → (∀ x ∈ l, x ∈ xs) → l ∈ rows xs n
  | 0, [], _, _ => by simp [rows]
  | 0, _ :: _, h, _ => by simp at h
  | n + 1, [], h, _ => by simp at h
  | n + 1, a :: l, h, hx => List.mem_flatMap.mpr ⟨l, rows_mem (by simpa using h) fun x hm => hx x (List.mem_cons_of_mem _ hm), List.mem_map.mpr ⟨a, hx a List.mem_cons_self, rfl⟩⟩
def rbs (ord : List Int) : Nat → List Pr
  | 0 => []
  | 1 => [[]]
  | k + 2 => (rbs ord (k + 1)).flatMap fun L => (List.range (k + 1)).flatMap fun j => [false, true].flatMap fun fl => (List.range (k + 1)).map fun i => L.take i ++ [if fl then (ord.getD (k + 1) 0, ord.getD j 0) else (ord.getD j 0, ord.getD (k + 1) 0)] ++ L.drop i
theorem rbs_mem {ord : List Int} {k : Nat} {L : Pr} (h : RB ord k L) : L ∈ rbs ord k := by
  induction h with
  | one => simp [rbs]
  | @step k j i L a b fl h hj ha hb hi ih =>
    cases k with
    | zero => omega
    | succ k =>
      have ea : ord.getD j 0 = a := by rw [List.getD_eq_getElem?_getD, ha]; rfl
      have eb : ord.getD (k + 1) 0 = b := by rw [List.getD_eq_getElem?_getD, hb]; rfl
      refine List.mem_flatMap.mpr ⟨L, ih, List.mem_flatMap.mpr ⟨j, List.mem_range.mpr hj, List.mem_flatMap.mpr ⟨fl, by cases fl <;> simp, List.mem_map.mpr ⟨i, List.mem_range.mpr hi, ?_⟩⟩⟩⟩
      rw [ea, eb]
def ords (n : Nat) : List (List Int) := (rows (rgI n) n).filter nodupB
def pairsOf (n : Nat) : Pr := (rgI n).flatMap fun a => ((rgI n).filter fun b => decide (b ≠ a)).map fun b => (a, b)
theorem tbl1 : ([1, 2, 3, 4].all fun n => (ords n).all fun o => (rbs o n).all conn2) = true := by decide +kernel
theorem tbl2 : ([1, 2, 3, 4].all fun n => (rows (pairsOf n) (n - 1)).all fun L => !conn2 L || ((rgI n).all fun s => (rgI n).all fun e => pathB L s e)) = true := by decide +kernel
end RS
end TxtM8

section TxtM9
set_option Elab.async false
set_option linter.all false
set_option maxRecDepth 100000
set_option maxHeartbeats 1000000
/-! random rings are valid -/
namespace RS
open PySem PySem.Spec PyProof.Rows L2
theorem rgI_mem {n : Nat} {x : Int} : x ∈ rgI n ↔ 0 ≤ x ∧ x < (n : Int) := by
  constructor
  · intro h
    obtain ⟨j, hj⟩ := List.mem_iff_getElem?.mp h
    obtain ⟨rfl, h2⟩ := rgI_get hj
    omega
  · rintro ⟨h1, h2⟩
    unfold rgI
    exact List.mem_map.mpr ⟨x.toNat, List.mem_range.mpr (by omega), by omega⟩
theorem nodupB_of : ∀ {l : List Int}, l.Nodup → nodupB l = true
  | [], _ => rfl
  | a :: l, h => by
    rw [List.nodup_cons] at h
    unfold nodupB
    rw [nodupB_of h.2, Bool.and_true]
    simp
    intro x hx e
    subst e
    exact h.1 hx
theorem n4 {n : Nat} (h1 : 1 ≤ n) (h4 : n ≤ 4) : n ∈ [1, 2, 3, 4] := by
  have : n = 1 ∨ n = 2 ∨ n = 3 ∨ n = 4 := by omega
  rcases this with rfl | rfl | rfl | rfl <;> simp
theorem tree_conn {n : Nat} {L : Pr} (h1 : 1 ≤ n) (h4 : n ≤ 4) (h : TreeOk n L) : conn2 L = true := by
  obtain ⟨ord, hp, hr⟩ := h
  have t := List.all_eq_true.mp tbl1 n (n4 h1 h4)
  have ho : ord ∈ ords n := by
    unfold ords
    rw [List.mem_filter]
    refine ⟨rows_mem ?_ fun x hx => hp.mem_iff.mp hx, nodupB_of (hp.nodup_iff.mpr (rgI_nodup n))⟩
    rw [hp.length_eq]; unfold rgI; simp
  exact List.all_eq_true.mp (List.all_eq_true.mp t ord ho) L (rbs_mem hr)
theorem okG_okZ {r : Rg} {ns : List Int} (h : okG r ns) : okR r ns ∧ ∀ s e : Int, 0 ≤ s → s < (r.length : Int) + 1 → 0 ≤ e → e < (r.length : Int) + 1 → ∃ l, rpath r s e = some l ∧ PathOk r s e l := by
  have hl := h.len
  have hc := tree_conn (n := r.length + 1) (by omega) (by omega) h.tr
  refine ⟨⟨by omega, by rw [conn_prs]; exact hc, h.lk⟩, fun s e s0 s1 e0 e1 => ?_⟩
  have t := List.all_eq_true.mp tbl2 (r.length + 1) (n4 (by omega) (by omega))
  have hm : prs r ∈ rows (pairsOf (r.length + 1)) (r.length + 1 - 1) := by
    refine rows_mem (by unfold prs; simp) fun x hx => ?_
    obtain ⟨l, hl2, rfl⟩ := List.mem_map.mp hx
    have ok := h.lk l hl2
    unfold pairsOf
    refine List.mem_flatMap.mpr ⟨l.1, rgI_mem.mpr ⟨ok.a0, by have := ok.a1; push_cast; exact this⟩, List.mem_map.mpr ⟨l.2.1, List.mem_filter.mpr ⟨rgI_mem.mpr ⟨ok.b0, by have := ok.b1; push_cast; exact this⟩, ?_⟩, rfl⟩⟩
    simpa using fun z : l.2.1 = l.1 => ok.ne z.symm
  have t2 := List.all_eq_true.mp t (prs r) hm
  rw [hc] at t2
  have t3 : ((rgI (r.length + 1)).all fun s => (rgI (r.length + 1)).all fun e => pathB (prs r) s e) = true := by simpa using t2
  exact pathB_ok (List.all_eq_true.mp (List.all_eq_true.mp t3 s (rgI_mem.mpr ⟨s0, by push_cast; exact s1⟩)) e (rgI_mem.mpr ⟨e0, by push_cast; exact e1⟩))
theorem gp_okZ {p : Pz} (h1 : 1 ≤ p.length) (h7 : p.length ≤ 7) (gp : GP p) : okZ p := by
  refine ⟨⟨h1, h7, fun i r hr => (okG_okZ (gp i r hr)).1, fun r hr => ?_⟩, fun r hr => ?_⟩
  · obtain ⟨i, hi⟩ := List.mem_iff_getElem?.mp hr
    exact (gp i r hi).len
  · obtain ⟨i, hi⟩ := List.mem_iff_getElem?.mp hr
    exact (okG_okZ (gp i r hi)).2
end RS
end TxtM9

section TxtP22
set_option Elab.async false
set_option linter.all false
set_option maxRecDepth 100000
set_option maxHeartbeats 1000000
namespace RS
open PySem PySem.Spec PyProof.Rows L2
def lstep (s : List Int) (i : Nat) (acc : List (Nat × Int)) (l : Lk) : List (Nat × Int) := if mOk s i l = true then acc ++ [(i, l.1 + l.2.1 - s.getD i 0)] else acc
def lring (s : List Int) (acc : List (Nat × Int)) (x : Rg × Nat) : List (Nat × Int) := x.1.foldl (lstep s x.2) acc
def lmovesOf (p : Pz) (s : List Int) : List (Nat × Int) := p.zipIdx.foldl (lring s) []
theorem lstep_len {s : List Int} {i : Nat} (acc : List (Nat × Int)) (l : Lk) : (lstep s i acc l).length ≤ acc.length + 1 := by
  unfold lstep; split <;> simp
theorem lring_len {s : List Int} (acc : List (Nat × Int)) (x : Rg × Nat) : (lring s acc x).length ≤ acc.length + x.1.length := by
  have := foldl_len2 (f := lstep s x.2) (m := 1) x.1 acc fun b _ ks => lstep_len ks b
  unfold lring
  omega
theorem lstep_mono {s : List Int} {i : Nat} (ks : List (Nat × Int)) (b : Lk) (x : Nat × Int) (hx : x ∈ ks) : x ∈ lstep s i ks b := by
  unfold lstep; split
  · exact List.mem_append_left _ hx
  · exact hx
theorem lring_mono {s : List Int} (ks : List (Nat × Int)) (b : Rg × Nat) (x : Nat × Int) (hx : x ∈ ks) : x ∈ lring s ks b := foldl_mono lstep_mono _ _ x hx
theorem legal_lmem {p : Pz} {n : Nat} {s : List Int} {b : Int} (hs : s.length = n + 1) (h : legal p n s.dropLast (lastI s) b) : (n, b) ∈ lmovesOf (p.take (n + 1)) s := by
  obtain ⟨r, hr, l, hl, hp, hc⟩ := h
  have hsn : s ≠ [] := fun z => by rw [z] at hs; cases hs
  have hd : s.dropLast = s.take n := by
    rw [List.dropLast_eq_take, hs]; rfl
  have hg : s.getD n 0 = lastI s := by
    unfold lastI
    rw [List.getLastD_eq_getLast?, List.getLast?_eq_getElem?, hs, Nat.add_sub_cancel, List.getD_eq_getElem?_getD]
  refine foldl_hit lring_mono (b := (r, n)) (fun ks => ?_) _ _ ?_
  · refine foldl_hit lstep_mono (b := l) (fun ks => ?_) _ _ hl
    unfold lstep
    have ho : mOk s n l = true := by
      unfold mOk
      rw [hg, hp, hd]
      rcases hc with ⟨h1, _⟩ | ⟨h1, _⟩ <;> simp [h1]
    rw [if_pos ho, hg]
    refine List.mem_append_right _ (List.mem_singleton.mpr ?_)
    rcases hc with ⟨h1, h2⟩ | ⟨h1, h2⟩
    · rw [← h1, ← h2]; congr 1; omega
    · rw [← h1, ← h2]; congr 1; omega
  · refine List.mem_zipIdx_iff_getElem?.mpr ?_
    show (p.take (n + 1))[n]? = some r
    rw [List.getElem?_take_of_lt (by omega), hr]
section
variable {P : Program} {w : World} {K : PySem.W.Frag} {mg : Str → Option Value} {base : Heap} {c : Ads}
def F_lmoves (G : GG) (dl : List D) (d : D) : Prop := ∃ (p : Pz) (s : List Int), dl = [dP p, dS s] ∧ G = [] ∧ p.length ≤ 7 ∧ (∀ r ∈ p, r.length ≤ 7) ∧ p.length ≤ s.length ∧ d = .lst ((lmovesOf p s).map dM)
theorem sc_lmoves : FnScope ["_law_puzzle", "_law_state", "_law_result", "_law_ring", "_law_one", "_law_other", "_law_pattern"] ["_law_puzzle", "_law_state"] (defScope (top 53)) := ⟨rfl, rfl, rfl, by decide +kernel, rfl, by decide +kernel, by decide +kernel⟩
theorem ok_lmoves (T : Env K mg c) : Fn0 P w K mg base 1 "_law_moves" ["_law_puzzle", "_law_state"] (spP P w F_lmoves) := T.lmoves.mk0 fun f fd F => fn_P F sc_lmoves (fun G dl d h => by obtain ⟨p, s, rfl, _⟩ := h; rfl) fun cdv A outer s0 H E0 hr G dl d hF => by
  obtain ⟨p, s, rfl, rfl, hz, hrz, hps, rfl⟩ := hF
  have hu := hr.units
  refine xs_asg 2 sc_lmoves.nd (xw_n (xn_lst xa_nil (by simp)) fun q hq => ?_)
  refine xs_for (xi_range1 (n := (p.length : Int)) T.range (XE.to (x_lenT T.len (xv 0)) (by rw [List.length_map])) (by omega) (by omega)) (fun i ds' G' => ∃ b3 b4 b5 b6, ds' = [some (dP p), some (dS s), some (.val (.ref q)), b3, b4, b5, b6] ∧ ldTp [b3, b4, b5, b6] = true ∧ G' = [(q, .lst (((p.zipIdx.take i).foldl (lring s) []).map dM))]) ⟨⟨_, _, _, _, rfl, rfl, rfl⟩, ?_, ?_⟩
  · rintro i d ds' G' hd ⟨b3, b4, b5, b6, rfl, hb, rfl⟩
    obtain ⟨i', hi, rfl⟩ := map_get hd
    have hil := (List.getElem?_eq_some_iff.mp hi).1
    rw [List.length_range, Int.toNat_natCast] at hil
    rw [List.getElem?_range (by simpa using hil)] at hi
    cases hi
    obtain ⟨r, hr1⟩ : ∃ r, p[i]? = some r := ⟨_, List.getElem?_eq_getElem hil⟩
    have hrl := hrz r (List.mem_of_getElem? hr1)
    have hzi : p.zipIdx[i]? = some (r, i) := by rw [List.getElem?_zipIdx, hr1]; simp
    refine ⟨_, _, xgn 3 sc_lmoves.nd, ?_⟩
    generalize hacc : (p.zipIdx.take i).foldl (lring s) [] = acc
    have hal : acc.length ≤ 49 := by
      have h1 := foldl_len2 (f := lring s) (m := 7) (p.zipIdx.take i) [] fun b hb ks => by
        have h2 := lring_len (s := s) ks b
        have h3 : b.1 ∈ p := by
          have h4 := List.mem_of_mem_take hb
          have := List.mem_zipIdx_iff_getElem?.mp h4
          exact List.mem_of_getElem? this
        have := hrz b.1 h3
        omega
      rw [hacc] at h1
      have h2 : (p.zipIdx.take i).length ≤ 7 := by rw [List.length_take, List.length_zipIdx]; omega
      simp only [List.length_nil] at h1
      omega
    rw [fold_take hzi, hacc]
    refine xs_for (dl := r.map dL) (xi_tup (x_ixT (d := dR r) (xv 0) (xv 3) (atI_of rfl (by rw [List.getElem?_map, hr1]; rfl))) (tpAll_map (fun _ => tp_dL) r)) (fun j ds' G' => ∃ b4 b5 b6, ds' = [some (dP p), some (dS s), some (.val (.ref q)), some (.int (i : Nat)), b4, b5, b6] ∧ ldTp [b4, b5, b6] = true ∧ G' = [(q, .lst (((r.take j).foldl (lstep s i) acc).map dM))]) ⟨⟨b4, b5, b6, rfl, ?_, rfl⟩, ?_, ?_⟩
    · simp [ldTp] at hb ⊢
      exact hb.2
    · rintro j d ds' G' hd ⟨b4, b5, b6, rfl, hb, rfl⟩
      obtain ⟨l, hl, rfl⟩ := map_get hd
      refine ⟨_, _, xg_tup (xgs_cons (xgn 4 sc_lmoves.nd) (xgs_cons (xgn 5 sc_lmoves.nd) (xgs_cons (xgn 6 sc_lmoves.nd) xgs_nil))) rfl, ?_⟩
      rw [fold_take hl]
      generalize hacc2 : (r.take j).foldl (lstep s i) acc = acc2
      have hal2 : acc2.length ≤ 60 := by
        have h1 := foldl_len2 (f := lstep s i) (m := 1) (r.take j) acc fun b hb ks => lstep_len ks b
        rw [hacc2] at h1
        have h2 : (r.take j).length ≤ 7 := by rw [List.length_take]; omega
        omega
      refine xs_ifT (t := mOk s i l) ((t_and (t_eqS hu (xv 6) (x_to (xv 1) (xv 3) rfl)) fun _ => t_and1 (t_inI (ns := [l.1, l.2.1]) (x_ixT (xv 1) (xv 3) (atI_of rfl (getD_int (by omega)))) (x_tup (xa_cons (xv 4) (xa_cons (xv 5) xa_nil)) (by simp))))).T ?_ ?_
      · intro ht
        refine xs_expr (xw_append (p := q) (xv 2) List.mem_cons_self (xw_e (d := dM (i, l.1 + l.2.1 - s.getD i 0)) (x_tup (xa_cons (xv 3) (xa_one (x_sub (x_add (xv 4) (xv 5)) (x_ixT (xv 1) (xv 3) (atI_of rfl (getD_int (by omega))))))) (by simp)) ⟨0, _, rfl, rfl, ?_, ?_, ?_⟩) (.inr hq) (by simp [ldTp]))
        · rw [List.length_map]; omega
        · simp [cellTp, tpAll_map (fun x : Nat × Int => (by simp [dM] : tp (dM x) = true))]
        · refine xs_nil (xs_nil ⟨_, _, _, rfl, by simp [ldTp], ?_⟩)
          unfold lstep
          rw [if_pos ht, List.map_append]; rfl
      · intro ht
        refine xs_nil (xs_nil ⟨_, _, _, rfl, by simp [ldTp], ?_⟩)
        unfold lstep
        rw [if_neg (by rw [ht]; decide)]
    · rintro ds' G' ⟨b4, b5, b6, rfl, hb, rfl⟩
      refine xs_nil ⟨some (.int (i : Nat)), b4, b5, b6, rfl, ?_, ?_⟩
      · simpa [ldTp] using hb
      · rw [List.length_map, List.take_length]; rfl
  · rintro ds' G' ⟨b3, b4, b5, b6, rfl, hb, rfl⟩
    refine xs_ret (xw_e (x_cell (xv 2) List.mem_cons_self) ?_)
    rw [List.length_map, List.length_range, Int.toNat_natCast]
    have : p.length = p.zipIdx.length := by rw [List.length_zipIdx]
    rw [this, List.take_length]; rfl
def F_lmoved (G : GG) (dl : List D) (d : D) : Prop := ∃ (s : List Int) (x : Nat × Int), dl = [dS s, dM x] ∧ s.length ≤ 1000 ∧ d = dS (stepS s x)
theorem sc_lmoved : FnScope ["_law_state", "_law_move"] ["_law_state", "_law_move"] (defScope (top 54)) := ⟨rfl, rfl, rfl, by decide +kernel, rfl, by decide +kernel, by decide +kernel⟩
theorem ok_lmoved (T : Env K mg c) : Fn0 P w K mg base 1 "_law_moved" ["_law_state", "_law_move"] (spP P w F_lmoved) := T.lmoved.mk0 fun f fd F => fn_P F sc_lmoved (fun G dl d h => by obtain ⟨s, x, rfl, _⟩ := h; rfl) fun cdv A outer s0 H E0 hr G dl d hF => by
  obtain ⟨s, x, rfl, hs, rfl⟩ := hF
  refine xs_ret (xw_e (x_catS (x_catS (t := [x.2]) (x_to (k := x.1) (xv 0) (x_ixT (d := .int (x.1 : Nat)) (xv 1) x_int (atI_of (k := 0) rfl rfl)) rfl) (x_tup (xa_one (x_ixT (d := .int x.2) (xv 1) x_int (atI_of (k := 1) rfl rfl))) (by simp)) ?_) (x_from (xv 0) (x_add (x_ixT (d := .int (x.1 : Nat)) (xv 1) x_int (atI_of (k := 0) rfl rfl)) x_int) (k := x.1 + 1) (by push_cast; rfl)) ?_) rfl)
  · rw [List.length_take]; simp; omega
  · rw [List.length_append, List.length_take, List.length_drop]; simp; omega
def F_whole (G : GG) (dl : List D) (d : D) : Prop := ∃ i : Int, dl = [.int i] ∧ d = .bl true
theorem sc_whole : FnScope ["_law_value"] ["_law_value"] (defScope (top 55)) := ⟨rfl, rfl, rfl, by decide +kernel, rfl, by decide +kernel, by decide +kernel⟩
theorem ok_whole (T : Env K mg c) : Fn0 P w K mg base 1 "_law_whole" ["_law_value"] (spP P w F_whole) := T.whole.mk0 fun f fd F => fn_P F sc_whole (fun G dl d h => by obtain ⟨v, rfl, _⟩ := h; rfl) fun cdv A outer s H E hr G dl d hF => by
  obtain ⟨i, rfl, rfl⟩ := hF
  exact xs_ret (xw_e (XE.to (x_and (x_isi (c := true) T.isinstance (xv 0) (xty "int" T.int) rfl rfl) fun _ => x_one (x_not (x_isi (c := false) T.isinstance (xv 0) (xty "bool" T.bool) rfl rfl))) rfl) rfl)
def F_lis_state (G : GG) (dl : List D) (d : D) : Prop := ∃ (p : Pz) (s : List Int), dl = [dP p, dS s] ∧ okS s (szs p) ∧ d = .bl true
theorem sc_lis_state : FnScope ["_law_puzzle", "_law_value", "_law_position", "_law_ring"] ["_law_puzzle", "_law_value"] (defScope (top 56)) := ⟨rfl, rfl, rfl, by decide +kernel, rfl, by decide +kernel, by decide +kernel⟩
theorem ok_lis_state (T : Env K mg c) : Fn0 P w K mg base 1 "_law_is_state" ["_law_puzzle", "_law_value"] (spP P w F_lis_state) := T.lis_state.mk0 fun f fd F => fn_P F sc_lis_state (fun G dl d h => by obtain ⟨p, s, rfl, _⟩ := h; rfl) fun cdv A outer s0 H E hr G dl d hF => by
  obtain ⟨p, s, rfl, hs, rfl⟩ := hF
  have hu := hr.units
  have hl : s.length = p.length := by rw [hs.1, szs_len]
  refine xs_if0 ((t_or (c := false) ((t_not (t_val (x_isi (c := true) T.isinstance (xv 1) (xty "tuple" T.tuple) rfl rfl))).to rfl) fun _ => t_or1 ((t_neI hu (x_lenT T.len (xv 1)) (x_lenT T.len (xv 0))).to (by rw [List.length_map, List.length_map, hl]; simp))).T.to rfl) ?_
  refine xs_forE (dl := zipD (s.map .int) (p.map dR)) (xi_zipTT T.zip (xv 1) (xv 0) (by rw [List.length_map, List.length_map, hl])) (fun i ds' G' => ∃ b2 b3, ds' = [some (dP p), some (dS s), b2, b3] ∧ G' = G) ⟨_, _, rfl, rfl⟩ ?_ ?_
  · rintro H1 _ i d ds' G' hd ⟨b2, b3, rfl, rfl⟩
    unfold zipD at hd
    rw [List.getElem?_zipWith, List.getElem?_map, List.getElem?_map] at hd
    cases ha : s[i]? with
    | none => rw [ha] at hd; simp at hd
    | some a =>
      cases hr1 : p[i]? with
      | none => rw [ha, hr1] at hd; simp at hd
      | some r =>
        rw [ha, hr1] at hd
        cases hd
        have hb := hs.2 i a ((r.length : Int) + 1) ha (by unfold szs; rw [List.getElem?_map, hr1]; rfl)
        refine ⟨_, _, xg_tup (xgs_cons (xgn 2 sc_lis_state.nd) (xgs_cons (xgn 3 sc_lis_state.nd) xgs_nil)) rfl, ?_⟩
        refine xs_if0 ((t_or (c := false) ((t_not (t_val (x_isi (c := true) T.isinstance (xv 2) (xty "int" T.int) rfl rfl))).to rfl) fun _ => t_or (c := false) ((t_val (x_isi (c := false) T.isinstance (xv 2) (xty "bool" T.bool) rfl rfl))) fun _ => t_or1 ((t_not (t_chainI op_le op_le x_int (xv 2) (x_lenT T.len (xv 3)))).to ?_)).T.to rfl) (xs_nil ⟨_, _, rfl, rfl⟩)
        rw [List.length_map, decide_eq_true (by omega), decide_eq_true (by omega)]; rfl
  · rintro ds' G' ⟨b2, b3, rfl, rfl⟩
    exact xs_ret (xw_e x_bl rfl)
def F_lis_rule (G : GG) (dl : List D) (d : D) : Prop := ∃ (p : Pz) (x : Rec) (n : Nat), dl = [dP p, dRec x] ∧ n ≤ p.length ∧ okSt p n x.1.1 ∧ 1 ≤ x.2.length ∧ x.2.length ≤ 60 ∧ d = .bl true
theorem sc_lis_rule : FnScope ["_law_rings", "_law_rule"] ["_law_rings", "_law_rule"] (defScope (top 58)) := ⟨rfl, rfl, rfl, by decide +kernel, rfl, by decide +kernel, by decide +kernel⟩
theorem ok_lis_rule (T : Env K mg c) : Fn0 P w K mg base 2 "_law_is_rule" ["_law_rings", "_law_rule"] (spP P w F_lis_rule) := T.lis_rule.mk0 fun f fd F => fn_P F sc_lis_rule (fun G dl d h => by obtain ⟨p, x, n, rfl, _⟩ := h; rfl) fun cdv A outer s0 H E0 hr G dl d hF => by
  obtain ⟨p, x, n, rfl, hn, hs, h1, h60, rfl⟩ := hF
  have hu := hr.units
  have hl := hs.len hn
  refine xs_if0 ((t_or (c := false) ((t_not (t_val (x_isi (c := true) T.isinstance (xv 1) (xty "tuple" T.tuple) rfl rfl))).to rfl) fun _ => t_or (c := false) ((t_neI hu (x_lenT T.len (xv 1)) x_int).to rfl) fun _ => t_or1 ((t_not (t_val (x_isi (c := true) T.isinstance (x_ixT (d := dS x.1.1) (xv 1) x_int (atI_of (k := 0) rfl rfl)) (xty "tuple" T.tuple) rfl rfl))).to rfl)).T.to rfl) ?_
  refine xs_if0 ((t_not (t_val (xcl (d := .bl true) (ok_lis_state T) hr (xa_cons (XE.to (da := dP (p.take n)) (x_sl (xv 0) xo_none (xo_some (x_lenT T.len (x_ixT (d := dS x.1.1) (xv 1) x_int (atI_of (k := 0) rfl rfl))))) ?_) (xa_one (x_ixT (d := dS x.1.1) (xv 1) x_int (atI_of (k := 0) rfl rfl)))) ⟨p.take n, x.1.1, rfl, hs, rfl⟩ sub_nil))).to rfl) ?_
  · rw [List.length_map, hl, cut_to rfl, ← List.map_take]; rfl
  refine xs_ret (xw_e (XE.to (x_and (x_isi (c := true) T.isinstance (x_ixT (d := .tup (x.2.map dPart)) (xv 1) x_int (atI_of (k := 1) rfl rfl)) (xty "tuple" T.tuple) rfl rfl) fun _ => x_one (x_chainI op_le op_le x_int (x_lenT T.len (x_ixT (d := .tup (x.2.map dPart)) (xv 1) x_int (atI_of (k := 1) rfl rfl))) x_int)) ?_) rfl)
  rw [List.length_map, decide_eq_true (by omega), decide_eq_true (by omega)]; rfl
end
end RS
end TxtP22

section TxtP23
set_option Elab.async false
set_option linter.all false
set_option maxRecDepth 100000
set_option maxHeartbeats 1000000
namespace RS
open PySem PySem.Spec PyProof.Rows L2
/-- what _law_check keeps of a rule -/
def dChk (p : Pz) (x : Rec) : D := .tup [dS x.1.1, dS x.1.2, .int ((mvs p x.1.1.length x.1.1 x.1.2).length : Nat)]
@[simp] theorem tp_dChk {p : Pz} {x : Rec} : tp (dChk p x) = true := by simp [dChk]
theorem t_inDM {X : Cx} {ds : LD} {G : GG} {a b : Expr} {pos : Pos} {x : Nat × Int} {l : List (Nat × Int)} (hu : X.A.units + 65 < cLine) (ha : XE X G ds a (dM x)) (hb : XE X G ds b (.lst (l.map dM))) (hx : x ∈ l) (hm : behindInMarks .In b = false := by rfl) : XT X G ds (.Compare a [.In] [b] pos) true := (t_inD hu ha hb shp_dM shp_dMs hm).to (by rw [any_dM, decide_eq_true hx])
theorem stepS_last {s : List Int} {n : Nat} {b : Int} (hs : s.length = n + 1) : stepS s (n, b) = s.dropLast ++ [b] := by
  unfold stepS
  show s.take n ++ [b] ++ s.drop (n + 1) = _
  rw [List.drop_eq_nil_of_le (by omega), List.append_nil, List.dropLast_eq_take, hs]; rfl
section
variable {P : Program} {w : World} {K : PySem.W.Frag} {mg : Str → Option Value} {base : Heap} {c : Ads}
inductive Lfp (p : Pz) (es : List D) (s : List Int) : Part → D → Prop where
  | move {n : Nat} {b : Int} (h1 : s.length = n + 1) (h2 : n + 1 ≤ p.length) (h3 : legal p n s.dropLast (lastI s) b) : Lfp p es s (.move n b) (.tup [dS (s.dropLast ++ [b]), .int 1])
  | rule {j : Nat} {x : Rec} (h1 : es[j]? = some (dChk p x)) (h2 : s.take x.1.1.length = x.1.1) (h3 : x.1.2.length + s.length ≤ 1000) : Lfp p es s (.rule j) (.tup [dS (x.1.2 ++ s.drop x.1.1.length), .int ((mvs p x.1.1.length x.1.1 x.1.2).length : Nat)])
def F_lfp (G : GG) (dl : List D) (d : D) : Prop := ∃ (p : Pz) (es : List D) (s : List Int) (part : Part), dl = [dP p, .lst es, dS s, dPart part] ∧ Sml p ∧ s.length ≤ 1000 ∧ Lfp p es s part d
theorem sc_lfp : FnScope ["_law_rings", "_law_effects", "_law_current", "_law_part", "_law_start", "_law_reached", "_law_length", "_law_value"] ["_law_rings", "_law_effects", "_law_current", "_law_part"] (defScope (top 57)) := ⟨rfl, rfl, rfl, by decide +kernel, rfl, by decide +kernel, by decide +kernel⟩
theorem ok_lfp (T : Env K mg c) : Fn0 P w K mg base 2 "_law_follow_part" ["_law_rings", "_law_effects", "_law_current", "_law_part"] (spP P w F_lfp) := T.lfollow_part.mk0 fun f fd F => fn_P F sc_lfp (fun G dl d h => by obtain ⟨p, es, s, part, rfl, _⟩ := h; rfl) fun cdv A outer s0 H E0 hr G dl d hF => by
  obtain ⟨p, es, s, part, rfl, sm, hsz, lf⟩ := hF
  have hu := hr.units
  have l7 := sm.l7
  cases lf with
  | @move n b h1 h2 h3 =>
    have hm := legal_lmem h1 h3
    have tl : (p.take (n + 1)).length = n + 1 := by rw [List.length_take]; omega
    refine xs_if0 ((t_or (c := false) ((t_not (t_val (x_isi (c := true) T.isinstance (xv 3) (xty "tuple" T.tuple) rfl rfl))).to rfl) fun _ => t_or (c := false) ((t_eqI hu (x_lenT T.len (xv 3)) x_int).to rfl) fun _ => t_or1 ((t_not (t_val (x_isi (c := true) T.isinstance (x_ixT (d := .str "move") (xv 3) x_int (atI_of (k := 0) rfl rfl)) (xty "str" T.str) rfl rfl))).to rfl)).T.to rfl) ?_
    refine xs_if0 (XT.to (t_not (t_val (x_all (bs := [true, true]) T.all (XN.E (xn_lc (rl := [.bl true, .bl true]) (dl := [.int (n : Nat), .int b]) (own := [("_law_value", 7)]) sc_lfp.nd (XI.ex (xi_tup (XE.to (x_sl (xv 3) (xo_some x_int) xo_none) rfl) rfl)) (blk ["_law_rings", "_law_effects", "_law_current", "_law_part", "_law_start", "_law_reached", "_law_length", "_law_value"] (top 57) (by decide +kernel)) rfl (by simp) rfl ?_))))) rfl) ?_
    · intro k d r hd hr2
      have h4 : ∃ i : Int, d = .int i ∧ r = .bl true := by
        match k, hd, hr2 with
        | 0, hd, hr2 => cases hd; cases hr2; exact ⟨_, rfl, rfl⟩
        | 1, hd, hr2 => cases hd; cases hr2; exact ⟨_, rfl, rfl⟩
      obtain ⟨i, rfl, rfl⟩ := h4
      refine ⟨_, _, ?_, fun s H C cl fp => ⟨xgn 7 sc_lfp.nd, ?_⟩⟩
      · simp
      · exact xcl (ok_whole T) hr (xa_one (xv 7)) ⟨i, rfl, rfl⟩ sub_nil
    refine xs_if1 ((t_and (c := true) ((t_eq hu (x_ixT (d := .str "move") (xv 3) x_int (atI_of (k := 0) rfl rfl)) x_str (shp_of (n := 1) (by decide) (by decide +kernel)) (shp_of (n := 1) (by decide) (by decide +kernel))).to (by rw [deq_strB]; decide +kernel)) fun _ => t_and (c := true) ((t_eqI hu (x_lenT T.len (xv 3)) x_int).to rfl) fun _ => t_and1 (t_inDM (x := (n, b)) (u65_of hr) (XE.to (x_sl (xv 3) (xo_some x_int) xo_none) rfl) (xcl (ok_lmoves T) hr (xa_cons (XE.to (da := dP (p.take (n + 1))) (x_sl (xv 0) xo_none (xo_some (x_lenT T.len (xv 2)))) ?_) (xa_one (xv 2))) ⟨p.take (n + 1), s, rfl, rfl, by omega, fun r hr => sm.r7 r (List.mem_of_mem_take hr), by omega, rfl⟩ sub_nil) hm)).T.to rfl) ?_
    · rw [List.length_map, h1, cut_to rfl, ← List.map_take]; rfl
    · exact xs_ret (xw_e (x_tup (xa_cons (xcl (ok_lmoved T) hr (xa_cons (xv 2) (xa_one (XE.to (da := dM (n, b)) (x_sl (xv 3) (xo_some x_int) xo_none) rfl))) ⟨s, (n, b), rfl, hsz, by rw [stepS_last h1]⟩ sub_nil) (xa_one x_int)) (by simp)) rfl)
  | @rule j x h1 h2 h3 =>
    have hjl := (List.getElem?_eq_some_iff.mp h1).1
    refine xs_if0 ((t_or (c := false) ((t_not (t_val (x_isi (c := true) T.isinstance (xv 3) (xty "tuple" T.tuple) rfl rfl))).to rfl) fun _ => t_or (c := false) ((t_eqI hu (x_lenT T.len (xv 3)) x_int).to rfl) fun _ => t_or1 ((t_not (t_val (x_isi (c := true) T.isinstance (x_ixT (d := .str "rule") (xv 3) x_int (atI_of (k := 0) rfl rfl)) (xty "str" T.str) rfl rfl))).to rfl)).T.to rfl) ?_
    refine xs_if0 (XT.to (t_not (t_val (x_all (bs := [true]) T.all (XN.E (xn_lc (rl := [.bl true]) (dl := [.int (j : Nat)]) (own := [("_law_value", 7)]) sc_lfp.nd (XI.ex (xi_tup (XE.to (x_sl (xv 3) (xo_some x_int) xo_none) rfl) rfl)) (blk ["_law_rings", "_law_effects", "_law_current", "_law_part", "_law_start", "_law_reached", "_law_length", "_law_value"] (top 57) (by decide +kernel)) rfl (by simp) rfl ?_))))) rfl) ?_
    · intro k d r hd hr2
      have h4 : ∃ i : Int, d = .int i ∧ r = .bl true := by
        match k, hd, hr2 with
        | 0, hd, hr2 => cases hd; cases hr2; exact ⟨_, rfl, rfl⟩
      obtain ⟨i, rfl, rfl⟩ := h4
      refine ⟨_, _, ?_, fun s H C cl fp => ⟨xgn 7 sc_lfp.nd, ?_⟩⟩
      · simp
      · exact xcl (ok_whole T) hr (xa_one (xv 7)) ⟨i, rfl, rfl⟩ sub_nil
    refine xs_if0 ((t_and (c := false) (c' := false) ((t_eq hu (x_ixT (d := .str "rule") (xv 3) x_int (atI_of (k := 0) rfl rfl)) x_str (shp_of (n := 1) (by decide) (by decide +kernel)) (shp_of (n := 1) (by decide) (by decide +kernel))).to (by rw [deq_strB]; decide +kernel)) fun z => nomatch z).T.to rfl) ?_
    refine xs_if0 ((t_or (c := false) ((t_ne hu (x_ixT (d := .str "rule") (xv 3) x_int (atI_of (k := 0) rfl rfl)) x_str (shp_of (n := 1) (by decide) (by decide +kernel)) (shp_of (n := 1) (by decide) (by decide +kernel))).to (by rw [deq_strB]; decide +kernel)) fun _ => t_or (c := false) ((t_neI hu (x_lenT T.len (xv 3)) x_int).to rfl) fun _ => t_or1 ((t_not (t_chainI op_le op_lt x_int (x_ixT (d := .int (j : Nat)) (xv 3) x_int (atI_of (k := 1) rfl rfl)) (x_lenL T.len (xv 1)))).to ?_)).T.to rfl) ?_
    · rw [decide_eq_true (by omega), decide_eq_true (by omega)]; rfl
    refine xs_tgt (xw_e (x_ixL (d := dChk p x) (xv 1) (x_ixT (d := .int (j : Nat)) (xv 3) x_int (atI_of (k := 1) rfl rfl)) (atI_of rfl h1)) ⟨_, _, xg_tup (xgs_cons (xgn 4 sc_lfp.nd) (xgs_cons (xgn 5 sc_lfp.nd) (xgs_cons (xgn 6 sc_lfp.nd) xgs_nil))) rfl, ?_⟩)
    refine xs_if0 ((t_neS hu (x_to (k := x.1.1.length) (xv 2) (x_lenT T.len (xv 4)) (by rw [List.length_map])) (xv 4)).to (by simp [h2])) ?_
    refine xs_ret (xw_e (x_tup (xa_cons (x_catS (xv 5) (x_from (k := x.1.1.length) (xv 2) (x_lenT T.len (xv 4)) (by rw [List.length_map])) ?_) (xa_one (xv 6))) (by simp)) rfl)
    rw [List.length_drop]; omega
def F_undoes (G : GG) (dl : List D) (d : D) : Prop := ∃ (a : Option Mv) (b : Mv), dl = [dOm a, dMv b] ∧ d = .bl (match a with | none => false | some m => decide (undo m = b))
theorem sc_undoes : FnScope ["_law_one", "_law_other"] ["_law_one", "_law_other"] (defScope (top 64)) := ⟨rfl, rfl, rfl, by decide +kernel, rfl, by decide +kernel, by decide +kernel⟩
theorem ok_undoes (T : Env K mg c) : Fn0 P w K mg base 1 "_law_undoes" ["_law_one", "_law_other"] (spP P w F_undoes) := T.undoes.mk0 fun f fd F => fn_P F sc_undoes (fun G dl d h => by obtain ⟨a, b, rfl, _⟩ := h; rfl) fun cdv A outer s0 H E0 hr G dl d hF => by
  obtain ⟨a, b, rfl, rfl⟩ := hF
  have hu := hr.units
  cases a with
  | none => exact xs_ret (xw_e (XE.to (x_and (c' := false) (x_notN (d := .non) (xv 0) (by intro v h; cases h)) fun z => nomatch z) rfl) rfl)
  | some m =>
    exact xs_ret (xw_e (XE.to (x_and (x_notN (d := dMv m) (xv 0) (by intro v h; cases h)) fun _ => x_one ((x_eq hu (x_tup (xa_cons (x_ixT (d := .int (m.1 : Nat)) (xv 0) x_int (atI_of (k := 0) rfl rfl)) (xa_cons (x_ixT (d := .int m.2.2) (xv 0) x_int (atI_of (k := 2) rfl rfl)) (xa_one (x_ixT (d := .int m.2.1) (xv 0) x_int (atI_of (k := 1) rfl rfl))))) (by simp)) (xv 1) (shp_dMv (x := undo m)) shp_dMv).to (da := .bl (decide (undo m = b))) (congrArg D.bl (deq_dMv (x := undo m) (y := b))))) rfl) rfl)
end
end RS
end TxtP23

section TxtP24
set_option Elab.async false
set_option linter.all false
set_option maxRecDepth 100000
set_option maxHeartbeats 1000000
namespace RS
open PySem PySem.Spec PyProof.Rows L2
section
variable {P : Program} {w : World} {K : PySem.W.Frag} {mg : Str → Option Value} {base : Heap} {c : Ads}
def F_lcheck (G : GG) (dl : List D) (rl : List D) : Prop := ∃ ru p S E W, G = [(ru, .lst (W.map dRec))] ∧ dl = [dP p, .val (.ref ru)] ∧ okZ p ∧ WInv p S E W ∧ rl = W.map (dChk p)
theorem sc_lcheck : FnScope ["_law_rings", "_law_rules", "_law_effects", "_law_k", "_law_current", "_law_length", "_law_j", "_law_result"] ["_law_rings", "_law_rules"] (defScope (top 59)) := ⟨rfl, rfl, rfl, by decide +kernel, rfl, by decide +kernel, by decide +kernel⟩
theorem ok_lcheck (T : Env K mg c) : Fn0 P w K mg base 3 "_law_check" ["_law_rings", "_law_rules"] (spN P w F_lcheck) := T.lcheck.mk0 fun f fd F => fn_N F sc_lcheck (fun G dl d h => by obtain ⟨ru, p, S, E, W, rfl, rfl, _⟩ := h; rfl) fun cdv A outer s0 H E0 hr G dl rl hF => by
  obtain ⟨ru, p, S, E, W, rfl, rfl, z, wi, rfl⟩ := hF
  have hu := hr.units
  have l7 := z.l7
  have wl := wi.len' z.tookP
  refine xs_asg 2 sc_lcheck.nd (xw_n (xn_lst xa_nil (by simp)) fun q hq => ?_)
  have mr : ∀ x : Cell, (ru, Cell.lst (W.map dRec)) ∈ [(q, x), (ru, .lst (W.map dRec))] := fun _ => List.mem_cons_of_mem _ List.mem_cons_self
  have gt : ∀ k, gTp [(q, .lst ((W.take k).map (dChk p))), (ru, .lst (W.map dRec))] = true := fun k => by simp [cellTp, -List.map_take, tpAll_map (fun _ => tp_dRec), tpAll_map (fun _ => tp_dChk) (W.take k)]
  refine xs_for (xi_range1 (n := (W.length : Int)) T.range (XE.to (x_lenL T.len (x_cell (xv 1) (mr _))) (by rw [List.length_map])) (by omega) (by omega)) (fun k ds' G' => ∃ b3 b4 b5 b6 b7, ds' = [some (dP p), some (.val (.ref ru)), some (.val (.ref q)), b3, b4, b5, b6, b7] ∧ ldTp [b3, b4, b5, b6, b7] = true ∧ G' = [(q, .lst ((W.take k).map (dChk p))), (ru, .lst (W.map dRec))]) ⟨⟨_, _, _, _, _, rfl, rfl, rfl⟩, ?_, ?_⟩
  · rintro k d ds' G' hd ⟨b3, b4, b5, b6, b7, rfl, hb, rfl⟩
    obtain ⟨k', hk, rfl⟩ := map_get hd
    have hkl := (List.getElem?_eq_some_iff.mp hk).1
    rw [List.length_range, Int.toNat_natCast] at hkl
    rw [List.getElem?_range (by simpa using hkl)] at hk
    cases hk
    obtain ⟨x, hx⟩ : ∃ x, W[k]? = some x := ⟨_, List.getElem?_eq_getElem hkl⟩
    have ro := wi.rc k x hx
    obtain ⟨n, ln, hnp, sk, ek, hne, po⟩ := ro.ex
    have p7 := ro.p7
    have p1 := ro.p1
    have hxd : (W.map dRec)[k]? = some (dRec x) := by rw [List.getElem?_map, hx]; rfl
    refine ⟨_, _, xgn 3 sc_lcheck.nd, ?_⟩
    refine xs_if0 (XT.to (t_not (t_val (xcl (d := .bl true) (ok_lis_rule T) hr (xa_cons (xv 0) (xa_one (x_ixL (x_cell (xv 1) (mr _)) (xv 3) (atI_of rfl hxd)))) ⟨p, x, n + 1, rfl, hnp, sk, p1, by omega, rfl⟩ sub_nil))) rfl) ?_
    refine xs_asg 4 sc_lcheck.nd (xw_e (x_ixT (d := dS x.1.1) (x_ixL (d := dRec x) (x_cell (xv 1) (mr _)) (xv 3) (atI_of rfl hxd)) x_int (atI_of (k := 0) rfl rfl)) ?_)
    refine xs_asg 5 sc_lcheck.nd (xw_e x_int ?_)
    refine xs_for (xi_range1 (n := (x.2.length : Int)) T.range (XE.to (x_lenT T.len (x_ixT (d := .tup (x.2.map dPart)) (x_ixL (d := dRec x) (x_cell (xv 1) (mr _)) (xv 3) (atI_of rfl hxd)) x_int (atI_of (k := 1) rfl rfl))) (by rw [List.length_map])) (by omega) (by omega))
      (fun j ds' G' => ∃ b6 b7 s ms1 ms2, ds' = [some (dP p), some (.val (.ref ru)), some (.val (.ref q)), some (.int (k : Nat)), some (dS s), some (.int (ms1.length : Nat)), b6, b7] ∧ ldTp [b6, b7] = true ∧ G' = [(q, .lst ((W.take k).map (dChk p))), (ru, .lst (W.map dRec))] ∧ PartsOk p (W.take k) n s (x.2.drop j) ms2 x.1.2 ∧ ms1 ++ ms2 = mvs p (n + 1) x.1.1 x.1.2 ∧ s.length = n + 1) ⟨⟨b6, b7, x.1.1, [], _, rfl, ?_, rfl, po, rfl, ln⟩, ?_, ?_⟩
    · simp [ldTp] at hb ⊢
      exact hb.2.2.2
    · rintro j d ds' G' hd ⟨b6, b7, s, ms1, ms2, rfl, hb67, rfl, pk, hms, hsl⟩
      obtain ⟨j', hj, rfl⟩ := map_get hd
      have hjl := (List.getElem?_eq_some_iff.mp hj).1
      rw [List.length_range, Int.toNat_natCast] at hjl
      rw [List.getElem?_range (by simpa using hjl)] at hj
      cases hj
      obtain ⟨part, hpart⟩ : ∃ part, x.2[j]? = some part := ⟨_, List.getElem?_eq_getElem hjl⟩
      have hdrop : x.2.drop j = part :: x.2.drop (j + 1) := by
        rw [List.drop_eq_getElem_cons hjl]
        congr 1
        exact (List.getElem?_eq_some_iff.mp hpart).2
      rw [hdrop] at pk
      have hpd : (x.2.map dPart)[j]? = some (dPart part) := by rw [List.getElem?_map, hpart]; rfl
      refine ⟨_, _, xgn 6 sc_lcheck.nd, ?_⟩
      -- the result, whatever the part
      have hres : ∃ t ch ms3, Lfp p ((W.take k).map (dChk p)) s part (.tup [dS t, .int ((ch : List Mv).length : Nat)]) ∧ ms2 = ch ++ ms3 ∧ PartsOk p (W.take k) n t (x.2.drop (j + 1)) ms3 x.1.2 ∧ t.length = n + 1 := by
        cases pk with
        | @move _ _ _ ms b lg hsl2 pk2 => exact ⟨_, [(n, lastI s, b)], ms, .move hsl2 hnp lg, rfl, pk2, by rw [List.length_append, List.length_dropLast, hsl]; rfl⟩
        | @rule _ _ _ qs ms j2 kk hW hk hsk pk2 =>
          obtain ⟨n2, l2, hn2, s2, e2, _, _⟩ := (wi.rc j2 (kk, qs) (by
            have := (List.getElem?_eq_some_iff.mp hW).1
            rw [List.length_take] at this
            rw [List.getElem?_take_of_lt (by omega)] at hW; exact hW)).ex
          have hlen2 : kk.2.length = kk.1.length := by
            rw [show kk.1.length = n2 + 1 from l2]
            exact e2.len hn2
          exact ⟨_, mvs p kk.1.length kk.1 kk.2, ms, .rule (x := (kk, qs)) (by rw [List.getElem?_map, hW]; rfl) hsk (by show kk.2.length + s.length ≤ 1000; omega), rfl, pk2, (by rw [List.length_append, List.length_drop, hlen2, hsl]; exact Nat.add_sub_cancel' (Nat.le_succ_of_le hk))⟩
      obtain ⟨t, ch, ms3, lf, rfl, pk3, htl⟩ := hres
      refine xs_asg 7 sc_lcheck.nd (xw_e (xcl (ok_lfp T) hr (xa_cons (xv 0) (xa_cons (x_cell (xv 2) List.mem_cons_self) (xa_cons (xv 4) (xa_one (x_ixT (d := dPart part) (x_ixT (d := .tup (x.2.map dPart)) (x_ixL (d := dRec x) (x_cell (xv 1) (mr _)) (xv 3) (atI_of rfl hxd)) x_int (atI_of (k := 1) rfl rfl)) (xv 6) (atI_of rfl hpd)))))) ⟨p, _, s, part, rfl, z.tookP.sml, by omega, lf⟩ sub_nil) ?_)
      refine xs_if0 (XT.to (t_isN (xv 7) (by intro v h; cases h)) rfl) ?_
      refine xs_asg 4 sc_lcheck.nd (xw_e (x_ixT (d := dS t) (xv 7) x_int (atI_of (k := 0) rfl rfl)) ?_)
      refine xs_asg 5 sc_lcheck.nd (xw_e (x_add (xv 5) (x_ixT (d := .int (ch.length : Nat)) (xv 7) x_int (atI_of (k := 1) rfl rfl))) ?_)
      refine xs_nil ⟨some (.int (j : Nat)), some (.tup [dS t, .int (ch.length : Nat)]), t, ms1 ++ ch, ms3, ?_, by simp [ldTp], rfl, pk3, by rw [List.append_assoc]; exact hms, htl⟩
      rw [List.length_append]
      push_cast
      rfl
    · rintro ds' G' ⟨b6, b7, s, ms1, ms2, rfl, hb67, rfl, pk, hms, hsl⟩
      rw [List.length_map, List.length_range, Int.toNat_natCast, List.drop_length] at pk
      cases pk
      rw [List.append_nil] at hms
      refine xs_expr (xw_append (p := q) (xv 2) List.mem_cons_self (xw_e (d := dChk p x) (XE.to (x_tup (xa_cons (x_ixT (d := dS x.1.1) (x_ixL (d := dRec x) (x_cell (xv 1) (mr _)) (xv 3) (atI_of rfl hxd)) x_int (atI_of (k := 0) rfl rfl)) (xa_cons (xv 4) (xa_one (xv 5)))) (by simp)) ?_) ⟨0, _, rfl, tp_dChk, ?_, gt k, ?_⟩) (.inr hq) ?_)
      · unfold dChk; rw [ln, hms]
      · rw [List.length_map, List.length_take]; omega
      · refine xs_nil ⟨some (.int (k : Nat)), some (dS x.1.2), some (.int (ms1.length : Nat)), b6, b7, rfl, ?_, ?_⟩
        · simp [ldTp] at hb67 ⊢
          exact hb67
        · show [(q, Cell.lst ((W.take k).map (dChk p) ++ [dChk p x])), (ru, Cell.lst (W.map dRec))] = _
          rw [take_snoc hx, List.map_append]; rfl
      · simp [ldTp] at hb67 ⊢
        exact hb67
  · rintro ds' G' ⟨b3, b4, b5, b6, b7, rfl, hb, rfl⟩
    rw [List.length_map, List.length_range, Int.toNat_natCast, List.take_length]
    exact xs_ret (xw_e (xv 2) ⟨q, rfl, hq, List.mem_cons_self⟩)
/-- what _law_is_reduced keeps of a rule -/
def dKn (p : Pz) (x : Rec) : D := .tup [dOm (mvs p x.1.1.length x.1.1 x.1.2).head?, dOm (mvs p x.1.1.length x.1.1 x.1.2).getLast?, dS x.1.2, .bl true]
@[simp] theorem tp_dKn {p : Pz} {x : Rec} : tp (dKn p x) = true := by simp [dKn]
def F_lisr (G : GG) (dl : List D) (d : D) : Prop := ∃ ru p S E W, G = [(ru, .lst (W.map dRec))] ∧ dl = [.val (.ref ru)] ∧ okZ p ∧ WInv p S E W ∧ W ≠ [] ∧ d = .bl true
theorem sc_lisr : FnScope ["_law_rules", "_law_known", "_law_start", "_law_parts", "_law_current", "_law_first", "_law_last", "_law_reduced", "_law_part", "_law_turn", "_law_inner"] ["_law_rules"] (defScope (top 65)) := ⟨rfl, rfl, rfl, by decide +kernel, rfl, by decide +kernel, by decide +kernel⟩
theorem ok_lisr (T : Env K mg c) : Fn0 P w K mg base 2 "_law_is_reduced" ["_law_rules"] (spP P w F_lisr) := T.lis_reduced.mk0 fun f fd F => fn_P F sc_lisr (fun G dl d h => by obtain ⟨ru, p, S, E, W, rfl, rfl, _⟩ := h; rfl) fun cdv A outer s0 H E0 hr G dl d hF => by
  obtain ⟨ru, p, S, E, W, rfl, rfl, z, wi, wne, rfl⟩ := hF
  have hu := hr.units
  have l7 := z.l7
  have wl := wi.len' z.tookP
  refine xs_asg 1 sc_lisr.nd (xw_n (xn_lst xa_nil (by simp)) fun q hq => ?_)
  have mr : ∀ x : Cell, (ru, Cell.lst (W.map dRec)) ∈ [(q, x), (ru, .lst (W.map dRec))] := fun _ => List.mem_cons_of_mem _ List.mem_cons_self
  have gt : ∀ k, gTp [(q, .lst ((W.take k).map (dKn p))), (ru, .lst (W.map dRec))] = true := fun k => by simp [cellTp, -List.map_take, tpAll_map (fun _ => tp_dRec), tpAll_map (fun _ => tp_dKn) (W.take k)]
  refine xs_forC (dl := W.map dRec) (q := ru) (xi_cell (xv 0) (mr _)) (fun k ds' G' => ∃ b2 b3 b4 b5 b6 b7 b8 b9 b10, ds' = [some (.val (.ref ru)), some (.val (.ref q)), b2, b3, b4, b5, b6, b7, b8, b9, b10] ∧ ldTp [b8, b9, b10] = true ∧ G' = [(q, .lst ((W.take k).map (dKn p))), (ru, .lst (W.map dRec))]) ?_ ⟨⟨_, _, _, _, _, _, none, none, none, rfl, rfl, rfl⟩, ?_, ?_⟩
  · rintro i ds' G' ⟨b2, b3, b4, b5, b6, b7, b8, b9, b10, rfl, _, rfl⟩
    exact mr _
  · rintro k d ds' G' hd ⟨b2, b3, b4, b5, b6, b7, b8, b9, b10, rfl, hb, rfl⟩
    obtain ⟨x, hx, rfl⟩ := map_get hd
    have ro := wi.rc k x hx
    obtain ⟨n, ln, hnp, sk, ek, hne, po⟩ := ro.ex
    have p7 := ro.p7
    have mo := mvs_ok z (n + 1) x.1.1 x.1.2 hnp sk ek
    refine ⟨_, _, xg_tup (xgs_cons (xgn 2 sc_lisr.nd) (xgs_cons (xgn 3 sc_lisr.nd) xgs_nil)) rfl, ?_⟩
    refine xs_asg 4 sc_lisr.nd (xw_e (xv 2) ?_)
    refine xs_asg 5 sc_lisr.nd (xw_e x_non ?_)
    refine xs_asg 6 sc_lisr.nd (xw_e x_non ?_)
    refine xs_asg 7 sc_lisr.nd (xw_e x_bl ?_)
    refine xs_for (dl := x.2.map dPart) (xi_tup (xv 3) parts_tp) (fun j ds' G' => ∃ b8 b9 b10 s ms1 ms2, ds' = [some (.val (.ref ru)), some (.val (.ref q)), some (dS x.1.1), some (.tup (x.2.map dPart)), some (dS s), some (dOm ms1.head?), some (dOm ms1.getLast?), some (.bl true), b8, b9, b10] ∧ ldTp [b8, b9, b10] = true ∧
      G' = [(q, .lst ((W.take k).map (dKn p))), (ru, .lst (W.map dRec))] ∧ PartsOk p (W.take k) n s (x.2.drop j) ms2 x.1.2 ∧ ms1 ++ ms2 = mvs p (n + 1) x.1.1 x.1.2 ∧ s.length = n + 1) ⟨⟨b8, b9, b10, x.1.1, [], _, rfl, hb, rfl, po, rfl, ln⟩, ?_, ?_⟩
    · rintro j d ds' G' hd ⟨b8, b9, b10, s, ms1, ms2, rfl, hb8, rfl, pk, hms, hsl⟩
      obtain ⟨part, hpart, rfl⟩ := map_get hd
      have hjl := (List.getElem?_eq_some_iff.mp hpart).1
      have hdrop : x.2.drop j = part :: x.2.drop (j + 1) := by
        rw [List.drop_eq_getElem_cons hjl]
        congr 1
        exact (List.getElem?_eq_some_iff.mp hpart).2
      rw [hdrop] at pk
      have hnu : noUndo (ms1 ++ ms2) := by rw [hms]; exact mo.nu
      refine ⟨_, _, xgn 8 sc_lisr.nd, ?_⟩
      refine xs_ifM (fun ds' G' => ∃ b9 u fm lm ch ms3, ds' = [some (.val (.ref ru)), some (.val (.ref q)), some (dS x.1.1), some (.tup (x.2.map dPart)), some (dS s), some (dOm ms1.head?), some (dOm ms1.getLast?), some (.bl true), some (dPart part), b9, some (.tup [dMv fm, dMv lm, dS u, .bl true])] ∧ ldTp [b9] = true ∧
        G' = [(q, .lst ((W.take k).map (dKn p))), (ru, .lst (W.map dRec))] ∧ ch.head? = some fm ∧ ch.getLast? = some lm ∧ ms2 = ch ++ ms3 ∧ PartsOk p (W.take k) n (u ++ s.drop u.length) (x.2.drop (j + 1)) ms3 x.1.2 ∧ u.length ≤ n + 1) ?_ ?_
      · cases pk with
        | @move _ _ _ ms b lg hsl2 pk2 =>
          refine xv_t (c := true) (XT.to (t_eq hu (x_ixT (d := .str "move") (xv 8) x_int (atI_of (k := 0) rfl rfl)) x_str (shp_of (n := 1) (by decide) (by decide +kernel)) (shp_of (n := 1) (by decide) (by decide +kernel))) (by rw [deq_strB]; decide +kernel)) ⟨fun _ => ?_, fun h => nomatch h⟩
          have hg : s.getD n 0 = lastI s := by
            unfold lastI
            rw [List.getLastD_eq_getLast?, List.getLast?_eq_getElem?, hsl, Nat.add_sub_cancel, List.getD_eq_getElem?_getD]
          refine xs_asg 9 sc_lisr.nd (xw_e (d := dMv (n, lastI s, b)) (x_tup (xa_cons (x_ixT (d := .int (n : Nat)) (xv 8) x_int (atI_of (k := 1) rfl rfl)) (xa_cons (x_ixT (d := .int (lastI s)) (xv 4) (x_ixT (d := .int (n : Nat)) (xv 8) x_int (atI_of (k := 1) rfl rfl)) (atI_of rfl (by rw [← hg]; exact getD_int (by omega)))) (xa_one (x_ixT (d := .int b) (xv 8) x_int (atI_of (k := 2) rfl rfl))))) (by simp)) ?_)
          refine xs_asg 10 sc_lisr.nd (xw_e (d := .tup [dMv (n, lastI s, b), dMv (n, lastI s, b), dS (s.dropLast ++ [b]), .bl true]) (x_tup (xa_cons (xv 9) (xa_cons (xv 9) (xa_cons (xcl (ok_lmoved T) hr (xa_cons (xv 4) (xa_one (XE.to (da := dM (n, b)) (x_sl (xv 8) (xo_some x_int) xo_none) rfl))) ⟨s, (n, b), rfl, by omega, by rw [stepS_last hsl]⟩ sub_nil) (xa_one x_bl)))) (by simp)) ?_)
          refine xs_nil ⟨some (dMv (n, lastI s, b)), s.dropLast ++ [b], (n, lastI s, b), (n, lastI s, b), [(n, lastI s, b)], ms, rfl, by simp [ldTp], rfl, rfl, rfl, rfl, ?_, ?_⟩
          · rw [List.drop_eq_nil_of_le (by rw [List.length_append, List.length_dropLast, hsl]; simp), List.append_nil]
            exact pk2
          · rw [List.length_append, List.length_dropLast, hsl]; simp
        | @rule _ _ _ qs ms j2 kk hW hk hsk pk2 =>
          obtain ⟨n2, l2, hn2, s2, e2, hne2, _⟩ := (wi.rc j2 (kk, qs) (by
            have := (List.getElem?_eq_some_iff.mp hW).1
            rw [List.length_take] at this
            rw [List.getElem?_take_of_lt (by omega)] at hW; exact hW)).ex
          have hlen2 : kk.2.length = kk.1.length := by
            rw [show kk.1.length = n2 + 1 from l2]
            exact e2.len hn2
          have hne3 : mvs p kk.1.length kk.1 kk.2 ≠ [] := by
            rw [show kk.1.length = n2 + 1 from l2]
            exact mvs_ne z hn2 s2 e2 hne2
          obtain ⟨fmv, hfm⟩ : ∃ fmv, (mvs p kk.1.length kk.1 kk.2).head? = some fmv := by
            cases h : mvs p kk.1.length kk.1 kk.2 with
            | nil => exact absurd h hne3
            | cons a l => exact ⟨a, rfl⟩
          obtain ⟨lmv, hlm⟩ : ∃ lmv, (mvs p kk.1.length kk.1 kk.2).getLast? = some lmv := ⟨_, List.getLast?_eq_some_getLast hne3⟩
          refine xv_t (c := false) (XT.to (t_eq hu (x_ixT (d := .str "rule") (xv 8) x_int (atI_of (k := 0) rfl rfl)) x_str (shp_of (n := 1) (by decide) (by decide +kernel)) (shp_of (n := 1) (by decide) (by decide +kernel))) (by rw [deq_strB]; decide +kernel)) ⟨(fun h => nomatch h), fun _ => ?_⟩
          have hkn : ((W.take k).map (dKn p))[j2]? = some (.tup [dMv fmv, dMv lmv, dS kk.2, .bl true]) := by
            rw [List.getElem?_map, hW]
            show some (dKn p (kk, qs)) = _
            unfold dKn
            show some (D.tup [dOm (mvs p kk.1.length kk.1 kk.2).head?, dOm (mvs p kk.1.length kk.1 kk.2).getLast?, dS kk.2, .bl true]) = _
            rw [hfm, hlm]; rfl
          refine xs_asg 10 sc_lisr.nd (xw_e (x_ixL (x_cell (xv 1) List.mem_cons_self) (x_ixT (d := .int (j2 : Nat)) (xv 8) x_int (atI_of (k := 1) rfl rfl)) (atI_of rfl hkn)) ?_)
          refine xs_nil ⟨b9, kk.2, fmv, lmv, _, ms, rfl, ?_, rfl, hfm, hlm, rfl, (by rw [hlen2]; exact pk2), (by rw [hlen2]; exact Nat.le_succ_of_le hk)⟩
          simp [ldTp] at hb8 ⊢
          exact hb8.2.1
      · rintro ds' G' ⟨b9, u, fm, lm, ch, ms3, rfl, hb9, rfl, hfm, hlm, rfl, pk3, hul⟩
        refine xs_asg 7 sc_lisr.nd (xw_e (d := .bl true) (XE.to (x_and (c' := true) (xv 7) fun _ => XE.to (x_and (c' := true) (x_ixT (d := .bl true) (xv 10) x_int (atI_of (k := 3) rfl rfl)) fun _ => XE.to (x_one (x_not (xcl (d := .bl false) (ok_undoes T) hr (xa_cons (xv 6) (xa_one (x_ixT (d := dMv fm) (xv 10) x_int (atI_of (k := 0) rfl rfl)))) ⟨ms1.getLast?, fm, rfl, ?_⟩ sub_nil))) rfl) rfl) rfl) ?_)
        · cases hm : ms1.getLast? with
          | none => rfl
          | some m =>
            have hnu2 : noUndo (ms1 ++ ch) := noUndo_left (B := ms3) (by rw [List.append_assoc]; exact hnu)
            have := noUndo_join hnu2 hm hfm
            show D.bl false = D.bl (decide (undo m = fm))
            rw [decide_eq_false fun z => this z.symm]
        refine xs_ifM (fun ds' G' => ds' = [some (.val (.ref ru)), some (.val (.ref q)), some (dS x.1.1), some (.tup (x.2.map dPart)), some (dS s), some (dOm (ms1 ++ ch).head?), some (dOm ms1.getLast?), some (.bl true), some (dPart part), b9, some (.tup [dMv fm, dMv lm, dS u, .bl true])] ∧ G' = [(q, .lst ((W.take k).map (dKn p))), (ru, .lst (W.map dRec))]) (xv_t (t_isN (xv 5) dOm_nv) ⟨?_, ?_⟩) ?_
        · intro h
          refine xs_asg 5 sc_lisr.nd (xw_e (x_ixT (d := dMv fm) (xv 10) x_int (atI_of (k := 0) rfl rfl)) (xs_nil ⟨?_, rfl⟩))
          have : (ms1 ++ ch).head? = some fm := by
            cases ms1 with
            | nil => exact hfm
            | cons a l => cases h
          rw [this]; rfl
        · intro h
          refine xs_nil ⟨?_, rfl⟩
          have : (ms1 ++ ch).head? = ms1.head? := by
            cases ms1 with
            | nil => cases h
            | cons a l => rfl
          rw [this]; rfl
        · rintro ds' G' ⟨rfl, rfl⟩
          refine xs_asg 6 sc_lisr.nd (xw_e (x_ixT (d := dMv lm) (xv 10) x_int (atI_of (k := 1) rfl rfl)) ?_)
          refine xs_asg 4 sc_lisr.nd (xw_e (x_catS (s := u) (x_ixT (d := dS u) (xv 10) x_int (atI_of (k := 2) rfl rfl)) (x_from (k := u.length) (xv 4) (x_lenT T.len (x_ixT (d := dS u) (xv 10) x_int (atI_of (k := 2) rfl rfl))) (by rw [List.length_map])) (by rw [List.length_drop]; omega)) ?_)
          refine xs_nil ⟨some (dPart part), b9, some (.tup [dMv fm, dMv lm, dS u, .bl true]), u ++ s.drop u.length, ms1 ++ ch, ms3, ?_, ?_, rfl, pk3, by rw [List.append_assoc]; exact hms, by rw [List.length_append, List.length_drop]; omega⟩
          · rw [← last_app hlm]; rfl
          · simp [ldTp] at hb9 ⊢
            exact hb9
    · rintro ds' G' ⟨b8, b9, b10, s, ms1, ms2, rfl, hb8, rfl, pk, hms, hsl⟩
      rw [List.length_map, List.drop_length] at pk
      cases pk
      rw [List.append_nil] at hms
      refine xs_expr (xw_append (p := q) (xv 1) List.mem_cons_self (xw_e (d := dKn p x) (XE.to (x_tup (xa_cons (xv 5) (xa_cons (xv 6) (xa_cons (xv 4) (xa_one (xv 7))))) (by simp)) ?_) ⟨0, _, rfl, tp_dKn, ?_, gt k, ?_⟩) (.inr hq) ?_)
      · unfold dKn; rw [ln, hms]
      · rw [List.length_map, List.length_take]; omega
      · refine xs_nil ⟨some (dS x.1.1), some (.tup (x.2.map dPart)), some (dS x.1.2), some (dOm ms1.head?), some (dOm ms1.getLast?), some (.bl true), b8, b9, b10, rfl, hb8, ?_⟩
        show [(q, Cell.lst ((W.take k).map (dKn p) ++ [dKn p x])), (ru, Cell.lst (W.map dRec))] = _
        rw [take_snoc hx, List.map_append]; rfl
      · simp [ldTp, parts_tp] at hb8 ⊢
        exact hb8
  · rintro ds' G' ⟨b2, b3, b4, b5, b6, b7, b8, b9, b10, rfl, hb, rfl⟩
    rw [List.length_map, List.take_length]
    obtain ⟨x, hx⟩ : ∃ x, W.getLast? = some x := ⟨_, List.getLast?_eq_some_getLast wne⟩
    exact xs_ret (xw_e (x_ixT (d := .bl true) (x_ixL (d := dKn p x) (x_cell (xv 1) List.mem_cons_self) (x_neg x_int) (atI_last (by rw [List.getLast?_map, hx]; rfl))) x_int (atI_of (k := 3) rfl rfl)) rfl)
end
end RS
end TxtP24

section TxtP25
set_option Elab.async false
set_option linter.all false
set_option maxRecDepth 100000
set_option maxHeartbeats 1000000
namespace RS
open PySem PySem.Spec PyProof.Rows L2
section
variable {X : Cx} {ds : LD} {G : GG} {a b : Expr} {pos p2 : Pos} {d : D}
/-- isinstance(x, (S, T)) -/
theorem x_isiT {t S T : String} {b1 b2 : Bool} (hm : X.mg "isinstance" = none) (ha : XE X G ds a d) (hb : XE X G ds b (.tup [.val (.ty S), .val (.ty T)])) (ht : tyN d = some t) (h1 : kitB t S = some b1) (h2 : kitB t T = some b2) (hg : Gl X "isinstance" := by rfl)
    (he : starEach [a, b] X.env = (false, eval a X.env) :: starEach [b] X.env := by rfl) (hs2 : starEach [b] X.env = (false, eval b X.env) :: starEach [] X.env := by rfl) (hpl : (backTo pos (starEach [b] X.env)).any (·.1) = false := by rfl) :
    XE X G ds (.Call (.Name "isinstance" p2) [a, b] [] pos) (.bl (b1 || b2)) := x_callB call_isiT hg hm boot_isi (xa_cons ha (xa_cons hb xa_nil hs2) he) (fun vs H Q _ r k => by
  obtain ⟨v, u, rfl, q, q2⟩ := rpAll2 r
  rw [Rp] at q2
  obtain ⟨tp, xs, rfl, hT, rr⟩ := q2
  obtain ⟨v1, v2, rfl, r1, r2⟩ := rpAll2 rr
  rw [rp_v r1, rp_v r2] at hT
  refine ⟨v, tp, _, .type t, [.type S, .type T], (b1 || b2), rfl, hT, .cons (.ty S) (.cons (.ty T) .nil), tyN_is q ht, ?_, k _ H (Same.refl H) rp_bl⟩
  have k1 := kit_ty (K := X.K) h1
  have k2 := kit_ty (K := X.K) h2
  cases b1 <;> cases b2 <;> simp [PySem.W.kitAny, k1, k2]) (by decide) (by decide) he hpl
end
/-- data that _law_equal tells equal to itself -/
def eqd : Nat → D → Bool
  | _, .non => true
  | _, .bl _ => true
  | _, .int _ => true
  | _, .str x => PyData.strOk x
  | n + 1, .tup ds => decide (ds.length ≤ 1000) && ds.all (eqd n)
  | n + 1, .lst ds => decide (ds.length ≤ 1000) && ds.all (eqd n)
  | _, _ => false
theorem zipD_self {dl : List D} {k : Nat} {d : D} (h : (zipD dl dl)[k]? = some d) : ∃ e, dl[k]? = some e ∧ d = .tup [e, e] := by
  unfold zipD at h
  rw [List.getElem?_zipWith] at h
  cases he : dl[k]? with
  | none => rw [he] at h; cases h
  | some e => rw [he] at h; cases h; exact ⟨e, rfl, rfl⟩
theorem all_trues (n : Nat) : (List.replicate n true).all id = true := by simp
section
variable {P : Program} {w : World} {K : PySem.W.Frag} {mg : Str → Option Value} {base : Heap} {c : Ads}
def F_equal (n : Nat) (G : GG) (dl : List D) (d : D) : Prop := ∃ v, dl = [v, v] ∧ eqd n v = true ∧ d = .bl true
theorem sc_equal : FnScope ["_law_result", "_law_expected", "_law_like", "_law_one", "_law_other"] ["_law_result", "_law_expected"] (defScope (top 60)) := ⟨rfl, rfl, rfl, by decide +kernel, rfl, by decide +kernel, by decide +kernel⟩
theorem ok_equal (T : Env K mg c) (n : Nat) : Fn0 P w K mg base (n + 1) "_law_equal" ["_law_result", "_law_expected"] (spP P w (F_equal n)) := by
  induction n with
  | zero =>
    exact T.equal.mk0 fun f fd F => fn_P F sc_equal (fun G dl d h => by obtain ⟨v, rfl, _⟩ := h; rfl) fun cdv A outer s0 H E0 hr G dl d hF => by
      obtain ⟨v, rfl, hv, rfl⟩ := hF
      have hu := hr.units
      cases v with
      | non =>
        refine xs_if0 (t_val (x_isiT (t := "NoneType") (b1 := false) (b2 := false) T.isinstance (xv 1) (x_tup (xa_cons (xty "list" T.list) (xa_one (xty "tuple" T.tuple))) (by simp)) rfl rfl rfl)) ?_
        refine xs_if1 (XTw.T (t_or (c := true) (c' := true) (t_isN (d := .non) (xv 1) (by intro v h; cases h)) fun z => nomatch z)) ?_
        exact xs_ret (xw_e (XE.to (x_and (x_isN (d := .non) (xv 1) (by intro v h; cases h)) fun _ => x_one (x_isN (d := .non) (xv 0) (by intro v h; cases h))) rfl) rfl)
      | bl x =>
        refine xs_if0 (t_val (x_isiT (t := "bool") (b1 := false) (b2 := false) T.isinstance (xv 1) (x_tup (xa_cons (xty "list" T.list) (xa_one (xty "tuple" T.tuple))) (by simp)) rfl rfl rfl)) ?_
        refine xs_if0 (XTw.T (t_or (c := false) (t_isN (d := .bl x) (xv 1) (by intro v h; cases h)) fun _ => t_or1 (t_isN (d := .bl x) (xv 0) (by intro v h; cases h)))) ?_
        refine xs_if1 (XTw.T (t_or (c := true) (c' := true) (t_val (x_isi (c := true) T.isinstance (xv 1) (xty "bool" T.bool) rfl rfl)) fun z => nomatch z)) ?_
        refine xs_ret (xw_e (XE.to (x_and (c' := true) (x_isi (c := true) T.isinstance (xv 1) (xty "bool" T.bool) rfl rfl) fun _ => XE.to (x_and (c' := true) (x_isi (c := true) T.isinstance (xv 0) (xty "bool" T.bool) rfl rfl) fun _ => XE.to (x_one (x_eq hu (xv 0) (xv 1) rfl rfl)) ?_) rfl) rfl) rfl)
        cases x <;> rfl
      | int x =>
        refine xs_if0 (t_val (x_isiT (t := "int") (b1 := false) (b2 := false) T.isinstance (xv 1) (x_tup (xa_cons (xty "list" T.list) (xa_one (xty "tuple" T.tuple))) (by simp)) rfl rfl rfl)) ?_
        refine xs_if0 (XTw.T (t_or (c := false) (t_isN (d := .int x) (xv 1) (by intro v h; cases h)) fun _ => t_or1 (t_isN (d := .int x) (xv 0) (by intro v h; cases h)))) ?_
        refine xs_if0 (XTw.T (t_or (c := false) (t_val (x_isi (c := false) T.isinstance (xv 1) (xty "bool" T.bool) rfl rfl)) fun _ => t_or1 (t_val (x_isi (c := false) T.isinstance (xv 0) (xty "bool" T.bool) rfl rfl)))) ?_
        refine xs_if1 (t_val (x_isi (c := true) T.isinstance (xv 1) (xty "int" T.int) rfl rfl)) ?_
        refine xs_ret (xw_e (XE.to (x_and (c' := true) (x_isi (c := true) T.isinstance (xv 0) (xty "int" T.int) rfl rfl) fun _ => XE.to (x_one (x_eqI hu (xv 0) (xv 1))) (by simp)) rfl) rfl)
      | str x =>
        refine xs_if0 (t_val (x_isiT (t := "str") (b1 := false) (b2 := false) T.isinstance (xv 1) (x_tup (xa_cons (xty "list" T.list) (xa_one (xty "tuple" T.tuple))) (by simp)) rfl rfl rfl)) ?_
        refine xs_if0 (XTw.T (t_or (c := false) (t_isN (d := .str x) (xv 1) (by intro v h; cases h)) fun _ => t_or1 (t_isN (d := .str x) (xv 0) (by intro v h; cases h)))) ?_
        refine xs_if0 (XTw.T (t_or (c := false) (t_val (x_isi (c := false) T.isinstance (xv 1) (xty "bool" T.bool) rfl rfl)) fun _ => t_or1 (t_val (x_isi (c := false) T.isinstance (xv 0) (xty "bool" T.bool) rfl rfl)))) ?_
        refine xs_if0 (t_val (x_isi (c := false) T.isinstance (xv 1) (xty "int" T.int) rfl rfl)) ?_
        have hx : shp (.str x) = true := shp_of (n := 0) (by decide) hv
        refine xs_ret (xw_e (XE.to (x_and (c' := true) (x_isi (c := true) T.isinstance (xv 0) (xty "str" T.str) rfl rfl) fun _ => XE.to (x_one (x_eq hu (xv 0) (xv 1) hx hx)) (by rw [deq_strB, beq_self_eq_true])) rfl) rfl)
      | tup es => cases hv
      | lst es => cases hv
      | val v => cases hv
  | succ n ih =>
    exact T.equal.mk0 fun f fd F => fn_P F sc_equal (fun G dl d h => by obtain ⟨v, rfl, _⟩ := h; rfl) fun cdv A outer s0 H E0 hr G dl d hF => by
      obtain ⟨v, rfl, hv, rfl⟩ := hF
      have hu := hr.units
      cases v with
      | non =>
        refine xs_if0 (t_val (x_isiT (t := "NoneType") (b1 := false) (b2 := false) T.isinstance (xv 1) (x_tup (xa_cons (xty "list" T.list) (xa_one (xty "tuple" T.tuple))) (by simp)) rfl rfl rfl)) ?_
        refine xs_if1 (XTw.T (t_or (c := true) (c' := true) (t_isN (d := .non) (xv 1) (by intro v h; cases h)) fun z => nomatch z)) ?_
        exact xs_ret (xw_e (XE.to (x_and (x_isN (d := .non) (xv 1) (by intro v h; cases h)) fun _ => x_one (x_isN (d := .non) (xv 0) (by intro v h; cases h))) rfl) rfl)
      | bl x =>
        refine xs_if0 (t_val (x_isiT (t := "bool") (b1 := false) (b2 := false) T.isinstance (xv 1) (x_tup (xa_cons (xty "list" T.list) (xa_one (xty "tuple" T.tuple))) (by simp)) rfl rfl rfl)) ?_
        refine xs_if0 (XTw.T (t_or (c := false) (t_isN (d := .bl x) (xv 1) (by intro v h; cases h)) fun _ => t_or1 (t_isN (d := .bl x) (xv 0) (by intro v h; cases h)))) ?_
        refine xs_if1 (XTw.T (t_or (c := true) (c' := true) (t_val (x_isi (c := true) T.isinstance (xv 1) (xty "bool" T.bool) rfl rfl)) fun z => nomatch z)) ?_
        refine xs_ret (xw_e (XE.to (x_and (c' := true) (x_isi (c := true) T.isinstance (xv 1) (xty "bool" T.bool) rfl rfl) fun _ => XE.to (x_and (c' := true) (x_isi (c := true) T.isinstance (xv 0) (xty "bool" T.bool) rfl rfl) fun _ => XE.to (x_one (x_eq hu (xv 0) (xv 1) rfl rfl)) ?_) rfl) rfl) rfl)
        cases x <;> rfl
      | int x =>
        refine xs_if0 (t_val (x_isiT (t := "int") (b1 := false) (b2 := false) T.isinstance (xv 1) (x_tup (xa_cons (xty "list" T.list) (xa_one (xty "tuple" T.tuple))) (by simp)) rfl rfl rfl)) ?_
        refine xs_if0 (XTw.T (t_or (c := false) (t_isN (d := .int x) (xv 1) (by intro v h; cases h)) fun _ => t_or1 (t_isN (d := .int x) (xv 0) (by intro v h; cases h)))) ?_
        refine xs_if0 (XTw.T (t_or (c := false) (t_val (x_isi (c := false) T.isinstance (xv 1) (xty "bool" T.bool) rfl rfl)) fun _ => t_or1 (t_val (x_isi (c := false) T.isinstance (xv 0) (xty "bool" T.bool) rfl rfl)))) ?_
        refine xs_if1 (t_val (x_isi (c := true) T.isinstance (xv 1) (xty "int" T.int) rfl rfl)) ?_
        refine xs_ret (xw_e (XE.to (x_and (c' := true) (x_isi (c := true) T.isinstance (xv 0) (xty "int" T.int) rfl rfl) fun _ => XE.to (x_one (x_eqI hu (xv 0) (xv 1))) (by simp)) rfl) rfl)
      | str x =>
        refine xs_if0 (t_val (x_isiT (t := "str") (b1 := false) (b2 := false) T.isinstance (xv 1) (x_tup (xa_cons (xty "list" T.list) (xa_one (xty "tuple" T.tuple))) (by simp)) rfl rfl rfl)) ?_
        refine xs_if0 (XTw.T (t_or (c := false) (t_isN (d := .str x) (xv 1) (by intro v h; cases h)) fun _ => t_or1 (t_isN (d := .str x) (xv 0) (by intro v h; cases h)))) ?_
        refine xs_if0 (XTw.T (t_or (c := false) (t_val (x_isi (c := false) T.isinstance (xv 1) (xty "bool" T.bool) rfl rfl)) fun _ => t_or1 (t_val (x_isi (c := false) T.isinstance (xv 0) (xty "bool" T.bool) rfl rfl)))) ?_
        refine xs_if0 (t_val (x_isi (c := false) T.isinstance (xv 1) (xty "int" T.int) rfl rfl)) ?_
        have hx : shp (.str x) = true := shp_of (n := 0) (by decide) hv
        refine xs_ret (xw_e (XE.to (x_and (c' := true) (x_isi (c := true) T.isinstance (xv 0) (xty "str" T.str) rfl rfl) fun _ => XE.to (x_one (x_eq hu (xv 0) (xv 1) hx hx)) (by rw [deq_strB, beq_self_eq_true])) rfl) rfl)
      | tup es =>
        rw [eqd, Bool.and_eq_true] at hv
        have hz := of_decide_eq_true hv.1
        refine xs_if1 (t_val (x_isiT (t := "tuple") (b1 := false) (b2 := true) T.isinstance (xv 1) (x_tup (xa_cons (xty "list" T.list) (xa_one (xty "tuple" T.tuple))) (by simp)) rfl rfl rfl)) ?_
        refine xs_asg 2 sc_equal.nd (xw_e (d := .bl true) (x_if (t_val (x_isi (c := false) T.isinstance (xv 1) (xty "list" T.list) rfl rfl)) (fun z => nomatch z) fun _ => x_isi (c := true) T.isinstance (xv 0) (xty "tuple" T.tuple) rfl rfl) ?_)
        refine xs_if0 (XT.to (XTw.T (t_or (c := false) (XT.to (t_not (t_val (xv (d := .bl true) 2))) rfl) fun _ => t_or1 (t_neI hu (x_lenT T.len (xv 0)) (x_lenT T.len (xv 1))))) (by simp)) ?_
        refine xs_ret (xw_e (XE.to (x_all (bs := List.replicate es.length true) T.all (XN.E (xn_lc (own := [("_law_one", 3), ("_law_other", 4)]) sc_equal.nd (xi_zipTT T.zip (xv 0) (xv 1) rfl) (blk ["_law_result", "_law_expected", "_law_like", "_law_one", "_law_other"] (top 60) (by decide +kernel)) (by rw [List.length_map, List.length_replicate, zipD_len rfl]) (by rw [List.length_map, List.length_replicate]; omega) tpAll_bls ?_))) (by rw [all_trues])) rfl)
        intro k d r hd hr2
        obtain ⟨e, he, rfl⟩ := zipD_self hd
        obtain ⟨b, hb, rfl⟩ := map_get hr2
        have hb2 := List.mem_of_getElem? hb
        rw [List.mem_replicate] at hb2
        rw [hb2.2]
        refine ⟨_, _, ?_, fun s H C cl fp => ⟨xg_tup (xgs_cons (xgn 3 sc_equal.nd) (xgs_cons (xgn 4 sc_equal.nd) xgs_nil)) rfl, ?_⟩⟩
        · simp
        · exact xcl ih hr (xa_cons (xv 3) (xa_one (xv 4))) ⟨e, rfl, List.all_eq_true.mp hv.2 e (List.mem_of_getElem? he), rfl⟩ sub_nil
      | lst es =>
        rw [eqd, Bool.and_eq_true] at hv
        have hz := of_decide_eq_true hv.1
        refine xs_if1 (t_val (x_isiT (t := "list") (b1 := true) (b2 := false) T.isinstance (xv 1) (x_tup (xa_cons (xty "list" T.list) (xa_one (xty "tuple" T.tuple))) (by simp)) rfl rfl rfl)) ?_
        refine xs_asg 2 sc_equal.nd (xw_e (d := .bl true) (x_if (t_val (x_isi (c := true) T.isinstance (xv 1) (xty "list" T.list) rfl rfl)) (fun _ => x_isi (c := true) T.isinstance (xv 0) (xty "list" T.list) rfl rfl) fun z => nomatch z) ?_)
        refine xs_if0 (XT.to (XTw.T (t_or (c := false) (XT.to (t_not (t_val (xv (d := .bl true) 2))) rfl) fun _ => t_or1 (t_neI hu (x_lenL T.len (xv 0)) (x_lenL T.len (xv 1))))) (by simp)) ?_
        refine xs_ret (xw_e (XE.to (x_all (bs := List.replicate es.length true) T.all (XN.E (xn_lc (own := [("_law_one", 3), ("_law_other", 4)]) sc_equal.nd (xi_zipLL T.zip (xv 0) (xv 1) rfl) (blk ["_law_result", "_law_expected", "_law_like", "_law_one", "_law_other"] (top 60) (by decide +kernel)) (by rw [List.length_map, List.length_replicate, zipD_len rfl]) (by rw [List.length_map, List.length_replicate]; omega) tpAll_bls ?_))) (by rw [all_trues])) rfl)
        intro k d r hd hr2
        obtain ⟨e, he, rfl⟩ := zipD_self hd
        obtain ⟨b, hb, rfl⟩ := map_get hr2
        have hb2 := List.mem_of_getElem? hb
        rw [List.mem_replicate] at hb2
        rw [hb2.2]
        refine ⟨_, _, ?_, fun s H C cl fp => ⟨xg_tup (xgs_cons (xgn 3 sc_equal.nd) (xgs_cons (xgn 4 sc_equal.nd) xgs_nil)) rfl, ?_⟩⟩
        · simp
        · exact xcl ih hr (xa_cons (xv 3) (xa_one (xv 4))) ⟨e, rfl, List.all_eq_true.mp hv.2 e (List.mem_of_getElem? he), rfl⟩ sub_nil
      | val v => cases hv
end
end RS
end TxtP25

section TxtP26
set_option Elab.async false
set_option linter.all false
set_option maxRecDepth 100000
set_option maxHeartbeats 1000000
namespace RS
open PySem PySem.Spec PyProof.Rows L2
section
variable {X : Cx} {H0 : Hp} {M : List Addr} {ds : LD} {G : GG} {a b : Expr} {es : List Expr} {K : D → GG → Prop} {pos p2 : Pos} {xs ys : List D}
theorem xw_lst (h : XAw X H0 M ds G es fun dl G1 => dl.length ≤ 100000 ∧ ∀ q, H0 q = none → K (.val (.ref q)) ((q, .lst dl) :: G1)) : XW X H0 M ds G (.List es pos) K := by
  intro σ H Q at0 kk
  refine ewp (pe_lst paS) ?_
  refine h σ H _ at0 fun dl G1 xs H1 k1 a1 t1 r => ⟨by rw [r.length, sizeLine_eq]; omega, fun p hp => ?_⟩
  exact kk _ _ _ _ (k1.2 p (a1.fr.trk p hp)) (a1.new (Ex.new hp) hp ⟨xs, upd_same, r.ex (Ex.new hp)⟩) (t1.trans (Ex.new hp).tu) rp_val
theorem boot_list : bootBuiltins "list" = some (.type "list") := by decide +kernel
theorem xn_listOf (hm : X.mg "list" = none) (ha : XE X G ds a (.tup xs)) (hg : Gl X "list" := by rfl) (he : starEach [a] X.env = (false, eval a X.env) :: starEach [] X.env := by rfl) (hpl : (backTo pos (starEach [] X.env)).any (·.1) = false := by rfl) : XN X G ds (.Call (.Name "list" p2) [a] [] pos) xs := by
  intro σ H Q l s k
  refine ewp (pe_callTy call_list_of hg hm boot_list (pa_cons peS pa_nil he) (by decide) (by decide) he hpl) ?_
  refine ha σ H _ l s fun v H1 e1 r => ?_
  rw [Rp] at r
  obtain ⟨t, us, rfl, h1, rr⟩ := r
  exact ⟨t, us, rfl, .inr (SqT.of h1), fun p hp => k p us _ (Same.free e1 hp) (e1.trans (Ex.new hp)) upd_same (rr.ex (Ex.new hp))⟩
theorem xn_catL (ha : XE X G ds a (.lst xs)) (hb : XE X G ds b (.lst ys)) (hz : xs.length + ys.length ≤ 100000) : XN X G ds (.BinOp a .Add b pos) (xs ++ ys) := by
  intro σ H Q l s k
  refine ewp (pe_op op_cat peS peS) ?_
  refine ha σ H _ l s fun x H1 e1 rx => ?_
  refine hb σ H1 _ (l.ex e1) (s.ex e1) fun y H2 e2 ry => ?_
  have rx := rx.ex e2
  rw [Rp] at rx ry
  obtain ⟨p, us, rfl, h1, r1⟩ := rx
  obtain ⟨q, ws, rfl, h2, r2⟩ := ry
  have l1 := r1.length
  have l2 := r2.length
  exact ⟨p, q, us, ws, rfl, rfl, h1, h2, by rw [sizeLine_eq]; omega, fun c hc => k c _ _ (Same.free (e1.trans e2) hc) ((e1.trans e2).trans (Ex.new hc)) upd_same ((r1.append r2).ex (Ex.new hc))⟩
end
structure BadV (p : Pz) (v : D) : Prop where
  nv : nvs v = true
  bad : posOk v (szs p) = false
  eq : eqd 1 v = true
def repl (s : List Int) (i : Nat) (e : D) : List D := (s.take i).map .int ++ [e] ++ (s.drop (i + 1)).map .int
theorem repl_tp {s : List Int} {i : Nat} {e : D} (h : tp e = true) : tpAll (repl s i e) = true := tpAll_ok fun d hd => by
  unfold repl at hd
  simp only [List.mem_append, List.mem_map, List.mem_singleton] at hd
  rcases hd with (⟨x, _, rfl⟩ | rfl) | ⟨x, _, rfl⟩
  · rfl
  · exact h
  · rfl
theorem repl_bad {p : Pz} {s : List Int} {i : Nat} {e : D} {n : Int} (hs : okS s (szs p)) (hi : i < s.length) (hn : (szs p)[i]? = some n) (he : idx e n = false) (h1 : nv e = true) (h2 : eqd 0 e = true) (p7 : p.length ≤ 7) : BadV p (.tup (repl s i e)) := by
  have hl : (repl s i e).length = s.length := by unfold repl; simp; omega
  have sl : s.length ≤ 7 := by rw [hs.1, szs_len]; omega
  have hm : ∀ d ∈ repl s i e, nv d = true ∧ eqd 0 d = true := fun d hd => by
    unfold repl at hd
    simp only [List.mem_append, List.mem_map, List.mem_singleton] at hd
    rcases hd with (⟨x, _, rfl⟩ | rfl) | ⟨x, _, rfl⟩
    · exact ⟨rfl, rfl⟩
    · exact ⟨h1, h2⟩
    · exact ⟨rfl, rfl⟩
  refine ⟨List.all_eq_true.mpr fun d hd => (hm d hd).1, ?_, ?_⟩
  · unfold posOk
    rw [Bool.and_eq_false_iff]
    right
    rw [List.all_eq_false]
    refine ⟨idx e n, List.mem_iff_getElem?.mpr ⟨i, ?_⟩, by rw [he]; decide⟩
    have hg : (repl s i e)[i]? = some e := by
      unfold repl
      rw [List.getElem?_append_left (by simp; omega), List.getElem?_append_right (by rw [List.length_map, List.length_take]; omega)]
      simp [Nat.min_eq_left (Nat.le_of_lt hi)]
    rw [List.getElem?_zipWith, hg, hn]
  · rw [eqd, Bool.and_eq_true]
    exact ⟨decide_eq_true (by omega), List.all_eq_true.mpr fun d hd => (hm d hd).2⟩
theorem len_bad {p : Pz} {s : List Int} (h : s.length ≠ p.length) (hz : s.length ≤ 1000) : BadV p (dS s) := by
  refine ⟨nvs_dS, ?_, ?_⟩
  · cases hp : posOk (dS s) (szs p) with
    | false => rfl
    | true =>
      have := (posOk_dS.mp hp).1
      rw [szs_len] at this
      exact absurd this h
  · unfold dS
    rw [eqd, Bool.and_eq_true]
    refine ⟨decide_eq_true (by rw [List.length_map]; exact hz), List.all_eq_true.mpr fun d hd => ?_⟩
    obtain ⟨x, _, rfl⟩ := List.mem_map.mp hd
    rfl
/-- an invalid state as it lies: data, or a list of its own -/
def BadAt (p : Pz) (v d : D) (N : GG) : Prop := BadV p v ∧ ((d = v ∧ N = [] ∧ tp v = true) ∨ ∃ ls xs, d = .val (.ref ls) ∧ v = .lst xs ∧ N = [(ls, .lst xs)] ∧ tpAll xs = true)
section
variable {P : Program} {w : World} {K : PySem.W.Frag} {mg : Str → Option Value} {base : Heap} {c : Ads}
def R_inv : RR := fun G dl Kc => ∃ pl sl ns q p s, G = plG pl sl ns q ∧ dl = [.val (.ref pl), dP p, dS s] ∧ okPl q ∧ 1 ≤ p.length ∧ p.length ≤ 7 ∧ (∀ r ∈ p, r.length ≤ 7) ∧ okS s (szs p) ∧ Kc = fun d N G' => ∃ v q', BadAt p v d N ∧ okPl q' ∧ G' = plG pl sl ns q'
theorem sc_inv : FnScope ["_law_pool", "_law_puzzle", "_law_state", "_law_at", "_law_before", "_law_following", "_law_options", "_law_position"] ["_law_pool", "_law_puzzle", "_law_state"] (defScope (top 61)) := ⟨rfl, rfl, rfl, by decide +kernel, rfl, by decide +kernel, by decide +kernel⟩
theorem ok_inv (T : Env K mg c) : Fn0 P w K mg base 2 "_law_invalid_state" ["_law_pool", "_law_puzzle", "_law_state"] (spA P w R_inv) := T.invalid_state.mk0 fun f fd F => fn_A F sc_inv (fun G dl d h => by obtain ⟨pl, sl, ns, q, p, s, rfl, rfl, _⟩ := h; rfl) fun cdv A outer s0 H E0 hr G dl Kc hF => by
  obtain ⟨pl, sl, ns, q, p, s, rfl, rfl, oq, p1, p7, r7, hs, rfl⟩ := hF
  have hu := hr.units
  have hsl := hs.st.1
  refine xs_asg 3 sc_inv.nd (xw_call (ok_draw T) hr rfl (xaw_a (xa_cons (xv 0) (xa_one (x_lenT T.len (xv 1))))
    (eff_draw [0, 1] rfl (by decide) oq (by rw [List.length_map]; omega) (by rw [List.length_map]; omega) (by simp) (by simp [ldTp, locD]) plG_tp ?_)))
  intro at' q1 a0 a1 oq1
  rw [List.length_map] at a1
  obtain ⟨i, rfl⟩ : ∃ i : Nat, at' = (i : Int) := ⟨at'.toNat, by omega⟩
  have hi : i < p.length := by omega
  obtain ⟨r, hr1⟩ : ∃ r, p[i]? = some r := ⟨_, List.getElem?_eq_getElem hi⟩
  have hn : (szs p)[i]? = some ((r.length : Int) + 1) := by unfold szs; rw [List.getElem?_map, hr1]; rfl
  have hrl := r7 r (List.mem_of_getElem? hr1)
  refine xs_asg 4 sc_inv.nd (xw_e (x_to (k := i) (xv 2) (xv 3) rfl) ?_)
  refine xs_asg 5 sc_inv.nd (xw_e (x_from (k := i + 1) (xv 2) (x_add (xv 3) x_int) (by push_cast; rfl)) ?_)
  have lt : (s.take i).length ≤ 7 := by rw [List.length_take]; omega
  have ld : (s.drop (i + 1)).length ≤ 7 := by rw [List.length_drop]; omega
  refine xs_asg 6 sc_inv.nd (xw_lst (xaw_cons (xw_e x_non ⟨rfl, xaw_cons (xw_e x_int ⟨rfl, xaw_cons (xw_e x_str ⟨rfl, xaw_cons (xw_n (xn_listOf T.list (xv 2)) fun ls hls => ⟨rfl, xaw_a (xa_cons (x_catS (t := [0]) (xv 2) (x_tup (xa_one x_int) (by simp)) (by simp; omega)) (xa_cons (x_init (xv 2)) (xa_one (XE.to (da := .tup (repl s i (.int ((r.length : Int) + 1)))) (x_cat (xs := (s.take i).map .int ++ [.int ((r.length : Int) + 1)]) (x_cat (xv 4) (x_tup (xa_one (XE.to (da := .int ((r.length : Int) + 1)) (x_add (x_lenT T.len (x_ixT (d := dR r) (xv 1) (xv 3) (atI_of rfl (by rw [List.getElem?_map, hr1]; rfl)))) x_int) (by rw [List.length_map]))) (by simp)) (by simp; omega)) (xv 5) (by simp; omega)) rfl)))) ⟨by simp, fun op hop => ?_⟩⟩)⟩)⟩)⟩)))
  have wl : (List.map (fun e => D.tup (repl s i e)) [.int (-1), .bl true, .str (Str.ofString "0"), .non, .int (10 ^ 30)]).length = 5 := rfl
  refine xs_asg 6 sc_inv.nd (xw_n (xn_catL (x_cell (xv 6) List.mem_cons_self) (XN.E (xn_lc (rl := List.map (fun e => D.tup (repl s i e)) [.int (-1), .bl true, .str (Str.ofString "0"), .non, .int (10 ^ 30)]) (dl := [.int (-1), .bl true, .str (Str.ofString "0"), .non, .int (10 ^ 30)]) (own := [("_law_position", 7)]) sc_inv.nd
    (xi_lst (XN.E (xn_lst (xa_cons (x_neg x_int) (xa_cons x_bl (xa_cons x_str (xa_cons x_non (xa_one (XE.to (x_pow (i := 10) (j := 30) x_int x_int ⟨by decide, by decide, by decide⟩) rfl)))))) (by simp))))
    (blk ["_law_pool", "_law_puzzle", "_law_state", "_law_at", "_law_before", "_law_following", "_law_options", "_law_position"] (top 61) (by decide +kernel)) rfl (by rw [wl]; decide) ?_ ?_)) (by simp)) fun o2 ho2 => ?_)
  · exact tpAll_ok fun d hd => by
      obtain ⟨e, he, rfl⟩ := List.mem_map.mp hd
      rw [tp_tup]
      refine repl_tp ?_
      simp at he
      rcases he with rfl | rfl | rfl | rfl | rfl <;> rfl
  · intro k d rr hd hrr
    obtain ⟨e, he, rfl⟩ := map_get hrr
    rw [hd] at he
    cases he
    refine ⟨_, _, ?_, fun s' H' C cl fp => ⟨xgn 7 sc_inv.nd, ?_⟩⟩
    · simp
    · exact XE.to (x_cat (xs := (s.take i).map .int ++ [d]) (x_cat (xv 4) (x_tup (xa_one (xv 7)) (by simp)) (by simp; omega)) (xv 5) (by simp; omega)) rfl
  have hopt : tpAll ([D.non, .int 0, .str (Str.ofString "0"), .val (.ref ls), dS (s ++ [0]), dS s.dropLast, .tup (repl s i (.int ((r.length : Int) + 1)))] ++ List.map (fun e => D.tup (repl s i e)) [.int (-1), .bl true, .str (Str.ofString "0"), .non, .int (10 ^ 30)]) = true := tpAll_ok fun d hd => by
    simp at hd
    rcases hd with rfl | rfl | rfl | rfl | rfl | rfl | rfl | rfl | rfl | rfl | rfl | rfl <;> first | rfl | exact tp_dS | (rw [tp_tup]; exact repl_tp rfl)
  have gt : ∀ q2, gTp ((o2, .lst ([D.non, .int 0, .str (Str.ofString "0"), .val (.ref ls), dS (s ++ [0]), dS s.dropLast, .tup (repl s i (.int ((r.length : Int) + 1)))] ++ List.map (fun e => D.tup (repl s i e)) [.int (-1), .bl true, .str (Str.ofString "0"), .non, .int (10 ^ 30)])) :: (op, .lst [D.non, .int 0, .str (Str.ofString "0"), .val (.ref ls), dS (s ++ [0]), dS s.dropLast, .tup (repl s i (.int ((r.length : Int) + 1)))]) :: (ls, .lst (s.map .int)) :: plG pl sl ns q2) = true := fun q2 => by
    rw [gTp_cons, gTp_cons, gTp_cons, plG_tp]
    simp only [cellTp, hopt, tpAll_ints, Bool.and_true, Bool.true_and]
    simp [repl_tp (s := s) (i := i) (e := .int ((r.length : Int) + 1)) rfl]
  refine xs_retW (xw_ixC (xw_e (xv 6) ⟨o2, rfl, xw_call (ok_draw T) hr rfl (xaw_a (xa_cons (xv 0) (xa_one x_int)) (eff_draw [3, 4] rfl (by decide) oq1 (by decide) (by decide) (by simp) (by simp [ldTp, locD]) (gt q1) ?_))⟩))
  intro rn q2 rn0 rn1 oq2
  obtain ⟨m, rfl⟩ : ∃ m : Nat, rn = (m : Int) := ⟨rn.toNat, by omega⟩
  have hm : m < 12 := by omega
  have data : ∀ v, BadV p v → tp v = true → ∃ G'', Sub G'' (setAll ((o2, .lst ([D.non, .int 0, .str (Str.ofString "0"), .val (.ref ls), dS (s ++ [0]), dS s.dropLast, .tup (repl s i (.int ((r.length : Int) + 1)))] ++ List.map (fun e => D.tup (repl s i e)) [.int (-1), .bl true, .str (Str.ofString "0"), .non, .int (10 ^ 30)])) :: (op, .lst [D.non, .int 0, .str (Str.ofString "0"), .val (.ref ls), dS (s ++ [0]), dS s.dropLast, .tup (repl s i (.int ((r.length : Int) + 1)))]) :: (ls, .lst (s.map .int)) :: plG pl sl ns q1) [3, 4] (plG pl sl ns q2)) ∧
      ∃ Nw Gn, G'' = Nw ++ Gn ∧ Gn.map (·.1) = (plG pl sl ns q).map (·.1) ∧ (∀ p ∈ Nw, H p.1 = none) ∧ ∃ v' q', BadAt p v' v Nw ∧ okPl q' ∧ Gn = plG pl sl ns q' := fun v hv ht =>
    ⟨plG pl sl ns q2, sub_pick [3, 4] rfl (by decide), [], _, rfl, rfl, by simp, v, q2, ⟨hv, .inl ⟨rfl, rfl, ht⟩⟩, oq2, rfl⟩
  have sm : ∀ e : D, idx e ((r.length : Int) + 1) = false → nv e = true → eqd 0 e = true → BadV p (.tup (repl s i e)) := fun e h1 h2 h3 => repl_bad hs (by omega) hn h1 h2 h3 p7
  refine ⟨(m : Int), _, (([D.non, .int 0, .str (Str.ofString "0"), .val (.ref ls), dS (s ++ [0]), dS s.dropLast, .tup (repl s i (.int ((r.length : Int) + 1)))] ++ List.map (fun e => D.tup (repl s i e)) [.int (-1), .bl true, .str (Str.ofString "0"), .non, .int (10 ^ 30)])[m]'(by simpa using hm)), rfl, List.mem_cons_self, atI_of rfl (List.getElem?_eq_getElem (by simpa using hm)), ?_⟩
  match m, hm with
  | 0, _ => exact data .non ⟨rfl, rfl, rfl⟩ rfl
  | 1, _ => exact data (.int 0) ⟨rfl, rfl, rfl⟩ rfl
  | 2, _ => exact data (.str (Str.ofString "0")) ⟨rfl, rfl, by decide +kernel⟩ rfl
  | 3, _ =>
    refine ⟨(ls, .lst (s.map .int)) :: plG pl sl ns q2, sub_pick [2, 3, 4] rfl (by decide), [(ls, .lst (s.map .int))], _, rfl, rfl, by simpa using hls, .lst (s.map .int), q2, ⟨⟨rfl, rfl, ?_⟩, .inr ⟨ls, s.map .int, rfl, rfl, rfl, tpAll_ints⟩⟩, oq2, rfl⟩
    rw [eqd, Bool.and_eq_true]
    refine ⟨decide_eq_true (by rw [List.length_map]; omega), List.all_eq_true.mpr fun d hd => ?_⟩
    obtain ⟨x, _, rfl⟩ := List.mem_map.mp hd
    rfl
  | 4, _ => exact data (dS (s ++ [0])) (len_bad (by simp; omega) (by simp; omega)) tp_dS
  | 5, _ => exact data (dS s.dropLast) (len_bad (by rw [List.length_dropLast]; omega) (by rw [List.length_dropLast]; omega)) tp_dS
  | 6, _ => exact data (.tup (repl s i (.int ((r.length : Int) + 1)))) (sm (.int ((r.length : Int) + 1)) (by simp [idx]) rfl rfl) (by rw [tp_tup]; exact repl_tp rfl)
  | 7, _ => exact data (.tup (repl s i (.int (-1)))) (sm (.int (-1)) (by simp [idx]) rfl rfl) (by rw [tp_tup]; exact repl_tp rfl)
  | 8, _ => exact data (.tup (repl s i (.bl true))) (sm (.bl true) rfl rfl rfl) (by rw [tp_tup]; exact repl_tp rfl)
  | 9, _ => exact data (.tup (repl s i (.str (Str.ofString "0")))) (sm (.str (Str.ofString "0")) rfl rfl (by decide +kernel)) (by rw [tp_tup]; exact repl_tp rfl)
  | 10, _ => exact data (.tup (repl s i .non)) (sm .non rfl rfl rfl) (by rw [tp_tup]; exact repl_tp rfl)
  | 11, _ => exact data (.tup (repl s i (.int (10 ^ 30)))) (sm (.int (10 ^ 30)) (by simp only [idx]; rw [decide_eq_false (p := (10 ^ 30 : Int) < _) (by omega), Bool.and_false]) rfl rfl) (by rw [tp_tup]; exact repl_tp rfl)
end
end RS
end TxtP26

section TxtP27
set_option Elab.async false
set_option linter.all false
set_option maxRecDepth 100000
set_option maxHeartbeats 1000000
namespace RS
open PySem PySem.Spec PyProof.Rows L2
section
variable {P : Program} {w : World} {K : PySem.W.Frag} {mg : Str → Option Value} {base : Heap} {c : Ads}
def spIS (C : Addr) : Sp := fun vs H Q _ => ∃ a x, vs = [.ref a, x] ∧ H a = some (exo a C none) ∧ ∀ dx, H dx = none → dx ≠ a → Q .non (upd (upd H dx (exd dx [("value", x)])) a (exo a C (some dx)))
def spIP (C : Addr) : Sp := fun vs H Q _ => ∃ a x y, vs = [.ref a, x, y] ∧ H a = some (exo a C none) ∧ ∀ dx, H dx = none → dx ≠ a → Q .non (upd (upd (upd H dx (exd dx [("ring", x)])) a (exo a C (some dx))) dx (exd dx [("link", y), ("ring", x)]))
theorem sc_IS : FnScope ["self", "value"] ["self", "value"] (defScope (inClass (top 4) 0)) := ⟨rfl, rfl, rfl, by decide +kernel, rfl, by decide +kernel, by decide +kernel⟩
theorem sc_IP : FnScope ["self", "ring", "link"] ["self", "ring", "link"] (defScope (inClass (top 3) 0)) := ⟨rfl, rfl, rfl, by decide +kernel, rfl, by decide +kernel, by decide +kernel⟩
theorem ok_IS (T : Env K mg c) {f : Addr} {fd : FuncData} (F : Fun K "__init__" "InvalidState.__init__" (inClass (top 4) 0) f fd) : FnOk P w K mg base CX0 1 f fd ["self", "value"] (spIS c.is) := by
  refine F.ok sc_IS (fun vs H Q E h => by obtain ⟨a, x, rfl, _⟩ := h; rfl) fun cdv A outer s H vs Q E hr h => ?_
  obtain ⟨a, x, rfl, ha, k⟩ := h
  refine ⟨_, pss_cons (ps_expr (pe_rinit T.Re rfl T.Re_mg (pa_cons (pv 0) (pa_cons pe_str pa_nil)))) (pss_one (ps_ost (pv 0) (pv 1))), ?_⟩
  refine ⟨_, rfl, a, c.is, _, rfl, by simp, T.Is.ox, ha, ?_⟩
  exact ⟨_, rfl, _, rfl, a, c.is, rfl, T.Is.ox, T.is_v, .inl ⟨ha, fun dx h1 h2 => k dx h1 h2⟩⟩
theorem ok_IP (T : Env K mg c) {f : Addr} {fd : FuncData} (F : Fun K "__init__" "InvalidPuzzle.__init__" (inClass (top 3) 0) f fd) : FnOk P w K mg base CX0 1 f fd ["self", "ring", "link"] (spIP c.ip) := by
  refine F.ok sc_IP (fun vs H Q E h => by obtain ⟨a, x, y, rfl, _⟩ := h; rfl) fun cdv A outer s H vs Q E hr h => ?_
  obtain ⟨a, x, y, rfl, ha, k⟩ := h
  refine ⟨_, pss_cons (ps_expr (pe_rinit T.Re rfl T.Re_mg (pa_cons (pv 0) (pa_cons pe_str pa_nil)))) (pss_cons (ps_ost (pv 0) (pv 1)) (pss_one (ps_ost (pv 0) (pv 2)))), ?_⟩
  refine ⟨_, rfl, a, c.ip, _, rfl, by simp, T.Ip.ox, ha, ?_⟩
  refine ⟨_, rfl, _, rfl, a, c.ip, rfl, T.Ip.ox, T.ip_r, .inl ⟨ha, fun dx h1 h2 => ?_⟩⟩
  refine ⟨_, rfl, _, rfl, a, c.ip, rfl, T.Ip.ox, T.ip_l, .inr ⟨dx, [("ring", x)], upd_same, by rw [upd_ne h2, upd_same], by simp, k dx h1 h2⟩⟩
/-- which exception leaves -/
def Xout (c : Ads) (H : Hp) (o : Option D) (E : XK) : Prop := match o with
  | none => ∀ dd H', Ex H H' → H' dd = some (.xd [("link", .non), ("ring", .non)]) → E (.ref c.ip) (some dd) H'
  | some dv => ∀ dd v H', Ex H H' → Rp H' dv v → H' dd = some (.xd [("value", v)]) → E (.ref c.is) (some dd) H'
/-- the promise of a def that always raises -/
def spX (P : Program) (w : World) (c : Ads) (F : GG → List D → Option D → Prop) : Sp := fun vs H Q E => ∃ G ds o, RpAll H ds vs ∧ Sat P w G H ∧ F G ds o ∧ Xout c H o E
theorem Xout.ex {H H1 : Hp} {o : Option D} {E : XK} (h : Xout c H o E) (e : Ex H H1) : Xout c H1 o E := by
  cases o with
  | none => exact fun dd H' e2 h1 => h dd H' (e.trans e2) h1
  | some dv => exact fun dd v H' e2 r h1 => h dd v H' (e.trans e2) r h1
/-- the heap behind a raise -/
theorem ex_xd {H : Hp} {a dx C : Addr} {fs : List (Str × V)} {o1 o2 o3 : HO} (ha : H a = none) (hd : H dx = none) : Ex H (upd (del (upd (upd (upd H a o1) dx o2) a o3) a) dx (.xd fs)) := fun b u hb => by
  have h1 : b ≠ a := fun z => by subst z; rw [ha] at hb; cases hb
  have h2 : b ≠ dx := fun z => by subst z; rw [hd] at hb; cases hb
  rw [upd_ne h2, del_ne h1, upd_ne h1, upd_ne h2, upd_ne h1]
  exact hb
theorem ex_xd2 {H : Hp} {a dx C : Addr} {fs : List (Str × V)} {o1 o2 o3 o4 : HO} (ha : H a = none) (hd : H dx = none) : Ex H (upd (del (upd (upd (upd (upd H a o1) dx o2) a o3) dx o4) a) dx (.xd fs)) := fun b u hb => by
  have h1 : b ≠ a := fun z => by subst z; rw [ha] at hb; cases hb
  have h2 : b ≠ dx := fun z => by subst z; rw [hd] at hb; cases hb
  rw [upd_ne h2, del_ne h1, upd_ne h2, upd_ne h1, upd_ne h2, upd_ne h1]
  exact hb
section
variable {X : Cx} {H0 : Hp} {ds : LD} {G : GG} {e : Expr} {K : AK} {W : WX} {pos p2 p3 : Pos} {d : D} {rest : List Stmt} {E : XK}
theorem xs_raiseS (T : Env X.K X.mg c) (hr : Room 2 X.A) (tk : Takes X W) (he : XE X G ds e d) (hW : ∀ cls dd σ H, E cls dd H → W cls dd σ H) (ho : Xout c H0 (some d) E) (hc : X.calm = true := by rfl) (hg : Gl X "InvalidState" := by rfl)
    (hs : starEach [e] X.env = (false, eval e X.env) :: starEach [] X.env := by rfl) (hpl : (backTo pos (starEach [] X.env)).any (·.1) = false := by rfl) : XSs X H0 [] ds G (.Raise (some (.Call (.Name "InvalidState" p2) [e] [] pos)) none p3 :: rest) K := by
  intro σ H D at0 o
  obtain ⟨f, fd, F, iC, tI, hb⟩ := T.Is.ex
  refine sswp (pss_cons (ps_raise hc tk (pmk_oex (CX := CX0) T.Is.ox iC tI (ok_IS T F) hr hb .nil pass0 hg T.Is.mg (pa_cons peS pa_nil hs) (by decide) hs hpl)) (pssS (sts := rest))) ?_
  refine he σ H _ at0.lo at0.sa fun v H1 e1 r => ⟨by simp, fun a ha => ?_⟩
  refine ⟨a, v, rfl, upd_same, fun dx hdx hne => ⟨rfl, dx, [("value", v)], upd_same, by rw [upd_ne hne, upd_same], ?_, ?_⟩⟩
  · rw [upd_ne hne] at hdx; exact hdx
  · rw [upd_ne hne] at hdx
    have ex := ex_xd (C := c.is) (fs := [("value", v)]) (o1 := exo a c.is none) (o2 := exd dx [("value", v)]) (o3 := exo a c.is (some dx)) ha hdx
    exact hW _ _ _ _ (ho dx v _ ((at0.fr.to_ex.trans e1).trans ex) (r.ex ex) upd_same)
theorem xs_raiseP {e2 : Expr} (T : Env X.K X.mg c) (hr : Room 2 X.A) (tk : Takes X W) (he : XE X G ds e .non) (he2 : XE X G ds e2 .non) (hW : ∀ cls dd σ H, E cls dd H → W cls dd σ H) (ho : Xout c H0 none E) (hc : X.calm = true := by rfl) (hg : Gl X "InvalidPuzzle" := by rfl)
    (hs : starEach [e, e2] X.env = (false, eval e X.env) :: starEach [e2] X.env := by rfl) (hs2 : starEach [e2] X.env = (false, eval e2 X.env) :: starEach [] X.env := by rfl) (hpl : (backTo pos (starEach [e2] X.env)).any (·.1) = false := by rfl) : XSs X H0 [] ds G (.Raise (some (.Call (.Name "InvalidPuzzle" p2) [e, e2] [] pos)) none p3 :: rest) K := by
  intro σ H D at0 o
  obtain ⟨f, fd, F, iC, tI, hb⟩ := T.Ip.ex
  refine sswp (pss_cons (ps_raise hc tk (pmk_oex (CX := CX0) T.Ip.ox iC tI (ok_IP T F) hr hb .nil pass0 hg T.Ip.mg (pa_cons peS (pa_cons peS pa_nil hs2) hs) (by decide) hs hpl)) (pssS (sts := rest))) ?_
  refine he σ H _ at0.lo at0.sa fun v H1 e1 r => he2 σ H1 _ (at0.lo.ex e1) (at0.sa.ex e1) fun u H2 e2' r2 => ⟨by simp, fun a ha => ?_⟩
  have ev : v = .non := by rwa [Rp] at r
  have eu : u = .non := by rwa [Rp] at r2
  subst ev eu
  refine ⟨a, .non, .non, rfl, upd_same, fun dx hdx hne => ⟨rfl, dx, [("link", .non), ("ring", .non)], by rw [upd_ne (Ne.symm hne), upd_same], upd_same, ?_, ?_⟩⟩
  · rw [upd_ne hne] at hdx; exact hdx
  · rw [upd_ne hne] at hdx
    have ex := ex_xd2 (C := c.ip) (fs := [("link", V.non), ("ring", V.non)]) (o1 := exo a c.ip none) (o2 := exd dx [("ring", V.non)]) (o3 := exo a c.ip (some dx)) (o4 := exd dx [("link", V.non), ("ring", V.non)]) ha hdx
    exact hW _ _ _ _ (ho dx _ (((at0.fr.to_ex.trans e1).trans e2').trans ex) upd_same)
end
end
end RS
end TxtP27

section TxtP28
set_option Elab.async false
set_option linter.all false
set_option maxRecDepth 100000
set_option maxHeartbeats 1000000
namespace RS
open PySem PySem.Spec PyProof.Rows L2
/-- a def of the module that may raise -/
structure FnX0 (P : Program) (w : World) (K : PySem.W.Frag) (mg : Str → Option Value) (base : Heap) (k : Nat) (x : Str) (ps : List Str) (sp : Sp) : Prop where
  ex : ∃ f fd, FnOk P w K mg base (L2.CX P w) k f fd ps sp ∧ mg x = some (.ref f) ∧ PySem.W.keepIn K (.ref f) = true ∧ L2.Binds K fd ps []
abbrev bxX (P : Program) (w : World) (K : PySem.W.Frag) (mg : Str → Option Value) (base : Heap) (N : List Str) (qual : Str) (st : Stmt) (f : Addr) (cdv : Value) (A : Around) (outer : List PySem.Env) (s : Shared) (H : Hp) (E : XK) : Cx := cxOf (L2.CX P w) P w K mg base N qual (defScope st) f cdv A outer s H E
section
variable {P : Program} {w : World} {K : PySem.W.Frag} {mg : Str → Option Value} {base : Heap} {c : Ads}
theorem fn_X {x q : Str} {st : Stmt} {f : Addr} {fd : FuncData} {N ps : List Str} {k : Nat} {Fs : GG → List D → Option D → Prop} (F : Fun K x q st f fd) (S : FnScope N ps (defScope st)) (hl : ∀ G dl d, Fs G dl d → dl.length = ps.length)
    (h : ∀ cdv A outer s H E, Room k (A.deeper (envOfC q (defScope st) s.heap.objs.size f cdv)) → ∀ G dl o, Fs G dl o → Xout c H o E → XSs (bxX P w K mg base N q st f cdv A outer s H E) H [] (locD N dl) G (defBody st) ⟨fun _ _ => False, fun _ _ => False, fun _ _ => False, fun _ _ => False⟩) :
    FnOk P w K mg base (L2.CX P w) (k + 1) f fd ps (spX P w c Fs) := by
  refine F.okX S (fun vs H Q E hs => ?_) (fun cdv A outer s H vs Q E hr hs => ?_)
  · obtain ⟨G, ds, d, r, _, hF, _⟩ := hs
    rw [r.length, hl G ds d hF]
  · obtain ⟨G, ds, o, r, sa, hF, ho⟩ := hs
    refine ⟨_, pssS, ?_⟩
    exact h cdv A outer s H E hr G ds o hF ho (L2.start N vs) H _ ⟨loc_start r, sa, Fr.refl⟩ ⟨fun _ _ _ _ z => z.elim, fun _ _ _ _ z => z.elim, fun _ _ _ _ z => z.elim, fun _ _ _ _ z => z.elim⟩
theorem xs_exprX {X : Cx} {H0 : Hp} {ds : LD} {G G' : GG} {e : Expr} {es : List Expr} {dl : List D} {Kk : AK} {W : WX} {pos p2 p3 : Pos} {rest : List Stmt} {E : XK} {k : Nat} {x : Str} {ps : List Str} {Fs : GG → List D → Option D → Prop} {o : Option D}
    (F : FnX0 X.prog X.w X.K X.mg X.base k x ps (spX X.prog X.w c Fs)) (hr : Room k X.A) (tk : Takes X W) (hW : ∀ cls dd σ H, E cls dd H → W cls dd σ H) (ha : XA X G ds (e :: es) dl) (hF : Fs G' dl o) (hG : Sub G' G) (ho : Xout c H0 o E) (hg : Gl X x := by rfl)
    (hs : swapsWith (.Call (.Name x p2) (e :: es) [] pos) none p3.line X.env = pure false := by rfl) (hd : (x == ("__debug__" : Str)) = false := by decide) (he : starEach (e :: es) X.env = (false, eval e X.env) :: starEach es X.env := by rfl) (hpl : (backTo pos (starEach es X.env)).any (·.1) = false := by rfl) :
    XSs X H0 [] ds G (.Expr (.Call (.Name x p2) (e :: es) [] pos) p3 :: rest) Kk := by
  intro σ H D at0 oo
  obtain ⟨f, fd, h, hm, hk, hb⟩ := F.ex
  refine sswp (pss_cons (ps_expr (pe_call h hr hg hm hk hb .nil (passes_call tk hW) paS hd he hpl) hs) (pssS (sts := rest))) ?_
  refine ha σ H _ at0.lo at0.sa fun vs H1 e1 r => ?_
  show spX _ _ c Fs (vs ++ []) H1 _ _
  rw [List.append_nil]
  exact ⟨G', dl, o, r, (at0.sa.ex e1).part hG, hF, ho.ex (at0.fr.to_ex.trans e1)⟩
def noPz (pv : D) : Prop := ∃ t, tyN pv = some t ∧ t ∈ ["NoneType", "tuple", "int", "str"]
def F_csX (c : Ads) (G : GG) (dl : List D) (o : Option D) : Prop := (∃ pv l, dl = [pv, l] ∧ noPz pv ∧ o = none) ∨
  ∃ (y : Addr) (p : Pz) (pre : List (List Int)) (v : D) (rest : List D), G = [(y, pzC c p)] ∧ dl = [.val (.ref y), .lst (pre.map dS ++ v :: rest)] ∧ p.length ≤ 1000 ∧ (∀ t ∈ pre, okS t (szs p)) ∧ nvs v = true ∧ posOk v (szs p) = false ∧ o = some v
theorem ok_csX (T : Env K mg c) : FnX0 P w K mg base 6 "check_states" ["puzzle", "states"] (spX P w c (F_csX c)) := by
  obtain ⟨f, fd, F, hm, hb⟩ := T.check_states.ex
  refine ⟨f, fd, ?_, hm, F.kp, hb⟩
  refine fn_X F sc_check_states (fun G dl d h => by rcases h with ⟨pv, l, rfl, _⟩ | ⟨y, p, pre, v, rest, rfl, rfl, _⟩ <;> rfl) fun cdv A outer s H E hr G dl o hF ho => ?_
  rcases hF with ⟨pv, l, rfl, ⟨t, ht, hk⟩, rfl⟩ | ⟨y, p, pre, v, rest, rfl, rfl, hz, hv, nv, hbad, rfl⟩
  · refine xs_if1 (XT.to (t_not (t_val (x_isiNo T.isinstance (xv 0) ht (xcls T.Pz.mg) (T.pz_k t hk)))) rfl) ?_
    exact xs_raiseP T (hr.mono (by decide)) (takes_of (E := E) rfl rfl rfl rfl) x_non x_non (fun _ _ _ _ z => z) ho
  · refine xs_if0 (XT.to (t_not (t_val (x_isiOwn T.isinstance (xv 0) List.mem_cons_self (xcls T.Pz.mg) T.Pz.cls T.pz_i))) rfl) ?_
    refine xs_forE (dl := pre.map dS ++ v :: rest) (xi_lst (xv 1)) (fun i ds' G' => i ≤ pre.length ∧ ∃ b, ds' = [some (.val (.ref y)), some (.lst (pre.map dS ++ v :: rest)), b] ∧ G' = [(y, pzC c p)]) ⟨Nat.zero_le _, none, rfl, rfl⟩ ?_ ?_ (hp := passes_of rfl)
    · rintro H1 fr1 i d ds' G' hd ⟨hi, b, rfl, rfl⟩
      refine ⟨_, _, xgn 2 sc_check_states.nd, ?_⟩
      by_cases hlt : i < pre.length
      · rw [List.getElem?_append_left (by simpa using hlt)] at hd
        obtain ⟨t, ht, rfl⟩ := map_get hd
        refine xs_if0 (XT.to (t_not (t_val (x_meth (d := .bl (posOk (dS t) (szs p))) (ok_Pz_is_state T) (hr.mono (by decide)) T.Pz.cls (xv 0) List.mem_cons_self rfl (xa_one (xv 2)) ⟨y, p, dS t, rfl, rfl, hz, nvs_dS, rfl⟩ sub_refl))) ?_) (xs_nil ⟨hlt, _, rfl, rfl⟩)
        rw [posOk_dS.mpr (hv t (List.mem_of_getElem? ht))]; rfl
      · have hie : i = pre.length := by omega
        rw [List.getElem?_append_right (by rw [List.length_map]; omega), List.length_map, hie, Nat.sub_self] at hd
        cases hd
        refine xs_if1 (XT.to (t_not (t_val (x_meth (d := .bl (posOk v (szs p))) (ok_Pz_is_state T) (hr.mono (by decide)) T.Pz.cls (xv 0) List.mem_cons_self rfl (xa_one (xv 2)) ⟨y, p, v, rfl, rfl, hz, nv, rfl⟩ sub_refl))) (by rw [hbad]; rfl)) ?_
        exact xs_raiseS T (hr.mono (by decide)) (takes_of (E := E) rfl rfl rfl rfl) (xv 2) (fun _ _ _ _ z => z) (ho.ex fr1.to_ex)
    · rintro ds' G' ⟨hi, _⟩
      rw [List.length_append, List.length_map, List.length_cons] at hi
      omega
def F_prX (c : Ads) (G : GG) (dl : List D) (o : Option D) : Prop := (∃ pv x z, dl = [pv, x, z] ∧ noPz pv ∧ o = none) ∨
  (∃ (y : Addr) (p : Pz) (v z : D), G = [(y, pzC c p)] ∧ dl = [.val (.ref y), v, z] ∧ p.length ≤ 1000 ∧ nvs v = true ∧ posOk v (szs p) = false ∧ o = some v) ∨
  ∃ (y : Addr) (p : Pz) (s : List Int) (v : D), G = [(y, pzC c p)] ∧ dl = [.val (.ref y), dS s, v] ∧ p.length ≤ 1000 ∧ okS s (szs p) ∧ nvs v = true ∧ posOk v (szs p) = false ∧ o = some v
theorem ok_prX (T : Env K mg c) : FnX0 P w K mg base 7 "path_rules" ["puzzle", "start", "end"] (spX P w c (F_prX c)) := by
  obtain ⟨f, fd, F, hm, hb⟩ := T.path_rules.ex
  refine ⟨f, fd, ?_, hm, F.kp, hb⟩
  refine fn_X F sc_path_rules (fun G dl d h => by rcases h with ⟨pv, x, z, rfl, _⟩ | ⟨y, p, v, z, rfl, rfl, _⟩ | ⟨y, p, s, v, rfl, rfl, _⟩ <;> rfl) fun cdv A outer s H E hr G dl o hF ho => ?_
  rcases hF with ⟨pv, x, z, rfl, hno, rfl⟩ | ⟨y, p, v, z, rfl, rfl, hz, nv, hbad, rfl⟩ | ⟨y, p, t, v, rfl, rfl, hz, ht, nv, hbad, rfl⟩
  · exact xs_exprX (ok_csX T) hr (takes_of (E := E) rfl rfl rfl rfl) (fun _ _ _ _ z => z) (xa_cons (xv 0) (xa_one (XN.E (xn_lst (xa_cons (xv 1) (xa_one (xv 2))) (by simp))))) (.inl ⟨pv, _, rfl, hno, rfl⟩) (sub_nil) ho
  · exact xs_exprX (ok_csX T) hr (takes_of (E := E) rfl rfl rfl rfl) (fun _ _ _ _ z => z) (xa_cons (xv 0) (xa_one (XN.E (xn_lst (xa_cons (xv 1) (xa_one (xv 2))) (by simp))))) (.inr ⟨y, p, [], v, [z], rfl, rfl, hz, by simp, nv, hbad, rfl⟩) sub_refl ho
  · exact xs_exprX (ok_csX T) hr (takes_of (E := E) rfl rfl rfl rfl) (fun _ _ _ _ z => z) (xa_cons (xv 0) (xa_one (XN.E (xn_lst (xa_cons (xv 1) (xa_one (xv 2))) (by simp))))) (.inr ⟨y, p, [t], v, [], rfl, rfl, hz, by simpa using ht, nv, hbad, rfl⟩) sub_refl ho
def dErr : Option D → D
  | none => .lst [.str (Str.ofString "puzzle"), .non, .non]
  | some v => .lst [.str (Str.ofString "state"), v]
def F_err (c : Ads) (G : GG) (dl : List D) (d : D) : Prop := ∃ o, F_prX c G dl o ∧ d = dErr o
theorem sc_err : FnScope ["_law_puzzle", "_law_start", "_law_end", "_law_result", "e"] ["_law_puzzle", "_law_start", "_law_end"] (defScope (top 62)) := ⟨rfl, rfl, rfl, by decide +kernel, rfl, by decide +kernel, by decide +kernel⟩
end
end RS
end TxtP28

section TxtP29
set_option Elab.async false
set_option linter.all false
set_option maxRecDepth 100000
set_option maxHeartbeats 1000000
namespace RS
open PySem PySem.Spec PyProof.Rows L2
section
variable {P : Program} {w : World} {K : PySem.W.Frag} {mg : Str → Option Value} {base : Heap} {c : Ads}
theorem ok_err (T : Env K mg c) : Fn0 P w K mg base 8 "_law_error" ["_law_puzzle", "_law_start", "_law_end"] (spP P w (F_err c)) := T.error.mk0 fun f fd F => fn_P F sc_err (fun G dl d h => by obtain ⟨o, h, rfl⟩ := h; rcases h with ⟨pv, x, z, rfl, _⟩ | ⟨y, p, v, z, rfl, rfl, _⟩ | ⟨y, p, s, v, rfl, rfl, _⟩ <;> rfl) fun cdv A outer s0 H E0' hr G dl d hF => by
  obtain ⟨o, hF, rfl⟩ := hF
  have hdl : ∃ d0 d1 d2, dl = [d0, d1, d2] := by
    rcases hF with ⟨pv, x, z, rfl, _⟩ | ⟨y, p, v, z, rfl, rfl, _⟩ | ⟨y, p, s, v, rfl, rfl, _⟩ <;> exact ⟨_, _, _, rfl⟩
  obtain ⟨d0, d1, d2, rfl⟩ := hdl
  refine xs_asg 3 sc_err.nd (xw_e (d := .lst []) (XN.E (xn_lst xa_nil (by simp))) ?_)
  intro σ H1 En at0 oo
  obtain ⟨f2, fd2, h2, hm2, hk2, hb2⟩ := (ok_prX (P := P) (w := w) (base := base) T).ex
  refine sswp (pss_cons (ps_try_manyAs (X := bx P w K mg base ["_law_puzzle","_law_start","_law_end","_law_result","e"] "_law_error" (top 62) f cdv A outer s0 H E0') (i := 4) (Wout := fun _ _ _ _ => False) (tb := fun W => tDrop (tCallS (spX P w c (F_prX c)) (WE W) (tCons (tVar 0) (tCons (tVar 1) (tCons (tVar 2) tNil)))))
    (l := [(.ref c.is, _), (.ref c.ip, _)]) rfl rfl sc_err.nd rfl rfl takes0
    (fun W pn xe tk _ => pss_one (ps_expr (pe_callS h2 hr (by rfl) hm2 hk2 hb2 (passAt tk) (pa_cons (pv 0) (pa_cons (pv 1) (pa_cons (pv 2) pa_nil))))))
    (.cons ⟨by rfl, by decide, .inl T.Is.mg⟩ (fun a oe cls dd pn hz hf => pss_one (ps_set (i := 3) sc_err.nd rfl (Or.inl rfl) (pe_lst (pa_cons pe_str (pa_cons (pe_xf T.Is.xf T.is_v hz hf (pv 4)) pa_nil)))))
      (.cons ⟨by rfl, by decide, .inl T.Ip.mg⟩ (fun a oe cls dd pn hz hf => pss_one (ps_set (i := 3) sc_err.nd rfl (Or.inl rfl) (pe_lst (pa_cons pe_str (pa_cons (pe_xf T.Ip.xf T.ip_r hz hf (pv 4)) (pa_cons (pe_xf T.Ip.xf T.ip_l hz hf (pv 4)) pa_nil)))))) .nil))) pssS) ?_
  obtain ⟨v0, e0, r0⟩ := at0.lo.2 0 d0 rfl
  obtain ⟨v1, e1, r1⟩ := at0.lo.2 1 d1 rfl
  obtain ⟨v2, e2, r2⟩ := at0.lo.2 2 d2 rfl
  refine ⟨v0, e0, v1, e1, v2, e2, G, [d0, d1, d2], o, .cons r0 (.cons r1 (.cons r2 .nil)), at0.sa, hF, ?_⟩
  have hlen := at0.lo.1
  have done : ∀ (a p : Addr) (xs : List V) (H2 : Hp) (el : List D), Ex H1 H2 → H2 p = none → RpAll H2 el xs → dErr o = .lst el → wpSs (bx P w K mg base ["_law_puzzle", "_law_start", "_law_end", "_law_result", "e"] "_law_error" (top 62) f cdv A outer s0 H E0') ((defBody (top 62)).drop 2) En (((σ.set 4 (some (.ref a))).set 3 (some (.ref p))).set 4 none) (upd H2 p (.lst xs)) := by
    intro a p xs H2 el ex hp rr he
    have ex2 : Ex H1 (upd H2 p (.lst xs)) := ex.trans (Ex.new hp)
    have lo := at0.lo.ex ex2
    have lo2 := ((lo.set (i := 4) (d := .val (.ref a)) (v := .ref a) rp_val).set (i := 3) (d := dErr o) (v := .ref p) (by rw [he]; exact rp_lst upd_same (rr.ex (Ex.new hp)))).unset (i := 4)
    have k : XSs (bx P w K mg base ["_law_puzzle", "_law_start", "_law_end", "_law_result", "e"] "_law_error" (top 62) f cdv A outer s0 H E0') H [] [some d0, some d1, some d2, some (dErr o), none] G ((defBody (top 62)).drop 2) ⟨fun _ _ => dErr o = .non, fun d' _ => d' = dErr o, fun _ _ => False, fun _ _ => False⟩ := xs_ret (xw_e (xv 3) rfl)
    exact k _ _ En ⟨lo2, at0.sa.ex ex2, at0.fr.ex ex2⟩ (oo.tu ex2.tu)
  cases o with
  | none =>
    intro dd H' ex hx
    refine ⟨false, T.x_pi, (fun z => nomatch z), fun _ => ⟨true, T.x_pp, fun _ a ha => ?_, fun z => nomatch z⟩⟩
    refine ⟨.ref a, List.getElem?_set_self (by rw [hlen]; show 4 < 5; decide), rfl, rfl, dd, _, .non, rfl, hx, rfl, ?_⟩
    refine ⟨.ref a, List.getElem?_set_self (by rw [hlen]; show 4 < 5; decide), rfl, rfl, dd, _, .non, rfl, hx, rfl, by rw [sizeLine_eq]; simp, fun p hp => ?_⟩
    exact done a p _ H' [.str (Str.ofString "puzzle"), .non, .non] ex hp (.cons (by rw [Rp]) (.cons rp_non (.cons rp_non .nil))) rfl
  | some dv =>
    intro dd v H' ex rv hx
    refine ⟨true, T.x_ii, fun _ a ha => ?_, fun z => nomatch z⟩
    refine ⟨.ref a, List.getElem?_set_self (by rw [hlen]; show 4 < 5; decide), rfl, rfl, dd, _, v, rfl, hx, rfl, by rw [sizeLine_eq]; simp, fun p hp => ?_⟩
    exact done a p _ H' [.str (Str.ofString "state"), dv] ex hp (.cons (by rw [Rp]) (.cons rv .nil)) rfl
end
end RS
end TxtP29

section TxtP30
set_option Elab.async false
set_option linter.all false
set_option maxRecDepth 100000
set_option maxHeartbeats 1000000
namespace RS
open PySem PySem.Spec PyProof.Rows L2
section
variable {X : Cx} {ds : LD} {G : GG} {a b : Expr} {pos : Pos} {xs : List D}
theorem xn_rep2 (ha : XE X G ds a (.lst xs)) (hb : XE X G ds b (.int 2)) (hz : xs.length ≤ 1000) : XN X G ds (.BinOp a .Mult b pos) (xs ++ xs) := by
  intro σ H Q l s k
  refine ewp (pe_op op_rep peS peS) ?_
  refine ha σ H _ l s fun x H1 e1 rx => ?_
  refine hb σ H1 _ (l.ex e1) (s.ex e1) fun y H2 e2 ry => ?_
  have rx := rx.ex e2
  rw [Rp] at rx
  rw [rp_i ry]
  obtain ⟨p, us, rfl, h1, r1⟩ := rx
  have l1 := r1.length
  refine ⟨p, 2, us, rfl, rfl, h1, by decide, by decide, by rw [sizeLine_eq]; show us.length * 2 ≤ _; omega, fun c hc => ?_⟩
  have e : (List.replicate (2 : Int).toNat us).flatten = us ++ us := by
    show (List.replicate 2 us).flatten = us ++ us
    simp [List.replicate]
  rw [e]
  exact k c _ _ (Same.free (e1.trans e2) hc) ((e1.trans e2).trans (Ex.new hc)) upd_same ((r1.append r1).ex (Ex.new hc))
theorem x_bad {p : Pz} {v d : D} {N : GG} (h : BadAt p v d N) (hN : ∀ x ∈ N, x ∈ G) (ha : XE X G ds a d) : XE X G ds a v := by
  rcases h.2 with ⟨rfl, _, _⟩ | ⟨ls, xs, rfl, rfl, rfl, _⟩
  · exact ha
  · exact x_cell ha (hN _ List.mem_cons_self)
theorem bad_tp {p : Pz} {v d : D} {N : GG} (h : BadAt p v d N) : gTp N = true ∧ tp d = true := by
  rcases h.2 with ⟨rfl, rfl, ht⟩ | ⟨ls, xs, rfl, rfl, rfl, ht⟩
  · exact ⟨rfl, ht⟩
  · refine ⟨?_, rfl⟩
    rw [gTp_cons]
    simp [cellTp, ht, gTp]
theorem sub_perm {A B : GG} (h : A.Perm B) : Sub A B := ⟨fun hn => ((h.map (·.1)).nodup_iff).mpr hn, fun x hx => h.mem_iff.mp hx⟩
end
theorem eff_inv {H0 : Hp} {M : List Addr} {ds : LD} {G : GG} {Kk : D → GG → Prop} {pl sl : Addr} {ns : List Int} {q : Pl} {p : Pz} {s : List Int} (js : List Nat) (hp : Pick G js (plG pl sl ns q)) (hj : js.Nodup) (oq : okPl q) (p1 : 1 ≤ p.length) (p7 : p.length ≤ 7) (r7 : ∀ r ∈ p, r.length ≤ 7) (hs : okS s (szs p)) (hM : (pl ∈ M ∨ H0 pl = none) ∧ (sl ∈ M ∨ H0 sl = none)) (hd : ldTp ds = true) (hg : gTp G = true)
    (hk : ∀ v d N q', BadAt p v d N → okPl q' → Kk d (N ++ setAll G js (plG pl sl ns q'))) : Eff H0 M ds R_inv G [.val (.ref pl), dP p, dS s] Kk := by
  refine ⟨js, _, _, hp, hj, ?_, hd, hg, ⟨pl, sl, ns, q, p, s, rfl, rfl, oq, p1, p7, r7, hs, rfl⟩, ?_⟩
  · intro x hx
    simp at hx
    rcases hx with rfl | rfl
    · exact hM.1
    · exact hM.2
  · rintro d N G' ⟨v, q', hb, h3, rfl⟩ _ _
    exact hk v d N q' hb h3
section
variable {P : Program} {w : World} {K : PySem.W.Frag} {mg : Str → Option Value} {base : Heap} {c : Ads}
def R_agree : RR := fun G dl Kc => ∃ pl sl ns q p s e, G = plG pl sl ns q ∧ dl = [.val (.ref pl), dP p, dS s, dS e] ∧ okPl q ∧ okP p ∧ 1 ≤ p.length ∧ p.length ≤ 7 ∧ (∀ r ∈ p, r.length ≤ 7) ∧ okS s (szs p) ∧ okS e (szs p) ∧ Kc = fun d N G' => d = .bl true ∧ N = [] ∧ ∃ q', okPl q' ∧ G' = plG pl sl ns q'
theorem sc_agree : FnScope ["_law_pool", "_law_rings", "_law_one", "_law_other", "_law_puzzle", "_law_first", "_law_second"] ["_law_pool", "_law_rings", "_law_one", "_law_other"] (defScope (top 63)) := ⟨rfl, rfl, rfl, by decide +kernel, rfl, by decide +kernel, by decide +kernel⟩
theorem eqd_err {v : D} (h : eqd 1 v = true) : eqd 2 (dErr (some v)) = true := by
  unfold dErr
  rw [eqd]
  have h1 : eqd 1 (.str (Str.ofString "state")) = true := by decide +kernel
  simp [h, h1]
theorem ok_agree (T : Env K mg c) : Fn0 P w K mg base 10 "_law_errors_agree" ["_law_pool", "_law_rings", "_law_one", "_law_other"] (spA P w R_agree) := T.errors_agree.mk0 fun f fd F => fn_A F sc_agree (fun G dl d h => by obtain ⟨pl, sl, ns, q, p, s, e, rfl, rfl, _⟩ := h; rfl) fun cdv A outer s0 H E0 hr G dl Kc hF => by
  obtain ⟨pl, sl, ns, q, p, s, e, rfl, rfl, oq, okp, p1, p7, r7, hs, he, rfl⟩ := hF
  refine xs_asg 4 sc_agree.nd (xw_make (ok_Pz T) hr rfl (xaw_a (xa_one (xv 1)) ⟨[], [], rfl, List.nodup_nil, by simp, by simp [ldTp, locD], plG_tp, fun y hy => ⟨_, ⟨y, p, rfl, rfl, okp, rfl⟩, ?_⟩⟩))
  rintro d N G' ⟨rfl, rfl, rfl⟩
  refine ⟨rfl, _, [], rfl, fun _ _ => ?_⟩
  have g0 : ∀ (q' : Pl) (N : GG), gTp N = true → gTp ((y, pzC c p) :: (pl, .lst [.val (.ref sl), .int q'.i, .int q'.cc, .int q'.sd]) :: (sl, .lst (ns.map .int)) :: N) = true := fun q' N h => by
    rw [gTp_cons, gTp_cons, gTp_cons, h]
    simp [cellTp]
  refine xs_asg 5 sc_agree.nd (xw_call (ok_inv T) (hr.mono (by decide)) rfl (xaw_a (xa_cons (xv 0) (xa_cons (xv 1) (xa_one (xv 2)))) (eff_inv [1, 2] rfl (by decide) oq p1 p7 r7 hs (by simp) (by simp [ldTp, locD]) (g0 q [] rfl) ?_)))
  intro v1 d1 N1 q1 b1 oq1
  obtain ⟨t1, u1⟩ := bad_tp b1
  refine xs_weak (G' := (y, pzC c p) :: (pl, .lst [.val (.ref sl), .int q1.i, .int q1.cc, .int q1.sd]) :: (sl, .lst (ns.map .int)) :: N1) ?_ rfl (fun _ _ z => z) (sub_perm (List.perm_append_comm (l₁ := [(y, pzC c p), (pl, .lst [.val (.ref sl), .int q1.i, .int q1.cc, .int q1.sd]), (sl, .lst (ns.map .int))]) (l₂ := N1)))
  refine xs_asg 6 sc_agree.nd (xw_call (ok_inv T) (hr.mono (by decide)) rfl (xaw_a (xa_cons (xv 0) (xa_cons (xv 1) (xa_one (xv 3)))) (eff_inv [1, 2] rfl (by decide) oq1 p1 p7 r7 he (by simp) (by simp [ldTp, locD, u1]) (g0 q1 N1 t1) ?_)))
  intro v2 d2 N2 q2 b2 oq2
  obtain ⟨t2, u2⟩ := bad_tp b2
  have t12 : gTp (N1 ++ N2) = true := by
    unfold gTp at *
    rw [List.all_append, t1, t2]; rfl
  refine xs_weak (G' := (y, pzC c p) :: (pl, .lst [.val (.ref sl), .int q2.i, .int q2.cc, .int q2.sd]) :: (sl, .lst (ns.map .int)) :: (N1 ++ N2)) ?_ rfl (fun _ _ z => z) (sub_perm (List.perm_append_comm (l₁ := (y, pzC c p) :: (pl, .lst [.val (.ref sl), .int q2.i, .int q2.cc, .int q2.sd]) :: (sl, .lst (ns.map .int)) :: N1) (l₂ := N2)))
  refine xs_if (xv_not (xv_val (xw_callP (ok_equal T 1) (hr.mono (by decide)) rfl (xaw_cons1 (xw_callP (ok_err T) (hr.mono (by decide)) rfl (xaw_cons (xw_ixC (xw_n (dl := [.non, dP p, .int 0, .str (Str.ofString "puzzle")]) (xn_lst (xa_cons x_non (xa_cons (xv 1) (xa_cons x_int (xa_one x_str)))) (by simp)) fun q0 hq0 => ⟨q0, rfl, xw_call (ok_draw T) (hr.mono (by decide)) rfl (xaw_a (xa_cons (xv 0) (xa_one x_int)) (eff_draw [2, 3] rfl (by decide) oq2 (by decide) (by decide) (by simp) (by simp [ldTp, locD, u1, u2]) ?_ ?_))⟩))))))))
  · rw [gTp_cons, g0 q2 _ t12]
    simp [cellTp]
  intro r q3 r0 r1 oq3
  obtain ⟨k, rfl⟩ : ∃ k : Nat, r = (k : Int) := ⟨r.toNat, by omega⟩
  have hk : k < 4 := by omega
  obtain ⟨pv, hpv, hno, htp⟩ : ∃ pv, [D.non, dP p, .int 0, .str (Str.ofString "puzzle")][k]? = some pv ∧ noPz pv ∧ tp pv = true := by
    match k, hk with
    | 0, _ => exact ⟨_, rfl, ⟨_, rfl, by simp⟩, rfl⟩
    | 1, _ => exact ⟨_, rfl, ⟨"tuple", rfl, by simp⟩, tp_dP⟩
    | 2, _ => exact ⟨_, rfl, ⟨_, rfl, by simp⟩, rfl⟩
    | 3, _ => exact ⟨_, rfl, ⟨_, rfl, by simp⟩, rfl⟩
  refine ⟨(k : Int), _, pv, rfl, List.mem_cons_self, atI_of rfl hpv, htp, xaw_a (xa_cons (xv 5) (xa_one (xv 6))) ⟨[], dErr none, ⟨none, .inl ⟨pv, d1, d2, rfl, hno, rfl⟩, rfl⟩, sub_nil, [dErr none], xa_one (XN.E (xn_lst (xa_cons x_str (xa_cons x_non (xa_one x_non))) (by simp))), [], .bl true, ⟨_, rfl, by decide +kernel, rfl⟩, sub_nil, true, rfl, (fun z => nomatch z), fun _ => xs_nil ?_⟩⟩
  refine xs_weak (G' := (y, pzC c p) :: (pl, .lst [.val (.ref sl), .int q3.i, .int q3.cc, .int q3.sd]) :: (sl, .lst (ns.map .int)) :: (N1 ++ N2)) ?_ rfl (fun _ _ z => z) (sub_tail (A := []))
  have m1 : ∀ x ∈ N1, x ∈ (y, pzC c p) :: (pl, .lst [.val (.ref sl), .int q3.i, .int q3.cc, .int q3.sd]) :: (sl, .lst (ns.map .int)) :: (N1 ++ N2) := fun x hx => List.mem_cons_of_mem _ (List.mem_cons_of_mem _ (List.mem_cons_of_mem _ (List.mem_append_left _ hx)))
  have m2 : ∀ x ∈ N2, x ∈ (y, pzC c p) :: (pl, .lst [.val (.ref sl), .int q3.i, .int q3.cc, .int q3.sd]) :: (sl, .lst (ns.map .int)) :: (N1 ++ N2) := fun x hx => List.mem_cons_of_mem _ (List.mem_cons_of_mem _ (List.mem_cons_of_mem _ (List.mem_append_right _ hx)))
  have pz : p.length ≤ 1000 := by omega
  refine xs_if0 (XT.to (t_not (t_val (xcl (d := .bl true) (ok_equal T 3) (hr.mono (by decide)) (dl := [.lst [dErr (some v1), dErr (some v1)], .lst [dErr (some v1), dErr (some v1)]]) (xa_cons (XN.E (xn_lst (xa_cons (xcl (ok_err T) (hr.mono (by decide)) (xa_cons (xv 4) (xa_cons (x_bad b1 m1 (xv 5)) (xa_one (x_bad b2 m2 (xv 6))))) ⟨some v1, .inr (.inl ⟨y, p, v1, v2, rfl, rfl, pz, b1.1.nv, b1.1.bad, rfl⟩), rfl⟩ (sub_one List.mem_cons_self)) (xa_one (xcl (ok_err T) (hr.mono (by decide)) (xa_cons (xv 4) (xa_cons (x_bad b1 m1 (xv 5)) (xa_one (x_bad b1 m1 (xv 5))))) ⟨some v1, .inr (.inl ⟨y, p, v1, v1, rfl, rfl, pz, b1.1.nv, b1.1.bad, rfl⟩), rfl⟩ (sub_one List.mem_cons_self)))) (by simp))) (xa_one (XN.E (xn_rep2 (xs := [dErr (some v1)]) (XN.E (xn_lst (xa_one (XN.E (xn_lst (xa_cons x_str (xa_one (x_bad b1 m1 (xv 5)))) (by simp)))) (by simp))) x_int (by simp))))) ⟨_, rfl, ?_, rfl⟩ sub_nil))) rfl) ?_
  · rw [eqd]
    simp [eqd_err b1.1.eq]
  refine xs_retW (xw_e (xcl (d := .bl true) (ok_equal T 2) (hr.mono (by decide)) (xa_cons (xcl (d := dErr (some v2)) (ok_err T) (hr.mono (by decide)) (xa_cons (xv 4) (xa_cons (xv 2) (xa_one (x_bad b2 m2 (xv 6))))) ⟨some v2, .inr (.inr ⟨y, p, s, v2, rfl, rfl, pz, hs, b2.1.nv, b2.1.bad, rfl⟩), rfl⟩ (sub_one List.mem_cons_self)) (xa_one (XN.E (xn_lst (xa_cons x_str (xa_one (x_bad b2 m2 (xv 6)))) (by simp))))) ⟨_, rfl, eqd_err b2.1.eq, rfl⟩ sub_nil) ?_)
  exact ⟨plG pl sl ns q3, sub_pick [1, 2] rfl (by decide), [], _, rfl, rfl, by simp, rfl, rfl, q3, oq3, rfl⟩
end
end RS
end TxtP30

section TxtP31
set_option Elab.async false
set_option linter.all false
set_option maxRecDepth 100000
set_option maxHeartbeats 1000000
namespace RS
open PySem PySem.Spec PyProof.Rows L2
abbrev nLaw : List Str := ["_law_script", "_law_pool", "_law_rings", "_law_one", "_law_other", "_law_puzzle", "_law_rules", "_law_links", "_law_ring", "_law_expected", "_law_rule", "_law_start", "_law_reached", "_law_length", "_law_again"]
theorem sc_law : FnScope nLaw ["_law_script"] (defScope (top 66)) := ⟨rfl, rfl, rfl, by decide +kernel, rfl, by decide +kernel, by decide +kernel⟩
/-- the law's promise: a list of ints comes, true goes -/
def spLaw (K : PySem.W.Frag) : Sp := fun vs H Q _ => ∃ (a : Addr) (ns : List Int), vs = [.ref a] ∧ SqL K H a (ns.map V.int) ∧ ∀ H', Q (.bl true) H'
section
variable {X : Cx} {ds : LD} {G : GG} {a b : Expr} {pos p : Pos}
theorem x_max1 {ns : List Int} {m : Int} (hm : X.mg "max" = none) (ha : XE X G ds a (.lst (ns.map .int))) (m1 : m ∈ ns) (m2 : ∀ n ∈ ns, n ≤ m) (hca : X.calm = true := by rfl) (hg : Gl X "max" := by rfl) (he : starEach [a] X.env = (false, eval a X.env) :: starEach [] X.env := by rfl) (hpl : (backTo pos (starEach [] X.env)).any (·.1) = false := by rfl) :
    XE X G ds (.Call (.Name "max" p) [a] [] pos) (.int m) := x_callB (cr_max hca) hg hm boot_max (xa_cons ha xa_nil he) (fun vs H Q _ r k => by
  obtain ⟨v, rfl, q⟩ := rpAll1 r
  rw [Rp] at q
  obtain ⟨t, us, rfl, h1, rr⟩ := q
  rw [rpAll_ints.mp rr] at h1
  refine ⟨t, ns, rfl, SqL.of h1, List.length_pos_of_mem m1, fun m' q1 q2 => ?_⟩
  have e : m' = m := Int.le_antisymm (m2 m' q1) (q2 m m1)
  rw [e]
  exact k _ H (Same.refl H) rp_int) (by decide) (by decide) he hpl
variable {H0 : Hp} {M : List Addr} {KB : Bool → GG → Prop} {p2 : Pos} {j : Nat}
theorem xv_notN (ha : XW X H0 M ds G a fun d G' => d = .non ∧ KB false G') : XV X H0 M ds G (.Compare a [.IsNot] [.Constant .none j p2] pos) KB := by
  intro σ H Q at0 kk
  refine twp (pt_cmp (pc_notN peS)) ?_
  refine ha σ H _ at0 fun d G1 x H1 k1 a1 t1 r1 => ?_
  obtain ⟨rfl, k⟩ := k1
  refine ⟨false, ?_, kk false G1 H1 k a1 t1⟩
  rw [Rp] at r1
  subst r1
  rfl
end
theorem eqd_dS {s : List Int} (hz : s.length ≤ 1000) : eqd 1 (dS s) = true := by
  unfold dS
  rw [eqd, Bool.and_eq_true]
  refine ⟨decide_eq_true (by rw [List.length_map]; exact hz), List.all_eq_true.mpr fun d hd => ?_⟩
  obtain ⟨x, _, rfl⟩ := List.mem_map.mp hd
  rfl
theorem sh_dPart {x : Part} : sh 1 (dPart x) = true := by
  have h1 : PyData.strOk (Str.ofString "rule") = true := by decide +kernel
  have h2 : PyData.strOk (Str.ofString "move") = true := by decide +kernel
  cases x <;> simp [dPart, sh, shAll, h1, h2]
theorem sh_dRec {x : Rec} : sh 3 (dRec x) = true := by
  unfold dRec
  have h1 : sh 2 (dS x.1.1) = true := by
    unfold dS; rw [sh]; exact shAll_map (fun _ => by rw [sh]) _
  have h2 : sh 2 (.tup (x.2.map dPart)) = true := by
    rw [sh]; exact shAll_map (fun _ => sh_dPart) _
  rw [sh, shAll, shAll, shAll, h1, h2]; rfl
theorem shp_dRecs {W : List Rec} : shp (.lst (W.map dRec)) = true := shp_of (n := 4) (by decide) (by rw [sh]; exact shAll_map (fun _ => sh_dRec) W)
theorem deq_recs {V : List Rec} {x : Rec} : deq (.lst ((V ++ [x]).map dRec)) (.lst []) = false := by
  cases V <;> rfl
theorem has_max : ∀ ns : List Int, ns ≠ [] → ∃ m ∈ ns, ∀ n ∈ ns, n ≤ m
  | [], h => absurd rfl h
  | [x], _ => ⟨x, List.mem_cons_self, fun n hn => by simp at hn; omega⟩
  | x :: y :: l, _ => by
    obtain ⟨m, h1, h2⟩ := has_max (y :: l) (by simp)
    by_cases h : x ≤ m
    · exact ⟨m, List.mem_cons_of_mem _ h1, fun n hn => by
        rcases List.mem_cons.mp hn with rfl | hn
        · exact h
        · exact h2 n hn⟩
    · exact ⟨x, List.mem_cons_self, fun n hn => by
        rcases List.mem_cons.mp hn with rfl | hn
        · exact Int.le_refl _
        · have := h2 n hn; omega⟩
theorem pats_sum : ∀ p : Pz, ((pats p).length : Int) = (p.map fun r => (r.length : Int)).sum
  | [] => rfl
  | r :: p => by
    have := pats_sum p
    unfold pats at *
    rw [List.flatMap_cons, List.length_append, List.length_map, List.map_cons, List.sum_cons, ← this]
    push_cast
    rfl
section
variable {P : Program} {w : World} {K : PySem.W.Frag} {mg : Str → Option Value} {base : Heap} {c : Ads}
/-- what is left of the law after its first statement -/
theorem law_rest (T : Env K mg c) {f : Addr} {cdv : Value} {A : Around} {outer : List PySem.Env} {s0 : Shared} {H : Hp} {E0 : XK} (hr : Room 20 (A.deeper (envOfC "law" (defScope (top 66)) s0.heap.objs.size f cdv))) {pl sl : Addr} {ns : List Int} {q : Pl} (oq : okPl q) (hpl : H pl = none) (hsl : H sl = none) :
    XSs (bx P w K mg base nLaw "law" (top 66) f cdv A outer s0 H E0) H [] ((locD nLaw []).set 1 (some (.val (.ref pl)))) (plG pl sl ns q) ((defBody (top 66)).drop 1) ⟨fun _ _ => False, fun d _ => d = .bl true, fun _ _ => False, fun _ _ => False⟩ := by
  refine xs_asg 2 sc_law.nd (xw_call (ok_rings T) (hr.mono (by decide)) rfl (xaw_a (xa_cons (xv 1) (xa_cons x_int (xa_one x_int))) ⟨[0, 1], _, _, rfl, by decide, by simp [hpl, hsl], by simp [ldTp, locD], plG_tp, ⟨pl, sl, ns, q, rfl, rfl, oq, rfl⟩, ?_⟩))
  rintro d N G' ⟨p, q1, rfl, p1, p7, gp, rfl, oq1, rfl⟩ _ _
  have z : okZ p := gp_okZ p1 p7 gp
  have r7 := gp.r7
  refine xs_asg 3 sc_law.nd (xw_call (ok_pos T) (hr.mono (by decide)) rfl (xaw_a (xa_cons (xv 1) (xa_one (xv 2))) (eff_pos [0, 1] rfl (by decide) oq1 p7 r7 ⟨.inr hpl, .inr hsl⟩ (by simp [ldTp, locD]) plG_tp ?_)))
  intro s q2 hs oq2
  refine xs_asg 4 sc_law.nd (xw_call (ok_pos T) (hr.mono (by decide)) rfl (xaw_a (xa_cons (xv 1) (xa_one (xv 2))) (eff_pos [0, 1] rfl (by decide) oq2 p7 r7 ⟨.inr hpl, .inr hsl⟩ (by simp [ldTp, locD]) plG_tp ?_)))
  intro e q3 he oq3
  refine xs_asg 5 sc_law.nd (xw_make (ok_Pz T) (hr.mono (by decide)) rfl (xaw_a (xa_one (xv 2)) ⟨[], [], rfl, List.nodup_nil, by simp, by simp [ldTp, locD], plG_tp, fun y hy => ⟨_, ⟨y, p, rfl, rfl, z.1, rfl⟩, ?_⟩⟩))
  rintro d N G' ⟨rfl, rfl, rfl⟩
  refine ⟨rfl, _, [], rfl, fun _ _ => ?_⟩
  refine xs_if (xv_not (xv_val (xw_call (ok_agree T) (hr.mono (by decide)) rfl (xaw_a (xa_cons (xv 1) (xa_cons (xv 2) (xa_cons (xv 3) (xa_one (xv 4))))) ⟨[1, 2], _, _, rfl, by decide, by simp [hpl, hsl], by simp [ldTp, locD], ?_, ⟨pl, sl, ns, q3, p, s, e, rfl, rfl, oq3, z.1, p1, p7, r7, hs, he, rfl⟩, ?_⟩))))
  · show gTp ((y, pzC c p) :: plG pl sl ns q3) = true
    rw [gTp_cons, plG_tp]
    simp [cellTp]
  rintro d N G' ⟨rfl, rfl, q4, oq4, rfl⟩ _ _
  refine ⟨true, rfl, (fun z => nomatch z), fun _ => xs_nil ?_⟩
  refine xs_weak (G' := [(y, pzC c p)]) ?_ rfl (fun _ _ z => z) (sub_pick [0] rfl (by decide))
  refine xs_asg 6 sc_law.nd (xw_call (ok_path_rules T) hr rfl (xaw_a (xa_cons (xv 5) (xa_cons (xv 3) (xa_one (xv 4)))) ⟨[0], _, _, rfl, by decide, by simp [hy], by simp [ldTp, locD], by simp [cellTp, gTp], ⟨y, p, s, e, rfl, rfl, z, hs, he, rfl⟩, ?_⟩))
  rintro d N G' ⟨ru, W, rfl, rfl, rfl, ro⟩ _ hN
  have hru : H ru = none := hN _ List.mem_cons_self
  refine xs_weak (G' := prG c y ru p W) ?_ rfl (fun _ _ z => z) (sub_pick [1, 0] rfl (by decide))
  have hu := hr.units
  by_cases hse : s = e
  · have hW := ro.emp hse
    subst hW
    refine xs_if0 (XTw.T (t_or (c := false) (XT.to (t_not (t_val (x_isi (c := true) T.isinstance (x_cell (xv 6) (List.mem_cons_of_mem _ List.mem_cons_self)) (xty "list" T.list) rfl rfl))) rfl) fun _ => t_or1 (XT.to (t_ne hu (x_eq hu (x_cell (xv 6) (List.mem_cons_of_mem _ List.mem_cons_self)) (XN.E (xn_lst xa_nil (by simp))) rfl rfl) (x_eq hu (xv 3) (xv 4) shp_dS shp_dS) rfl rfl) ?_))) ?_
    · rw [deq_dS, decide_eq_true hse]; rfl
    refine xs_if1 (XT.to (t_eq hu (x_cell (xv 6) (List.mem_cons_of_mem _ List.mem_cons_self)) (XN.E (xn_lst xa_nil (by simp))) rfl rfl) rfl) ?_
    exact xs_ret (xw_e x_bl rfl)
  · obtain ⟨V, ps, hW⟩ := ro.top hse
    have mR : (ru, Cell.lst (W.map dRec)) ∈ prG c y ru p W := List.mem_cons_of_mem _ List.mem_cons_self
    have hne : W ≠ [] := by rw [hW]; simp
    have lne : (W.map dRec).length ≠ ([] : List D).length := by simpa using hne
    have wi := ro.inv
    refine xs_if0 (XTw.T (t_or (c := false) (XT.to (t_not (t_val (x_isi (c := true) T.isinstance (x_cell (xv 6) mR) (xty "list" T.list) rfl rfl))) rfl) fun _ => t_or1 (XT.to (t_ne hu (x_eqLen hu (x_cell (xv 6) mR) (XN.E (xn_lst xa_nil (by simp))) lne) (x_eq hu (xv 3) (xv 4) shp_dS shp_dS) rfl rfl) ?_))) ?_
    · rw [deq_dS, decide_eq_false hse]; rfl
    refine xs_if0 (t_eqLen hu (x_cell (xv 6) mR) (XN.E (xn_lst xa_nil (by simp))) lne) ?_
    refine xs_asg 7 sc_law.nd (xw_e (d := .int ((pats p).length : Int)) (XE.to (x_sum (ns := p.map fun r => (r.length : Int)) T.sum boot_sum (XN.E (xn_lc (dl := p.map dR) (rl := (p.map fun r => (r.length : Int)).map D.int) (own := [("_law_ring", 8)]) sc_law.nd (XI.ex (xi_tup (xv 2) (tpAll_map (fun _ => tp_dR) p))) (blk nLaw (top 66) (by decide +kernel)) (by simp) (by simp; omega) tpAll_ints ?_))) (by rw [pats_sum])) ?_)
    · intro k d rr hd hrr
      obtain ⟨r, hr1, rfl⟩ := map_get hd
      rw [List.map_map] at hrr
      obtain ⟨r', hr2, rfl⟩ := map_get hrr
      rw [hr1] at hr2
      cases hr2
      refine ⟨_, _, ?_, fun s' H' C cl fp => ⟨xgn 8 sc_law.nd, ?_⟩⟩
      · simp
      · exact XE.to (x_lenT T.len (xv 8)) (by rw [List.length_map]; rfl)
    have hp21 := pats_len z.1
    refine xs_if0 (XT.to (t_gt (x_lenL T.len (x_cell (xv 6) mR)) (x_mul (x_add (xv 7) x_int) (x_add (xv 7) x_int) ?_)) ?_) ?_
    · left; omega
    · have h1 := wi.len
      rw [decide_eq_false_iff_not, List.length_map]
      have h2 : ((pats p).length + 1) * ((pats p).length + 1) ≤ ((pats p).length + 1) * ((pats p).length + 2) := Nat.mul_le_mul_left _ (by omega)
      have h3 : (W.length : Int) ≤ (((pats p).length : Int) + 1) * (((pats p).length : Int) + 2) := by
        have h4 := Int.ofNat_le.mpr (Nat.le_trans h1 h2)
        push_cast at h4
        exact h4
      exact Int.not_lt.mpr h3
    refine xs_asg 9 sc_law.nd (xw_n (xn_call (rl := W.map (dChk p)) (ok_lcheck T) (hr.mono (by decide)) rfl (xa_cons (xv 2) (xa_one (xv 6))) ⟨ru, p, s, e, W, rfl, rfl, z, wi, rfl⟩ (sub_one mR)) fun ex hex => ?_)
    have mE : (ex, Cell.lst (W.map (dChk p))) ∈ (ex, Cell.lst (W.map (dChk p))) :: prG c y ru p W := List.mem_cons_self
    have mR2 : (ru, Cell.lst (W.map dRec)) ∈ (ex, Cell.lst (W.map (dChk p))) :: prG c y ru p W := List.mem_cons_of_mem _ mR
    have wl := wi.len' z.1
    obtain ⟨m, t⟩ := trim_sp p s.length s e rfl (by rw [he.st.1, hs.st.1])
    rw [t.tr] at hW
    have hm : (s.take m).length = m := by rw [List.length_take]; have := t.le; omega
    obtain ⟨x0, hx0⟩ : ∃ x0, W[0]? = some x0 := ⟨_, List.getElem?_eq_getElem (List.length_pos_iff.mpr hne)⟩
    obtain ⟨mx, mx1, mx2⟩ := has_max (W.map fun x => (x.2.length : Int)) (by simpa using hne)
    refine xs_if0 (XTw.T (t_or (c := false) (XT.to (t_not (t_val (x_isi (c := true) T.isinstance (x_ixL (d := dChk p x0) (x_cell (xv 9) mE) x_int (atI_of (k := 0) rfl (by rw [List.getElem?_map, hx0]; rfl))) (xty "tuple" T.tuple) rfl rfl))) rfl) fun _ => t_or1 (XT.to (t_gt (x_max1 (ns := W.map fun x => (x.2.length : Int)) T.max (XN.E (xn_lc (dl := W.map dRec) (rl := (W.map fun x => (x.2.length : Int)).map D.int) (own := [("_law_rule", 10)]) sc_law.nd (xi_lst (x_cell (xv 6) mR2)) (blk nLaw (top 66) (by decide +kernel)) (by simp) (by simp; omega) tpAll_ints ?_)) mx1 mx2) x_int) ?_))) ?_
    · intro k d rr hd hrr
      obtain ⟨r, hr1, rfl⟩ := map_get hd
      rw [List.map_map] at hrr
      obtain ⟨r', hr2, rfl⟩ := map_get hrr
      rw [hr1] at hr2
      cases hr2
      refine ⟨_, _, ?_, fun s' H' C cl fp => ⟨xgn 10 sc_law.nd, ?_⟩⟩
      · simp
      · exact XE.to (x_lenT T.len (x_ixT (d := .tup (r.2.map dPart)) (xv 10) x_int (atI_of (k := 1) rfl rfl))) (by rw [List.length_map]; rfl)
    · obtain ⟨x, hx, rfl⟩ := List.mem_map.mp mx1
      obtain ⟨i, hi⟩ := List.mem_iff_getElem?.mp hx
      have := (wi.rc i x hi).p7
      rw [decide_eq_false_iff_not]
      omega
    refine xs_tgt (xw_e (x_ixL (d := dChk p ((s.take m, e.take m), ps)) (x_cell (xv 9) mE) (x_neg x_int) (atI_last (by rw [hW, List.getLast?_map, List.getLast?_concat]; rfl))) ⟨_, _, xg_tup (xgs_cons (xgn 11 sc_law.nd) (xgs_cons (xgn 12 sc_law.nd) (xgs_cons (xgn 13 sc_law.nd) xgs_nil))) rfl, ?_⟩)
    have hj : e.take m ++ s.drop m = e := by rw [t.dr, List.take_append_drop]
    have hlen7 : s.length ≤ 7 := by rw [hs.st.1]; exact p7
    have hlene : e.length ≤ 7 := by rw [he.st.1]; exact p7
    have hlm : ((((s.take m).map D.int).length : Nat) : Int) = (m : Int) := by rw [List.length_map, hm]
    refine xs_if0 (XTw.T (t_or (c := false) (XT.to (t_neS hu (xv 11) (x_to (k := m) (xv 3) (x_lenT T.len (xv 11)) hlm)) (by simp)) fun _ => t_or (c := false) (XT.to (t_neS hu (x_catS (s := e.take m) (xv 12) (x_from (k := m) (xv 3) (x_lenT T.len (xv 11)) hlm) (by rw [List.length_take, List.length_drop]; omega)) (xv 4)) (by rw [hj]; simp)) fun _ => t_or1 (XT.to (t_not (t_val (xcl (d := .bl true) (ok_lisr T) (hr.mono (by decide)) (xa_one (xv 6)) ⟨ru, p, s, e, W, rfl, rfl, z, wi, hne, rfl⟩ (sub_one mR2)))) rfl))) ?_
    refine xs_weak (G' := prG c y ru p W) ?_ rfl (fun _ _ z => z) (sub_tail (A := []))
    have hy' : (y ∈ ([] : List Addr) ∨ H y = none) := .inr hy
    have hL : ((mvs p (s.take m).length (s.take m) (e.take m)).length : Int) = dist p s.length s e := by rw [hm, ← mvs_len, t.mv]
    refine xs_if (XVw.V (xv_or (xv_not (xv_val (xw_callP (ok_equal T 0) (hr.mono (by decide)) rfl (xaw_cons1 (xw_meth0 (ok_len T) (hr.mono (by decide)) T.Pa.cls (xw_make (ok_Pa T) (hr.mono (by decide)) rfl (xaw_a (xa_cons (xv 5) (xa_cons (xv 3) (xa_one (xv 4)))) ⟨[0], [(y, pzC c p)], rfl, by decide, by simp [hy], by simp [ldTp, locD], prG_tp, fun pa hpa => ⟨_, ⟨pa, y, p, s, e, rfl, rfl, by omega, hs, he, rfl⟩, ?_⟩⟩)))))))))
    · rintro d N G' ⟨rfl, di, q', rfl, rfl⟩
      refine ⟨rfl, _, [(y, pzC c p)], rfl, fun _ hN2 => ?_⟩
      refine ⟨pa, _, rfl, List.mem_cons_of_mem _ (List.mem_cons_of_mem _ List.mem_cons_self), rfl, [2, 1, 0], _, _, rfl, by decide, ?_, by simp [ldTp, locD], ?_, ⟨pa, y, p, s, e, di, q', rfl, rfl, z, hs, he, rfl⟩, ?_⟩
      · intro x hx
        simp at hx
        rcases hx with rfl | rfl | rfl
        · exact .inr hpa
        · exact .inr (hN2 _ (List.mem_cons_of_mem _ List.mem_cons_self))
        · exact .inr (hN2 _ List.mem_cons_self)
      · show gTp ((q', .dn []) :: (di, diC c p q') :: (pa, paC c y di s e) :: prG c y ru p W) = true
        rw [gTp_cons, gTp_cons, gTp_cons, prG_tp]
        simp [cellTp]
      rintro d N G' ⟨rfl, rfl, kvs, hkv, rfl⟩ _ _
      refine ⟨[.int (dist p s.length s e)], xa_one (XE.to (xv 13) (congrArg D.int hL)), [], .bl true, ⟨_, rfl, rfl, rfl⟩, sub_nil, true, rfl, (fun z => nomatch z), fun _ => xv_or1 (xv_notN (xw_call (ok_check T) (hr.mono (by decide)) rfl (xaw_a (xa_cons (xv 5) (xa_one (xv 6))) ⟨[3, 4], _, _, rfl, by decide, by simp [hy, hru], by simp [ldTp, locD], ?_, ⟨y, ru, p, s, e, W, rfl, rfl, z, wi, rfl⟩, ?_⟩)))⟩
      · show gTp ((q', .dn kvs) :: (di, diC c p q') :: (pa, paC c y di s e) :: prG c y ru p W) = true
        rw [gTp_cons, gTp_cons, gTp_cons, prG_tp]
        simp [cellTp, hkv]
      rintro d N G' ⟨rfl, rfl, rfl⟩ _ _
      refine ⟨rfl, (fun z => nomatch z), fun _ => xs_nil ?_⟩
      refine xs_weak (G' := prG c y ru p W) ?_ rfl (fun _ _ z => z) (sub_pick [3, 4] rfl (by decide))
      subst hW
      have hd : e.take m ++ s.drop (s.take m).length = e := by rw [hm]; exact hj
      have hq : eqd 2 (.tup [dS e, .int ((mvs p (s.take m).length (s.take m) (e.take m)).length : Nat)]) = true := by
        rw [eqd]
        simp [eqd_dS (s := e) (by omega), eqd]
      refine xs_if (xv_not (xv_val (xw_callP (ok_equal T 2) (hr.mono (by decide)) rfl (xaw_cons1 (xw_call (ok_follow T) (hr.mono (by decide)) rfl (xaw_a (xa_cons (xv 5) (xa_cons (xv 6) (xa_one (xv 3)))) ⟨[0, 1], _, _, rfl, by decide, by simp [hy, hru], by simp [ldTp, locD], prG_tp, ⟨y, ru, p, s, e, V, _, s, rfl, rfl, z, wi, hs, by show s.take (s.take m).length = s.take m; rw [hm], rfl⟩, ?_⟩))))))
      rintro d N G' ⟨rfl, rfl, rfl⟩ _ _
      refine ⟨[.tup [dS e, .int ((mvs p (s.take m).length (s.take m) (e.take m)).length : Nat)]], xa_one (x_tup (xa_cons (xv 4) (xa_one (xv 13))) (by simp)), [], .bl true, ⟨_, by rw [hd], hq, rfl⟩, sub_nil, true, rfl, (fun z => nomatch z), fun _ => xs_nil ?_⟩
      refine xs_if (xv_not (xv_val (xw_callP (ok_equal T 0) (hr.mono (by decide)) rfl (xaw_cons1 (xw_call (ok_isr T) (hr.mono (by decide)) rfl (xaw_a (xa_cons (xv 5) (xa_one (xv 6))) ⟨[0, 1], _, _, rfl, by decide, by simp [hy, hru], by simp [ldTp, locD], prG_tp, ⟨y, ru, p, s, e, V, _, rfl, rfl, z, wi, rfl⟩, ?_⟩))))))
      rintro d N G' ⟨rfl, rfl, rfl⟩ _ _
      refine ⟨[.bl true], xa_one x_bl, [], .bl true, ⟨_, rfl, rfl, rfl⟩, sub_nil, true, rfl, (fun z => nomatch z), fun _ => xs_nil ?_⟩
      refine xs_expr (xw_clear (j := 1) (xv 6) rfl prG_tp ?_ (.inr hru) (by simp [ldTp, locD]))
      refine xs_weak (G' := [(y, pzC c p)]) ?_ rfl (fun _ _ z => z) (sub_pick [0] rfl (by decide))
      refine xs_asg 14 sc_law.nd (xw_call (ok_path_rules T) hr rfl (xaw_a (xa_cons (xv 5) (xa_cons (xv 3) (xa_one (xv 4)))) ⟨[0], _, _, rfl, by decide, by simp [hy], by simp [ldTp, locD], by simp [cellTp, gTp], ⟨y, p, s, e, rfl, rfl, z, hs, he, rfl⟩, ?_⟩))
      rintro d N G' ⟨ra, W2, rfl, rfl, rfl, ro2⟩ _ hN3
      obtain ⟨V2, ps2, hW2⟩ := ro2.top hse
      rw [t.tr] at hW2
      subst hW2
      have hra : H ra = none := hN3 _ List.mem_cons_self
      have mA : (ra, Cell.lst ((V2 ++ [((s.take m, e.take m), ps2)]).map dRec)) ∈ prG c y ra p (V2 ++ [((s.take m, e.take m), ps2)]) := List.mem_cons_of_mem _ List.mem_cons_self
      refine xs_weak (G' := prG c y ra p (V2 ++ [((s.take m, e.take m), ps2)])) ?_ rfl (fun _ _ z => z) (sub_pick [1, 0] rfl (by decide))
      refine xs_ret (xw_and (xw_e (x_isi (c := true) T.isinstance (x_cell (xv 14) mA) (xty "list" T.list) rfl rfl) ⟨true, rfl, (fun z => nomatch z), fun _ => xw_and (xw_e (d := .bl true) ?_ ⟨true, rfl, (fun z => nomatch z), fun _ => xw_one (xw_callP (ok_equal T 2) (hr.mono (by decide)) rfl (xaw_cons1 (xw_call (ok_follow T) (hr.mono (by decide)) rfl (xaw_a (xa_cons (xv 5) (xa_cons (xv 14) (xa_one (xv 3)))) ⟨[0, 1], _, _, rfl, by decide, by simp [hy, hra], by simp [ldTp, locD], prG_tp, ⟨y, ra, p, s, e, V2, _, s, rfl, rfl, z, ro2.inv, hs, by show s.take (s.take m).length = s.take m; rw [hm], rfl⟩, ?_⟩))))⟩)⟩))
      · exact XE.to (x_ne hu (x_cell (xv 14) mA) (XN.E (xn_lst xa_nil (by simp))) shp_dRecs rfl) (by rw [deq_recs]; rfl)
      rintro d N G' ⟨rfl, rfl, rfl⟩ _ _
      exact ⟨[.tup [dS e, .int ((mvs p (s.take m).length (s.take m) (e.take m)).length : Nat)]], xa_one (x_tup (xa_cons (xv 4) (xa_one (xv 13))) (by simp)), [], .bl true, ⟨_, by rw [hd], hq, rfl⟩, sub_nil, rfl⟩
end
end RS
end TxtP31

section TxtP32
set_option Elab.async false
set_option linter.all false
set_option maxRecDepth 100000
set_option maxHeartbeats 1000000
namespace RS
open PySem PySem.Spec PyProof.Rows L2
section
variable {P : Program} {w : World} {K : PySem.W.Frag} {mg : Str → Option Value} {base : Heap} {c : Ads}
theorem ok_law (T : Env K mg c) {f : Addr} {fd : FuncData} (F : Fun K "law" "law" (top 66) f fd) : FnOk P w K mg base CX0 21 f fd ["_law_script"] (spLaw K) := by
  refine F.ok sc_law (fun vs H Q E hs => by obtain ⟨a, ns, rfl, _⟩ := hs; rfl) (fun cdv A outer s H vs Q E hr hs => ?_)
  obtain ⟨a, ns, rfl, hS, kk⟩ := hs
  refine ⟨_, pssS, ?_⟩
  refine sswp (pss_cons (ps_set (X := bx P w K mg base nLaw "law" (top 66) f cdv A outer s H E) (i := 1) sc_law.nd rfl (Or.inl rfl) (pe_lst (pa_cons (pe_callTy call_list_of (by rfl) T.list boot_list (pa_cons (pv 0) pa_nil)) (pa_cons pe_int (pa_cons pe_int (pa_cons pe_int pa_nil)))))) pssS) ?_
  refine ⟨.ref a, rfl, a, ns.map V.int, rfl, .inl hS, fun sl hsl => ?_⟩
  refine ⟨by rw [sizeLine_eq]; simp, fun pl hpl => ?_⟩
  have e1 : Ex H (upd H sl (.lst (ns.map V.int))) := Ex.new hsl
  have e2 : Ex (upd H sl (.lst (ns.map V.int))) (upd (upd H sl (.lst (ns.map V.int))) pl (.lst [.ref sl, .int 0, .int 0, .int 1])) := Ex.new hpl
  have hpl0 : H pl = none := Same.free e1 hpl
  have hne : pl ≠ sl := fun z => by rw [z, upd_same] at hpl; cases hpl
  have lo0 := (loc_start (N := nLaw) (H := H) (dl := [.val (.ref a)]) (vs := [.ref a]) (.cons rp_val .nil))
  have lo1 := (lo0.weak (ds' := locD nLaw []) rfl (fun i d z => by
    match i, z with
    | 0, z => cases z
    | i + 1, z => exact z)).set (i := 1) (d := .val (.ref pl)) (v := .ref pl) rp_val
  have at0 : At P w H [] ((locD nLaw []).set 1 (some (.val (.ref pl)))) [] ((L2.start nLaw [.ref a]).set 1 (some (.ref pl))) H := ⟨lo1, ⟨List.nodup_nil, fun _ z => nomatch z⟩, Fr.refl⟩
  have at1 := (at0.new (p := sl) (c := .lst (ns.map D.int)) e1 hsl ⟨_, upd_same, rpAll_ints.mpr rfl⟩).new (p := pl) (c := .lst [.val (.ref sl), .int 0, .int 0, .int 1]) e2 hpl ⟨_, upd_same, .cons rp_val (.cons rp_int (.cons rp_int (.cons rp_int .nil)))⟩
  refine law_rest T hr (pl := pl) (sl := sl) (ns := ns) (q := ⟨0, 0, 1⟩) ⟨by decide, by decide, by decide, by decide⟩ hpl0 hsl _ _ _ at1 ?_
  exact ⟨fun _ _ _ _ z => z.elim, fun d G' v H' k r s f => by subst k; rw [rp_b r]; exact kk H', fun _ _ _ _ z => z.elim, fun _ _ _ _ z => z.elim⟩
end
end RS
end TxtP32

section TxtH1
set_option Elab.async false
set_option linter.all false
set_option maxRecDepth 100000
set_option maxHeartbeats 0
/-! Env from the head's facts (printed by h1.py) -/
namespace RS
open PySem PySem.Spec PyProof.Rows L2 He RSH
/-! ### facts beyond the kit's -/
section
variable {K : PySem.W.Frag} {C B : Addr}
theorem oex_ok (h : oexB K C = true) : OexC K C := by
  unfold oexB at h
  obtain ⟨h1, h⟩ := ba h
  obtain ⟨h2, h⟩ := ba h
  obtain ⟨h3, h⟩ := ba h
  obtain ⟨h4, h5⟩ := ba h
  refine ⟨?_, eqO_ok h2, of_decide_eq_true h3, of_decide_eq_true h4, h5⟩
  split at h1
  · rename_i t dd cd sl ho
    obtain ⟨g1, h1⟩ := ba h1
    split at h1
    · rename_i D bm k0 k1 k2 k3 n k5 hm hs
      obtain ⟨g2, h1⟩ := ba h1
      obtain ⟨g3, h1⟩ := ba h1
      obtain ⟨g4, h1⟩ := ba h1
      obtain ⟨g5, g6⟩ := ba h1
      obtain ⟨nm, bs, mro, ns, qn, hd, sn, sub, ab, col, del⟩ := cd
      have g1 := of_decide_eq_true g1
      have g2 := of_decide_eq_true g2
      have g3 := of_decide_eq_true g3
      dsimp only at hm g4 g5
      have hsl : sl = #[k0, k1, k2, k3, some (.builtin n), k5] := by
        obtain ⟨l⟩ := sl
        simp only at hs
        rw [hs]
      have g4 : del = false := by
        cases del with
        | false => rfl
        | true => cases g4
      subst hm hsl g1 g2 g3 g4 g5
      exact ⟨nm, qn, ns, bs, bm, sn, sub, ab, col, dd, k0, k1, k2, k3, k5, ho, g6⟩
    · cases h1
  · cases h1
theorem base_ok (h : baseB K B = true) : BaseI K B := by
  unfold baseB at h
  obtain ⟨h1, h⟩ := ba h
  obtain ⟨h2, h3⟩ := ba h
  refine ⟨h1, eqO_ok h2, ?_⟩
  split at h3
  · rename_i v q
    rw [q, of_decide_eq_true h3]
  · cases h3
theorem tyi_ok (h : tyiB K C = true) : TyI K C := by
  unfold tyiB at h
  obtain ⟨h1, h⟩ := ba h
  obtain ⟨h2, h⟩ := ba h
  obtain ⟨h3, h4⟩ := ba h
  exact ⟨eqO_ok h1, eqO_ok h2, of_decide_eq_true h3, of_decide_eq_true h4⟩
theorem kit_ok (h : hkitB K C = true) : ∀ t ∈ ["NoneType", "tuple", "int", "str"], PySem.W.kitOne K (.type t) (.ref C) = some false := fun t ht => of_decide_eq_true (List.all_eq_true.mp h t ht)
theorem bb {a b : Bool} (h : (a && b) = true) : a = true ∧ b = true := Bool.and_eq_true_iff.mp h
end
theorem ex_ok {K : PySem.W.Frag} (h : exB K = true) : baseB K (ga K "RingError") = true ∧ excB K (ga K "InvalidPuzzle") (ma K (ga K "InvalidPuzzle") "__init__") = true ∧ excB K (ga K "InvalidState") (ma K (ga K "InvalidState") "__init__") = true ∧ tyiB K (ga K "Puzzle") = true ∧ hkitB K (ga K "Puzzle") = true := by
  obtain ⟨h1, h⟩ := bb h
  obtain ⟨h2, h⟩ := bb h
  obtain ⟨h3, h⟩ := bb h
  obtain ⟨h4, h5⟩ := bb h
  exact ⟨h1, h2, h3, h4, h5⟩
/-! ### the parts of Env -/
section
variable {K : PySem.W.Frag} {h : Heap} {mg : Str → Option Value} {x q m : Str} {st : Stmt} {ps : List Str}
abbrev At4 (K : PySem.W.Frag) (p : Str × Option Str) (x q : Str) (st : Stmt) : Prop := ∃ oc od osl kV doc pm an cdv ct, K.lookup (fAd K p) = some ⟨oc, od, .func (PySem.W.fnOf x q (defArgs st) (defBody st) (defScope st) .none kV doc pm an cdv ct), osl⟩ ∧ PySem.W.codeIn K cdv q = true
abbrev Bd (x q : Str) (st : Stmt) (ps : List Str) : Prop := ∀ (kV doc pm : Value) (an : Option Addr) (cdv ct : Value) (us : List Value), us.length = ps.length → bindArgs (PySem.W.fnOf x q (defArgs st) (defBody st) (defScope st) .none kV doc pm an cdv ct) ⟨us, []⟩ = pure (ps.zip us)
theorem funAt (X : K.In h) (G : h.Ns mainGlobals mg) (g : (Fa.glo x).ok K = true) (k : (Fa.keep x).ok K = true) (d : At4 K (x, none) x x st) (b : Bd x x st ps) : FunAt K mg x st ps := by
  obtain ⟨oc, od, osl, kV, doc, pm, an, cdv, ct, l, cd⟩ := d
  have F := fun_mk (st := st) l cd (keep_ok k)
  exact ⟨_, _, F, glo_ok X G g, F.binds b⟩
theorem meAt (k : (Fa.meth x m).ok K = true) (d : At4 K (x, some m) m q st) (b : Bd m q st ps) : MeAt K (ga K x) m q st ps := by
  obtain ⟨oc, od, osl, kV, doc, pm, an, cdv, ct, l, cd⟩ := d
  have M := meth_ok k
  have F := fun_mk (st := st) l cd M.kp
  exact ⟨_, _, F, M, F.binds b⟩
theorem mkAt (X : K.In h) (G : h.Ns mainGlobals mg) (g : (Fa.glo x).ok K = true) (k : (Fa.mkr x).ok K = true) (cl : (Fa.cls x).ok K = true) (me : (Fa.meth x "__init__").ok K = true) (d : At4 K (x, some "__init__") "__init__" q st) (b : Bd "__init__" q st ps) : MkAt K mg x (ga K x) q st ps := by
  obtain ⟨oc, od, osl, kV, doc, pm, an, cdv, ct, l, cd⟩ := d
  have F := fun_mk (st := st) l cd (meth_ok me).kp
  exact ⟨⟨_, _, F, mkr_ok k, glo_ok X G g, F.binds b⟩, cls_ok cl⟩
theorem exAt (X : K.In h) (G : h.Ns mainGlobals mg) (g : (Fa.glo x).ok K = true) (me : (Fa.meth x "__init__").ok K = true) (d : At4 K (x, some "__init__") "__init__" q st) (b : Bd "__init__" q st ps) (e : excB K (ga K x) (ma K (ga K x) "__init__") = true) : ExAt K mg x (ga K x) q st ps := by
  obtain ⟨oc, od, osl, kV, doc, pm, an, cdv, ct, l, cd⟩ := d
  obtain ⟨e1, e⟩ := bb e
  obtain ⟨e2, e3⟩ := bb e
  have F := fun_mk (st := st) l cd (meth_ok me).kp
  exact ⟨⟨_, _, F, (meth_ok me).at_, of_decide_eq_true e3, F.binds b⟩, glo_ok X G g, oex_ok e1, xfB_ok e2⟩
end
def adsOf (K : PySem.W.Frag) : Ads := ⟨ga K "Puzzle", ga K "Distances", ga K "RuleEffect", ga K "RuleWriter", ga K "Path", ga K "RingError", ga K "InvalidPuzzle", ga K "InvalidState"⟩
theorem env_of {K : PySem.W.Frag} {h : Heap} {mg : Str → Option Value} (X : K.In h) (G : h.Ns mainGlobals mg) (c : SaysE fa fn K) (e0 : exB K = true) : Env K mg (adsOf K) := by
  have e := ex_ok e0
  exact {
    isinstance := free_ok X G (c.fact 0),
    int := free_ok X G (c.fact 1),
    bool := free_ok X G (c.fact 2),
    tuple := free_ok X G (c.fact 3),
    str := free_ok X G (c.fact 4),
    list := free_ok X G (c.fact 5),
    len := free_ok X G (c.fact 6),
    all := free_ok X G (c.fact 7),
    zip := free_ok X G (c.fact 8),
    enumerate := free_ok X G (c.fact 9),
    min := free_ok X G (c.fact 10),
    max := free_ok X G (c.fact 11),
    sum := free_ok X G (c.fact 12),
    sorted := free_ok X G (c.fact 13),
    range := free_ok X G (c.fact 14),
    MAX_RINGS := int_ok X G (c.fact 15),
    MAX_LINKS_PER_RING := int_ok X G (c.fact 16),
    MAX_LINKS := int_ok X G (c.fact 17),
    MAX_RULES := int_ok X G (c.fact 18),
    MAX_PARTS := int_ok X G (c.fact 19),
    MAX_DEPTH := int_ok X G (c.fact 20),
    MAX_MOVES := int_ok X G (c.fact 21),
    is_integer := funAt X G (c.fact 22) (c.fact 23) (c.def_ 0) (fun _ _ _ _ _ _ us hl => match us, hl with | [_], _ => rfl),
    is_index := funAt X G (c.fact 24) (c.fact 25) (c.def_ 1) (fun _ _ _ _ _ _ us hl => match us, hl with | [_, _], _ => rfl),
    are_positions := funAt X G (c.fact 26) (c.fact 27) (c.def_ 2) (fun _ _ _ _ _ _ us hl => match us, hl with | [_, _], _ => rfl),
    is_link := funAt X G (c.fact 28) (c.fact 29) (c.def_ 3) (fun _ _ _ _ _ _ us hl => match us, hl with | [_, _, _], _ => rfl),
    is_connected := funAt X G (c.fact 30) (c.fact 31) (c.def_ 4) (fun _ _ _ _ _ _ us hl => match us, hl with | [_], _ => rfl),
    first_invalid_link := funAt X G (c.fact 32) (c.fact 33) (c.def_ 5) (fun _ _ _ _ _ _ us hl => match us, hl with | [_, _], _ => rfl),
    is_link_tuple := funAt X G (c.fact 34) (c.fact 35) (c.def_ 6) (fun _ _ _ _ _ _ us hl => match us, hl with | [_], _ => rfl),
    is_ring := funAt X G (c.fact 36) (c.fact 37) (c.def_ 7) (fun _ _ _ _ _ _ us hl => match us, hl with | [_, _], _ => rfl),
    check_rings := funAt X G (c.fact 38) (c.fact 39) (c.def_ 8) (fun _ _ _ _ _ _ us hl => match us, hl with | [_], _ => rfl),
    ring_sizes := funAt X G (c.fact 40) (c.fact 41) (c.def_ 9) (fun _ _ _ _ _ _ us hl => match us, hl with | [_], _ => rfl),
    check_states := funAt X G (c.fact 42) (c.fact 43) (c.def_ 10) (fun _ _ _ _ _ _ us hl => match us, hl with | [_, _], _ => rfl),
    ring_path := funAt X G (c.fact 44) (c.fact 45) (c.def_ 11) (fun _ _ _ _ _ _ us hl => match us, hl with | [_, _, _], _ => rfl),
    moves_from := funAt X G (c.fact 46) (c.fact 47) (c.def_ 12) (fun _ _ _ _ _ _ us hl => match us, hl with | [_, _], _ => rfl),
    is_move := funAt X G (c.fact 48) (c.fact 49) (c.def_ 13) (fun _ _ _ _ _ _ us hl => match us, hl with | [_], _ => rfl),
    moved := funAt X G (c.fact 50) (c.fact 51) (c.def_ 14) (fun _ _ _ _ _ _ us hl => match us, hl with | [_, _, _], _ => rfl),
    follow_move := funAt X G (c.fact 52) (c.fact 53) (c.def_ 15) (fun _ _ _ _ _ _ us hl => match us, hl with | [_, _, _], _ => rfl),
    follow_rule := funAt X G (c.fact 54) (c.fact 55) (c.def_ 16) (fun _ _ _ _ _ _ us hl => match us, hl with | [_, _, _], _ => rfl),
    is_rule := funAt X G (c.fact 56) (c.fact 57) (c.def_ 17) (fun _ _ _ _ _ _ us hl => match us, hl with | [_, _], _ => rfl),
    follow_part := funAt X G (c.fact 58) (c.fact 59) (c.def_ 18) (fun _ _ _ _ _ _ us hl => match us, hl with | [_, _, _, _], _ => rfl),
    rule_effects := funAt X G (c.fact 60) (c.fact 61) (c.def_ 19) (fun _ _ _ _ _ _ us hl => match us, hl with | [_, _], _ => rfl),
    check_rules := funAt X G (c.fact 62) (c.fact 63) (c.def_ 20) (fun _ _ _ _ _ _ us hl => match us, hl with | [_, _], _ => rfl),
    follow := funAt X G (c.fact 64) (c.fact 65) (c.def_ 21) (fun _ _ _ _ _ _ us hl => match us, hl with | [_, _, _], _ => rfl),
    is_reduced := funAt X G (c.fact 66) (c.fact 67) (c.def_ 22) (fun _ _ _ _ _ _ us hl => match us, hl with | [_, _], _ => rfl),
    path_rules := funAt X G (c.fact 68) (c.fact 69) (c.def_ 23) (fun _ _ _ _ _ _ us hl => match us, hl with | [_, _, _], _ => rfl),
    draw := funAt X G (c.fact 70) (c.fact 71) (c.def_ 24) (fun _ _ _ _ _ _ us hl => match us, hl with | [_, _], _ => rfl),
    random_tree := funAt X G (c.fact 72) (c.fact 73) (c.def_ 25) (fun _ _ _ _ _ _ us hl => match us, hl with | [_, _], _ => rfl),
    positions := funAt X G (c.fact 74) (c.fact 75) (c.def_ 26) (fun _ _ _ _ _ _ us hl => match us, hl with | [_, _], _ => rfl),
    random_rings := funAt X G (c.fact 76) (c.fact 77) (c.def_ 27) (fun _ _ _ _ _ _ us hl => match us, hl with | [_, _, _], _ => rfl),
    lmoves := funAt X G (c.fact 78) (c.fact 79) (c.def_ 28) (fun _ _ _ _ _ _ us hl => match us, hl with | [_, _], _ => rfl),
    lmoved := funAt X G (c.fact 80) (c.fact 81) (c.def_ 29) (fun _ _ _ _ _ _ us hl => match us, hl with | [_, _], _ => rfl),
    whole := funAt X G (c.fact 82) (c.fact 83) (c.def_ 30) (fun _ _ _ _ _ _ us hl => match us, hl with | [_], _ => rfl),
    lis_state := funAt X G (c.fact 84) (c.fact 85) (c.def_ 31) (fun _ _ _ _ _ _ us hl => match us, hl with | [_, _], _ => rfl),
    lfollow_part := funAt X G (c.fact 86) (c.fact 87) (c.def_ 32) (fun _ _ _ _ _ _ us hl => match us, hl with | [_, _, _, _], _ => rfl),
    lis_rule := funAt X G (c.fact 88) (c.fact 89) (c.def_ 33) (fun _ _ _ _ _ _ us hl => match us, hl with | [_, _], _ => rfl),
    lcheck := funAt X G (c.fact 90) (c.fact 91) (c.def_ 34) (fun _ _ _ _ _ _ us hl => match us, hl with | [_, _], _ => rfl),
    equal := funAt X G (c.fact 92) (c.fact 93) (c.def_ 35) (fun _ _ _ _ _ _ us hl => match us, hl with | [_, _], _ => rfl),
    invalid_state := funAt X G (c.fact 94) (c.fact 95) (c.def_ 36) (fun _ _ _ _ _ _ us hl => match us, hl with | [_, _, _], _ => rfl),
    error := funAt X G (c.fact 96) (c.fact 97) (c.def_ 37) (fun _ _ _ _ _ _ us hl => match us, hl with | [_, _, _], _ => rfl),
    errors_agree := funAt X G (c.fact 98) (c.fact 99) (c.def_ 38) (fun _ _ _ _ _ _ us hl => match us, hl with | [_, _, _, _], _ => rfl),
    undoes := funAt X G (c.fact 100) (c.fact 101) (c.def_ 39) (fun _ _ _ _ _ _ us hl => match us, hl with | [_, _], _ => rfl),
    lis_reduced := funAt X G (c.fact 102) (c.fact 103) (c.def_ 40) (fun _ _ _ _ _ _ us hl => match us, hl with | [_], _ => rfl),
    law := funAt X G (c.fact 104) (c.fact 105) (c.def_ 41) (fun _ _ _ _ _ _ us hl => match us, hl with | [_], _ => rfl),
    Pz := mkAt X G (c.fact 106) (c.fact 107) (c.fact 108) (c.fact 109) (c.def_ 42) (fun _ _ _ _ _ _ us hl => match us, hl with | [_, _], _ => rfl),
    Di := mkAt X G (c.fact 110) (c.fact 111) (c.fact 112) (c.fact 113) (c.def_ 43) (fun _ _ _ _ _ _ us hl => match us, hl with | [_, _], _ => rfl),
    Ef := mkAt X G (c.fact 114) (c.fact 115) (c.fact 116) (c.fact 117) (c.def_ 44) (fun _ _ _ _ _ _ us hl => match us, hl with | [_, _], _ => rfl),
    Wr := mkAt X G (c.fact 118) (c.fact 119) (c.fact 120) (c.fact 121) (c.def_ 45) (fun _ _ _ _ _ _ us hl => match us, hl with | [_, _], _ => rfl),
    Pa := mkAt X G (c.fact 122) (c.fact 123) (c.fact 124) (c.fact 125) (c.def_ 46) (fun _ _ _ _ _ _ us hl => match us, hl with | [_, _, _, _], _ => rfl),
    Pz_rings := meAt (c.fact 126) (c.def_ 47) (fun _ _ _ _ _ _ us hl => match us, hl with | [_], _ => rfl),
    Pz_sizes := meAt (c.fact 127) (c.def_ 48) (fun _ _ _ _ _ _ us hl => match us, hl with | [_], _ => rfl),
    Pz_is_state := meAt (c.fact 128) (c.def_ 49) (fun _ _ _ _ _ _ us hl => match us, hl with | [_, _], _ => rfl),
    Di_segments := meAt (c.fact 129) (c.def_ 50) (fun _ _ _ _ _ _ us hl => match us, hl with | [_, _, _], _ => rfl),
    Di_between := meAt (c.fact 130) (c.def_ 51) (fun _ _ _ _ _ _ us hl => match us, hl with | [_, _, _], _ => rfl),
    Ef_extend := meAt (c.fact 131) (c.def_ 52) (fun _ _ _ _ _ _ us hl => match us, hl with | [_, _, _, _, _], _ => rfl),
    Wr_parts := meAt (c.fact 132) (c.def_ 53) (fun _ _ _ _ _ _ us hl => match us, hl with | [_, _, _], _ => rfl),
    Wr_write := meAt (c.fact 133) (c.def_ 54) (fun _ _ _ _ _ _ us hl => match us, hl with | [_, _, _], _ => rfl),
    Pa_length := meAt (c.fact 134) (c.def_ 55) (fun _ _ _ _ _ _ us hl => match us, hl with | [_], _ => rfl),
    Re_mg := glo_ok X G (c.fact 135),
    Re := base_ok e.1,
    Ip := exAt X G (c.fact 136) (c.fact 137) (c.def_ 56) (fun _ _ _ _ _ _ us hl => match us, hl with | [_, _, _], _ => rfl) (e.2.1),
    Is := exAt X G (c.fact 138) (c.fact 139) (c.def_ 57) (fun _ _ _ _ _ _ us hl => match us, hl with | [_, _], _ => rfl) (e.2.2.1),
    ip_r := noat_ok (c.fact 140),
    ip_l := noat_ok (c.fact 141),
    is_v := noat_ok (c.fact 142),
    pz_f := noat_ok (c.fact 143),
    di_r := noat_ok (c.fact 144),
    di_c := noat_ok (c.fact 145),
    ef_s := noat_ok (c.fact 146),
    ef_e := noat_ok (c.fact 147),
    ef_n := noat_ok (c.fact 148),
    ef_d := noat_ok (c.fact 149),
    ef_f := noat_ok (c.fact 150),
    ef_l := noat_ok (c.fact 151),
    ef_r := noat_ok (c.fact 152),
    wr_d := noat_ok (c.fact 153),
    wr_r := noat_ok (c.fact 154),
    wr_i := noat_ok (c.fact 155),
    pa_p := noat_ok (c.fact 156),
    pa_s := noat_ok (c.fact 157),
    pa_e := noat_ok (c.fact 158),
    pa_d := noat_ok (c.fact 159),
    x_ii := exm_ok (c.fact 160),
    x_pi := exm_ok (c.fact 161),
    x_pp := exm_ok (c.fact 162),
    pz_i := tyi_ok e.2.2.2.1,
    pz_k := kit_ok e.2.2.2.2 }
end RS
end TxtH1

section TxtH2
set_option Elab.async false
set_option linter.all false
set_option maxRecDepth 100000
set_option maxHeartbeats 0
namespace RS
open PySem PySem.Spec PyProof.Rows L2 He RSH
theorem facts {P : Program} {w : World} {K : PySem.W.Frag} {h : Heap} {mg : Str → Option Value} {f : Addr} (X : K.In h) (G : h.Ns mainGlobals mg) (hfa : mg ("law" : Str) = some (.ref f)) (c : SaysE fa fn K) (e0 : exB K = true) :
    ∃ fd : FuncData, (∀ (s : Shared) (v : Value), BindsTo s fd ⟨[v], []⟩ [("_law_script", v)]) ∧ ∀ base : Heap, K.In base → base.Ns mainGlobals mg → FnOk P w K mg base CX0 21 f fd ["_law_script"] (spLaw K) := by
  have T := env_of X G c e0
  obtain ⟨f', fd, F, hm, hb⟩ := T.law.ex
  have e := hfa.symm.trans hm
  cases e
  refine ⟨fd, fun s v => ?_, fun base _ _ => ok_law T F⟩
  obtain ⟨oc, od, kV, doc, pm, an, cdv, ct, osl, rfl, lk, hcd⟩ := F.ex
  exact .of_eq rfl
end RS
open PySem PySem.W PySem.Calls PyProof.Rows
theorem PySem.Challenge.cw_barringrings_k27_whole_path_rules_holds : PySem.Challenge.rw_barringrings_k27_whole_path_rules.Holds := by
  w_on; o_law
  refine HandSHeadRun.head_any (r := OpenLaw.row PySem.Challenge.rw_barringrings_k27_whole_path_rules) (q := view (OpenLaw.row PySem.Challenge.rw_barringrings_k27_whole_path_rules).prog [66]) (H := RSH.hk) (ob := RSH.ob) (M := 16000) (loose := RSH.names) (d := HandSHeadRun.topDef (OpenLaw.row PySem.Challenge.rw_barringrings_k27_whole_path_rules).prog 66) (kwd := []) RSH.ob_eq
    (by kernel_rfl) (fun s => by kernel_rfl) RSH.run (by kernel_rfl) (by kernel_rfl) (by kernel_rfl) (by rfl) (by first | assumption | decide +kernel) (by decide +kernel) ⟨rfl, rfl, rfl, rfl, rfl, by decide +kernel⟩ ?hw ?hc
  case hw => w_witness2
  case hc =>
    refine L2.walk_ofE (l := PySem.Challenge.rw_barringrings_k27_whole_path_rules) (n := 63) (k := 21) (x := "_law_script") (CX := L2.CX0) rfl (by decide) (by kernel_rfl) ⟨rfl, by decide, by decide⟩ ?F (fun _ _ _ _ z => z)
    intro w mg fa h Y G hmg0
    obtain ⟨K, KX, c, e0⟩ := Y
    have hmg : mg ("law" : PySem.Str) = some (.ref fa) := by
      have e : (HandSHeadRun.topDef (OpenLaw.row PySem.Challenge.rw_barringrings_k27_whole_path_rules).prog 66).name = ("law" : PySem.Str) := by kernel_rfl
      rw [← e]
      exact hmg0
    obtain ⟨fd, hb, hF⟩ := RS.facts (P := (PySem.Challenge.rw_barringrings_k27_whole_path_rules).prog) (w := w) KX G hmg c e0
    exact ⟨K, fd, RS.spLaw K, KX, hb, fun H a ns hl _ hS => ⟨a, ns, rfl, hS, fun _ => rfl⟩, hF⟩
end TxtH2
