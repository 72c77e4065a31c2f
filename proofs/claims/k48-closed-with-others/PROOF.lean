import PyProof.Rows.All
import Wide.All
import OpenK.AllK
import Wide.FinOn
import HandS.Base
import HandS.Call
import HandS.Defaults
import HandS.Words
import HandS.Head0
import HandS.Head1
import HandS.Head2
import HandS.HeadEnd
import HandS.HeadHook1
import HandS.HeadHook2
import HandS.Exc
import KE.KIsAll
import KE.KTryMore
import KE.KNest
import PyProof.P3Statements
import HandS.ForMost
import HandS.ExcOwn
import HandS.WordsExc
import HandS.Deep
import HandS.Wide
import HandS.Zip
import HandS.Flow
import HandS.Style
import HandS.IsInst
import HandS.TupAny
import HandS.Lambda
import HandS.More
import HandS.Conv
import HandS.SortInts
import HandS.SortRule
import HandS.TupLen
import HandS.Strs
import HandS.RevRange
import HandS.Walk
import HandS.DictComp
import HandS.ClsMeth
import HandS.SetFor
import KE.KIndexOf
import HandS.HotCalls
import HandS.ExcIs
import KE.KExcIs
import HandS.EndTab
import HandS.HeadWalk
import HandS.ExcInit
import HandS.Text
import HandS.DictTup
import KE.KDictWalk
import HandS.OwnEq
import OpenK.KOps
import HandS.Comp
import PyProof.TableCode
import PySem.Challenge.RW_cellyard_k48_whole_closed_with_others
set_option Elab.async false
set_option linter.all false
set_option autoImplicit false
set_option maxRecDepth 100000
set_option maxHeartbeats 0
set_option exponentiation.threshold 2000
namespace IP
open PySem PySem.Spec PyProof.Rows L2
/-! ### the head: what the top leaves, with one more look -/
abbrev AlI : Type := Bool × Bool × List He.FnW
def obsI (fa : List He.Fa) (fn : List He.DefD) (mb : PySem.W.Frag → Bool) (K : PySem.W.Frag) : AlI := ((fa.all fun f => f.ok K) && fn.all fun d => d.ok K, mb K, fn.map fun d => He.fnW K d.at_)
def valI (fn : List He.DefD) : AlI := (true, true, fn.map He.DefD.val)
def SaysI (fa : List He.Fa) (fn : List He.DefD) (mb : PySem.W.Frag → Bool) (K : PySem.W.Frag) : Prop := obsI fa fn mb K = valI fn
/-- what an object leads to: a class to its names, a def to its code and defaults -/
def kidC (g : Addr → Option Obj) (a : Addr) : List Addr := match g a with
  | some o => (match o.data with
    | .cls cd => [cd.ns]
    | .func fd => He.refV fd.code ++ (He.refV fd.defaults ++ He.refV fd.kwdefaults)
    | _ => [])
  | none => []
/-- a table to what it holds -/
def kidN (g : Addr → Option Obj) (a : Addr) : List Addr := match g a with
  | some o => (match o.data with
    | .dict es _ => es.toList.flatMap fun e => He.refV e.val
    | _ => [])
  | none => []
/-- the classes first, then their names, then the rest -/
def asX (g : Addr → Option Obj) : List Addr :=
  let l1 := kidN g mainGlobals
  let l2 := l1.flatMap (kidC g)
  let l3 := l2.flatMap (kidN g)
  let l4 := l3.flatMap (kidC g)
  let l5 := l4.flatMap (kidN g)
  cStatics :: mainGlobals :: (l1 ++ (l2 ++ (l3 ++ (l4 ++ l5))))
def obsIG (n : Nat) (fa : List He.Fa) (fn : List He.DefD) (mb : PySem.W.Frag → Bool) (g : Addr → Option Obj) : AlI := obsI fa fn mb (He.frG g (asX g))
def hookI (n : Nat) (fa : List He.Fa) (fn : List He.DefD) (mb : PySem.W.Frag → Bool) : PySem.W.Hook where
  α := AlI
  obs := fun s => obsIG n fa fn mb s.heap.get?
  val := fun _ => valI fn
  says := fun _ h => ∃ K : PySem.W.Frag, K.In h ∧ SaysI fa fn mb K
  of := fun _ _ e => ⟨_, He.frG_in, e⟩
  keeps := fun _ _ _ ⟨K, hK, c⟩ k => ⟨K, PySem.W.Frag.In.keeps hK k, c⟩
def obI (n : Nat) (fa : List He.Fa) (fn : List He.DefD) (mb : PySem.W.Frag → Bool) (s : PySem.W.SharedT) : AlI := obsIG n fa fn mb (HandSHeadRun.getT s)
theorem obI_eq {n : Nat} {fa : List He.Fa} {fn : List He.DefD} {mb : PySem.W.Frag → Bool} (s : PySem.W.SharedT) : obI n fa fn mb s = (hookI n fa fn mb).obs s.abs := by
  have e : HandSHeadRun.getT s = s.abs.heap.get? := funext fun a => HandSHeadRun.getT_eq s a
  unfold obI
  rw [e]
  rfl
section
variable {fa : List He.Fa} {fn : List He.DefD} {mb : PySem.W.Frag → Bool} {K : PySem.W.Frag}
theorem SaysI.fact (c : SaysI fa fn mb K) (i : Nat) {f : He.Fa} (h : fa[i]? = some f := by rfl) : f.ok K = true := by
  have c1 := (He.ba (show ((fa.all fun f => f.ok K) && fn.all fun d => d.ok K) = true from congrArg (fun z : AlI => z.1) c)).1
  exact List.all_eq_true.mp c1 f (List.mem_of_getElem? h)
theorem SaysI.more (c : SaysI fa fn mb K) : mb K = true := congrArg (fun z : AlI => z.2.1) c
theorem SaysI.def_ (c : SaysI fa fn mb K) (i : Nat) {d : He.DefD} (h : fn[i]? = some d := by rfl) : ∃ fd, FunD K d.name d.qual d.params d.body d.scope (d.dvs K) (d.kws K) (He.fAd K d.at_) fd := by
  have c2 := (He.ba (show ((fa.all fun f => f.ok K) && fn.all fun d => d.ok K) = true from congrArg (fun z : AlI => z.1) c)).2
  have e : fn.map (fun d => He.fnW K d.at_) = fn.map He.DefD.val := congrArg (fun z : AlI => z.2.2) c
  have e2 : (fn.map fun d => He.fnW K d.at_)[i]? = (fn.map He.DefD.val)[i]? := by rw [e]
  rw [List.getElem?_map, List.getElem?_map, h] at e2
  exact He.DefD.funD (Option.some.inj e2) (List.all_eq_true.mp c2 d (List.mem_of_getElem? h))
end
/-! ### more looks -/
/-- the keyword-only default of the parameter x, if it is an object -/
def kwdAt (f : Str × Option Str) (x : Str) (K : PySem.W.Frag) : Addr := match K.lookup (He.fAd K f) with
  | some ⟨_, _, .func fd, _⟩ => (match fd.kwdefaults with
    | .ref d => (match PySem.W.nsIn K d x with
      | some (some (.ref a)) => a
      | _ => 0)
    | _ => 0)
  | _ => 0
/-- () -/
def nilB (K : PySem.W.Frag) (a : Addr) : Bool := match K.lookup a with
  | some ⟨.type c, _, .seq its _, _⟩ => decide (c = "tuple") && decide (its.toList = [])
  | _ => false
/-- the def m is read off the class x -/
def offB (K : PySem.W.Frag) (x m : Str) : Bool := PySem.W.readsIn K (He.ga K x) (.type "type") && (He.eqO (PySem.W.specialIn K (.ref (He.ga K x)) "__getattribute__") (some (some (.builtin "type.__getattribute__"))) && ((match PySem.W.findCls K (.ref (He.ga K x)) (.type "type") m with
  | some (.val (.ref a)) => decide (a = He.ma K (He.ga K x) m)
  | _ => false) && PySem.W.keepIn K (.ref (He.ma K (He.ga K x) m))))
/-- a statement of a class's body -/
def inCls (s : Stmt) (j : Nat) : Stmt := match s with
  | .ClassDef _ _ _ body _ _ _ _ _ _ _ => body.getD j (.Pass ⟨0, 0, 0, 0⟩)
  | s => s
/-! ### errors, tables of code objects -/
/-- a class of errors with an __init__ of its own: what is looked at -/
def oexB (K : PySem.W.Frag) (C : Addr) : Bool := match K.lookup C with
  | some ⟨.type "type", _, .cls cd, sl⟩ => (match cd.mro, sl.toList with
    | .ref C' :: bm, [_, _, _, _, some (.builtin n), _] => C' == C && (n == "ValueError.__new__" && (!cd.hasDel && (PySem.HandSPX.refsVE bm && (cd.hasDict && (He.eqO (PySem.W.findIn K (.ref C) "__setattr__") (some (some (.builtin "object.__setattr__"))) &&
      (decide (PySem.W.subIn K (.ref C) (.type "BaseException") = some true) && (decide (PySem.W.typeIn K (.ref C) = some (.type "type")) && PySem.W.keepIn K (.ref C))))))))
    | _, _ => false)
  | _ => false
def baseIB (K : PySem.W.Frag) (C : Addr) : Bool := PySem.W.readsIn K C (.type "type") && (He.eqO (PySem.W.specialIn K (.ref C) "__getattribute__") (some (some (.builtin "type.__getattribute__"))) && (match PySem.W.findCls K (.ref C) (.type "type") "__init__" with
  | some (.val (.builtin n)) => decide (n = "ValueError.__init__")
  | _ => false))
def excCB (K : PySem.W.Frag) (D : Addr) : Bool := He.eqO (PySem.W.findIn K (.ref D) "__getattribute__") (some (some (.builtin "BaseException.__getattribute__"))) && (He.eqO (PySem.W.findIn K (.ref D) "__getattr__") (some none) && (decide (PySem.W.subIn K (.ref D) (.type "BaseException") = some true) && (PySem.W.hasDictIn K D &&
  (He.eqO (PySem.W.findIn K (.ref D) "__class__") (some (some (.builtin "object.__class__"))) && (He.eqO (PySem.W.specialIn K (.builtin "object.__class__") "__get__") (some (some (.builtin "getset_descriptor.__get__"))) && (decide (PySem.W.takesIn K (.builtin "object.__class__") = some true) && decide (PySem.W.mroIn K D (.type "object") = some true)))))))
def eAt (es : List Str) (i : Nat) : Str := es.getD i ""
/-- the classes es, of which each is none of the others, all under base -/
def errsB (es : List Str) (base : Str) (K : PySem.W.Frag) : Bool := (List.range es.length).all fun i => excCB K (He.ga K (eAt es i)) && (decide (PySem.W.exmOne K (.ref (He.ga K (eAt es i))) (.ref (He.ga K base)) = some true) &&
  (decide (PySem.W.kitOne K (.ref (He.ga K (eAt es i))) (.type "ValueError") = some true) && (List.range es.length).all fun j => decide (PySem.W.kitOne K (.ref (He.ga K (eAt es i))) (.ref (He.ga K (eAt es j))) = some (Nat.beq i j))))
def tabP (K : PySem.W.Frag) (x : Str) : Addr := match PySem.W.tabIn K x with
  | some (_, P) => P
  | none => 0
def tabC (K : PySem.W.Frag) (x : Str) : Addr := match PySem.W.tabIn K x with
  | some (c, _) => c
  | none => 0
def tabsB (ds : List Str) (K : PySem.W.Frag) : Bool := (ds.all fun x => (PySem.W.tabIn K x).isSome && (match K.lookup (tabP K x) with
  | none => true
  | some _ => false)) && decide ((ds.map (tabP K)).Nodup)
/-! ### the run's equation by parts -/
noncomputable def kfX (s : PySem.W.SharedT) : PySem.W.Frag := He.frG (HandSHeadRun.getT s) (asX (HandSHeadRun.getT s))
theorem all_two {o : Option PySem.W.SharedT} {l1 l2 : List He.Fa} (h1 : o.map (fun s => l1.all fun f => f.ok (kfX s)) = some true) (h2 : o.map (fun s => l2.all fun f => f.ok (kfX s)) = some true) : o.map (fun s => (l1 ++ l2).all fun f => f.ok (kfX s)) = some true := by
  cases o with
  | none => cases h1
  | some s =>
    have z1 : (l1.all fun f => f.ok (kfX s)) = true := Option.some.inj h1
    have z2 : (l2.all fun f => f.ok (kfX s)) = true := Option.some.inj h2
    show some ((l1 ++ l2).all fun f => f.ok (kfX s)) = some true
    rw [List.all_append, z1, z2]
    rfl
theorem all_same {o : Option PySem.W.SharedT} {l1 l2 : List He.Fa} (e : l2 = l1) (h1 : o.map (fun s => l1.all fun f => f.ok (kfX s)) = some true) : o.map (fun s => l2.all fun f => f.ok (kfX s)) = some true := by rw [e]; exact h1
theorem run_of {n : Nat} {o : Option PySem.W.SharedT} {A : PySem.W.SharedT → Bool} {β : Type} {B : PySem.W.SharedT → β} {b : β} {fa : List He.Fa} {fn : List He.DefD} {mb : PySem.W.Frag → Bool} (h1 : o.map A = some true) (h2 : o.map B = some b) (h3 : o.map (fun s => fa.all fun f => f.ok (kfX s)) = some true)
    (h4 : o.map (fun s => (fn.all fun d => d.ok (kfX s), fn.map fun d => He.fnW (kfX s) d.at_)) = some (true, fn.map He.DefD.val)) (h5 : o.map (fun s => mb (kfX s)) = some true) : o.map (fun s => (A s, B s, obI n fa fn mb s)) = some (true, b, valI fn) := by
  cases o with
  | none => cases h1
  | some s =>
    have z1 := Option.some.inj h1
    have z2 := Option.some.inj h2
    have z3 : (fa.all fun f => f.ok (kfX s)) = true := Option.some.inj h3
    have z4 := Option.some.inj h4
    have z5 : mb (kfX s) = true := Option.some.inj h5
    have z6 := congrArg Prod.fst z4
    have z7 := congrArg Prod.snd z4
    dsimp only at z6 z7
    show some (A s, B s, obsI fa fn mb (kfX s)) = _
    unfold obsI
    rw [z1, z2, z3, z6, z7, z5]
    rfl
end IP

namespace K48
open PySem PySem.Spec PyProof.Rows L2 IP
def top (i : Nat) : Stmt := PySem.Challenge.pw_cellyard_k48_whole_closed_with_others.main.body.getD i (.Pass ⟨0, 0, 0, 0⟩)
abbrev s_Group___init__ : Stmt := inCls (top 44) 0
abbrev s_Groups___init__ : Stmt := inCls (top 47) 0
abbrev s_Numbers___init__ : Stmt := inCls (top 68) 0
abbrev s_Rooms___init__ : Stmt := inCls (top 69) 0
abbrev s_Process___init__ : Stmt := inCls (top 72) 0
abbrev s_Rooms_new_key : Stmt := inCls (top 69) 1
abbrev s_Rooms_new_numbers : Stmt := inCls (top 69) 2
abbrev s_Rooms_new_mounts : Stmt := inCls (top 69) 3
abbrev s_Rooms_new_boxes : Stmt := inCls (top 69) 4
abbrev s_Rooms_rooms_up : Stmt := inCls (top 69) 5
abbrev s_Rooms_number_all : Stmt := inCls (top 69) 7
abbrev s_Yards_add_process : Stmt := inCls (top 73) 1
abbrev s_Yards___init__ : Stmt := inCls (top 73) 0
abbrev s_Yard___init__ : Stmt := inCls (top 85) 0
abbrev s__law_pick : Stmt := top 95
abbrev s_is_name : Stmt := top 38
abbrev s_Groups_look_group : Stmt := inCls (top 47) 1
abbrev s_is_whole : Stmt := top 36
abbrev s_are_caps : Stmt := top 45
abbrev s_look_caps : Stmt := top 46
abbrev s_Groups_look_lowered : Stmt := inCls (top 47) 9
abbrev s_Groups_way_up : Stmt := inCls (top 47) 3
abbrev s_Groups_within : Stmt := inCls (top 47) 4
abbrev s_Yards_all_of : Stmt := inCls (top 73) 5
abbrev s_Yards_held_heads : Stmt := inCls (top 73) 7
abbrev s_Yards_held_units : Stmt := inCls (top 73) 6
abbrev s_Deeds_put_caps : Stmt := inCls (top 77) 0
abbrev s_Yard_note : Stmt := inCls (top 85) 4
abbrev s_Yard_set_caps : Stmt := inCls (top 85) 6
abbrev s_look_name : Stmt := top 39
abbrev s_is_path : Stmt := top 54
abbrev s_are_words : Stmt := top 56
abbrev s_is_file : Stmt := top 58
abbrev s_is_layer : Stmt := top 59
abbrev s_are_layers : Stmt := top 60
abbrev s_look_layers : Stmt := top 61
abbrev s_look_whole : Stmt := top 37
abbrev s_Yard_look_new_cell : Stmt := inCls (top 85) 27
abbrev s_Groups_barred : Stmt := inCls (top 47) 8
abbrev s_Yards_look_heads : Stmt := inCls (top 73) 9
abbrev s_Groups_add_group : Stmt := inCls (top 47) 5
abbrev s_flat_of : Stmt := top 62
abbrev s_Deeds_make_store : Stmt := inCls (top 77) 15
abbrev s_Yard_open_cell : Stmt := inCls (top 85) 28
abbrev s_Yards_look_process : Stmt := inCls (top 73) 2
abbrev s_Groups_cold_by : Stmt := inCls (top 47) 6
abbrev s_Yards_look_actor : Stmt := inCls (top 73) 3
abbrev s_are_kinds : Stmt := top 76
abbrev s_Deeds_make_process : Stmt := inCls (top 77) 2
abbrev s_Yard_spawn : Stmt := inCls (top 85) 11
abbrev s_Yard_make_group : Stmt := inCls (top 85) 5
abbrev s_Yards_look_units : Stmt := inCls (top 73) 8
abbrev s_Deeds_put_group : Stmt := inCls (top 77) 1
abbrev s_Yard_move : Stmt := inCls (top 85) 8
abbrev s_look_path : Stmt := top 55
abbrev s_Deeds_drop_mount : Stmt := inCls (top 77) 19
abbrev s_Yard_unmount : Stmt := inCls (top 85) 23
abbrev s_Deeds_add_units : Stmt := inCls (top 77) 9
abbrev s_Yard_grow : Stmt := inCls (top 85) 17
abbrev s_Yard_look_cell : Stmt := inCls (top 85) 29
abbrev s_Yards_list_processes : Stmt := inCls (top 73) 15
abbrev s_Yard___len__ : Stmt := inCls (top 85) 2
abbrev s_Yards_heir_of : Stmt := inCls (top 73) 11
abbrev s_Yards_young_of : Stmt := inCls (top 73) 10
abbrev s_Yards_drop_process : Stmt := inCls (top 73) 12
abbrev s_Yards_put_end : Stmt := inCls (top 73) 13
abbrev s_Rooms_lies_in : Stmt := inCls (top 69) 6
abbrev s_Rooms_sweep : Stmt := inCls (top 69) 8
abbrev s_Yards_end_room : Stmt := inCls (top 73) 14
abbrev s_Yard_close_cell : Stmt := inCls (top 85) 30
abbrev s_processes : Stmt := top 87
abbrev s_ended : Stmt := top 88
abbrev s_charges : Stmt := top 90
abbrev s_groups : Stmt := top 89
abbrev s_stores : Stmt := top 91
abbrev s_cells : Stmt := top 93
abbrev s_rooms : Stmt := top 92
abbrev s__law_class : Stmt := top 96
abbrev s__law_told : Stmt := top 97
abbrev s_Deeds_wait_for : Stmt := inCls (top 77) 6
abbrev s_Yard_wait : Stmt := inCls (top 85) 14
abbrev s_law : Stmt := top 98
abbrev s_Capped_init : Stmt := inCls (top 17) 0
abbrev s_Frozen_init : Stmt := inCls (top 16) 0
abbrev s_Over_init : Stmt := inCls (top 18) 0
def errL : List Str := ["NoNumber", "NoName", "NoWants", "NoLayers", "NoPath", "NoWords", "NoKinds", "NoProcess", "NoGroup", "NoStore", "NoCell", "Taken", "Itself", "Frozen", "Capped", "Over", "TooFew", "Guarded", "NoSuch", "NoChild", "NotYet", "NoMount", "Fixed", "NoFile", "Held", "NotClosed", "NoPicture", "NoDeeds", "NoText"]
def lamL : List Str := ["law"]
def fa0 : List He.Fa := [.free "ValueError", .free "all", .free "bool", .free "dict", .free "int", .free "isinstance", .free "len", .free "list", .free "max", .free "range", .free "set", .free "sorted", .free "str", .free "sum", .free "tuple", .str "BOXES" "boxes", .int "DEEPEST" (4 : Int), .int "FIRST" (1 : Int), .glo "KINDS", .int "LONGEST" (20 : Int)]
def fa1 : List He.Fa := [.int "LONGEST_NAME" (6 : Int), .int "MOST_CAP" (9999 : Int), .int "MOST_FILES" (12 : Int), .int "MOST_HEFT" (100 : Int), .int "MOST_LAYERS" (4 : Int), .int "MOST_UNITS" (999 : Int), .str "MOUNTS" "mounts", .glo "NOTHING", .str "NUMBERS" "numbers", .str "ROOT" "yard", .str "SIGNS" "abcdefghijklmnopqrstuvwxyz0123456789", .str "SMALL" "abcdefghijklmnopqrstuvwxyz", .glo "Group", .glo "Yard", .glo "Numbers", .glo "Rooms", .glo "Process", .glo "Groups", .glo "Deeds", .glo "NoNumber"]
def fa2 : List He.Fa := [.glo "NoName", .glo "NoWants", .glo "NoLayers", .glo "NoPath", .glo "NoWords", .glo "NoKinds", .glo "NoProcess", .glo "NoGroup", .glo "NoStore", .glo "NoCell", .glo "Taken", .glo "Itself", .glo "Frozen", .glo "Capped", .glo "Over", .glo "TooFew", .glo "Guarded", .glo "NoSuch", .glo "NoChild", .glo "NotYet"]
def fa3 : List He.Fa := [.glo "NoMount", .glo "Fixed", .glo "NoFile", .glo "Held", .glo "NotClosed", .glo "NoPicture", .glo "NoDeeds", .glo "NoText", .glo "CellError", .glo "_law_pick", .glo "is_name", .glo "is_whole", .glo "are_caps", .glo "look_caps", .glo "look_name", .glo "is_path", .glo "are_words", .glo "is_file", .glo "is_layer", .glo "are_layers"]
def fa4 : List He.Fa := [.glo "look_layers", .glo "look_whole", .glo "flat_of", .glo "are_kinds", .glo "look_path", .glo "processes", .glo "ended", .glo "charges", .glo "groups", .glo "stores", .glo "cells", .glo "rooms", .glo "_law_class", .glo "_law_told", .glo "law", .cls "Group", .noat "Group" "inner", .noat "Group" "heft", .noat "Group" "caps", .noat "Group" "cold"]
def fa5 : List He.Fa := [.cls "Yard", .noat "Yard" "all_groups", .noat "Yard" "rooms", .noat "Yard" "processes", .noat "Yard" "stores", .noat "Yard" "born", .noat "Yard" "cells", .noat "Yard" "done", .cls "Numbers", .noat "Numbers" "inner", .noat "Numbers" "next_one", .noat "Numbers" "first", .cls "Rooms", .noat "Rooms" "numbers", .noat "Rooms" "mounts", .noat "Rooms" "boxes", .noat "Rooms" "born", .cls "Process", .noat "Process" "own", .noat "Process" "elder"]
def fa6 : List He.Fa := [.noat "Process" "group", .noat "Process" "room", .noat "Process" "mounts", .noat "Process" "boxes", .noat "Process" "numbers", .noat "Process" "heft", .noat "Process" "units", .noat "Process" "want", .noat "Process" "outcome", .noat "Process" "used", .noat "Process" "has_ended", .mkr "Group", .mkr "Numbers", .mkr "Rooms", .mkr "Process", .mkr "Yard", .meth "Rooms" "new_key", .meth "Rooms" "new_numbers", .meth "Rooms" "new_mounts", .meth "Rooms" "new_boxes"]
def fa7 : List He.Fa := [.meth "Rooms" "rooms_up", .meth "Rooms" "number_all", .meth "Yard" "add_process", .meth "Yard" "look_group", .meth "Yard" "look_lowered", .meth "Yard" "way_up", .meth "Yard" "within", .meth "Yard" "all_of", .meth "Yard" "held_heads", .meth "Yard" "held_units", .meth "Yard" "put_caps", .meth "Yard" "note", .meth "Yard" "set_caps", .meth "Yard" "look_new_cell", .meth "Yard" "barred", .meth "Yard" "look_heads", .meth "Yard" "add_group", .meth "Yard" "make_store", .meth "Yard" "open_cell", .meth "Yard" "look_process"]
def fa8 : List He.Fa := [.meth "Yard" "cold_by", .meth "Yard" "look_actor", .meth "Yard" "make_process", .meth "Yard" "spawn", .meth "Yard" "make_group", .meth "Yard" "look_units", .meth "Yard" "put_group", .meth "Yard" "move", .meth "Yard" "drop_mount", .meth "Yard" "unmount", .meth "Yard" "add_units", .meth "Yard" "grow", .meth "Yard" "look_cell", .meth "Yard" "list_processes", .meth "Yard" "__len__", .meth "Yard" "heir_of", .meth "Yard" "young_of", .meth "Yard" "drop_process", .meth "Yard" "put_end", .meth "Rooms" "lies_in"]
def fa9 : List He.Fa := [.meth "Rooms" "sweep", .meth "Yard" "end_room", .meth "Yard" "close_cell", .meth "Yard" "wait_for", .meth "Yard" "wait", .exc "Guarded", .exc "Held", .exc "Itself", .exc "NoCell", .exc "NoChild", .exc "NoGroup", .exc "NoKinds", .exc "NoLayers", .exc "NoMount", .exc "NoName", .exc "NoNumber", .exc "NoPath", .exc "NoProcess", .exc "NotYet", .exc "Taken"]
def fa10 : List He.Fa := [.noat "Capped" "group", .noat "Frozen" "group", .noat "Over" "many"]
def fa : List He.Fa := fa0 ++ (fa1 ++ (fa2 ++ (fa3 ++ (fa4 ++ (fa5 ++ (fa6 ++ (fa7 ++ (fa8 ++ (fa9 ++ (fa10))))))))))
def D_Group___init__ : He.DefD := ⟨("Group", some "__init__"), "__init__", "Group.__init__", defArgs s_Group___init__, defBody s_Group___init__, defScope s_Group___init__, [], []⟩
def D_Groups___init__ : He.DefD := ⟨("Groups", some "__init__"), "__init__", "Groups.__init__", defArgs s_Groups___init__, defBody s_Groups___init__, defScope s_Groups___init__, [], []⟩
def D_Numbers___init__ : He.DefD := ⟨("Numbers", some "__init__"), "__init__", "Numbers.__init__", defArgs s_Numbers___init__, defBody s_Numbers___init__, defScope s_Numbers___init__, [], []⟩
def D_Rooms___init__ : He.DefD := ⟨("Rooms", some "__init__"), "__init__", "Rooms.__init__", defArgs s_Rooms___init__, defBody s_Rooms___init__, defScope s_Rooms___init__, [], []⟩
def D_Process___init__ : He.DefD := ⟨("Process", some "__init__"), "__init__", "Process.__init__", defArgs s_Process___init__, defBody s_Process___init__, defScope s_Process___init__, [], []⟩
def D_Rooms_new_key : He.DefD := ⟨("Rooms", some "new_key"), "new_key", "Rooms.new_key", defArgs s_Rooms_new_key, defBody s_Rooms_new_key, defScope s_Rooms_new_key, [], []⟩
def D_Rooms_new_numbers : He.DefD := ⟨("Rooms", some "new_numbers"), "new_numbers", "Rooms.new_numbers", defArgs s_Rooms_new_numbers, defBody s_Rooms_new_numbers, defScope s_Rooms_new_numbers, [], []⟩
def D_Rooms_new_mounts : He.DefD := ⟨("Rooms", some "new_mounts"), "new_mounts", "Rooms.new_mounts", defArgs s_Rooms_new_mounts, defBody s_Rooms_new_mounts, defScope s_Rooms_new_mounts, [], []⟩
def D_Rooms_new_boxes : He.DefD := ⟨("Rooms", some "new_boxes"), "new_boxes", "Rooms.new_boxes", defArgs s_Rooms_new_boxes, defBody s_Rooms_new_boxes, defScope s_Rooms_new_boxes, [], []⟩
def D_Rooms_rooms_up : He.DefD := ⟨("Rooms", some "rooms_up"), "rooms_up", "Rooms.rooms_up", defArgs s_Rooms_rooms_up, defBody s_Rooms_rooms_up, defScope s_Rooms_rooms_up, [], []⟩
def D_Rooms_number_all : He.DefD := ⟨("Rooms", some "number_all"), "number_all", "Rooms.number_all", defArgs s_Rooms_number_all, defBody s_Rooms_number_all, defScope s_Rooms_number_all, [], []⟩
def D_Yards_add_process : He.DefD := ⟨("Yard", some "add_process"), "add_process", "Yards.add_process", defArgs s_Yards_add_process, defBody s_Yards_add_process, defScope s_Yards_add_process, [], []⟩
def D_Yards___init__ : He.DefD := ⟨("Deeds", some "__init__"), "__init__", "Yards.__init__", defArgs s_Yards___init__, defBody s_Yards___init__, defScope s_Yards___init__, [], []⟩
def D_Yard___init__ : He.DefD := ⟨("Yard", some "__init__"), "__init__", "Yard.__init__", defArgs s_Yard___init__, defBody s_Yard___init__, defScope s_Yard___init__, [], []⟩
def D__law_pick : He.DefD := ⟨("_law_pick", none), "_law_pick", "_law_pick", defArgs s__law_pick, defBody s__law_pick, defScope s__law_pick, [], []⟩
def D_is_name : He.DefD := ⟨("is_name", none), "is_name", "is_name", defArgs s_is_name, defBody s_is_name, defScope s_is_name, [], []⟩
def D_Groups_look_group : He.DefD := ⟨("Yard", some "look_group"), "look_group", "Groups.look_group", defArgs s_Groups_look_group, defBody s_Groups_look_group, defScope s_Groups_look_group, [], []⟩
def D_is_whole : He.DefD := ⟨("is_whole", none), "is_whole", "is_whole", defArgs s_is_whole, defBody s_is_whole, defScope s_is_whole, [], []⟩
def D_are_caps : He.DefD := ⟨("are_caps", none), "are_caps", "are_caps", defArgs s_are_caps, defBody s_are_caps, defScope s_are_caps, [], []⟩
def D_look_caps : He.DefD := ⟨("look_caps", none), "look_caps", "look_caps", defArgs s_look_caps, defBody s_look_caps, defScope s_look_caps, [], []⟩
def D_Groups_look_lowered : He.DefD := ⟨("Yard", some "look_lowered"), "look_lowered", "Groups.look_lowered", defArgs s_Groups_look_lowered, defBody s_Groups_look_lowered, defScope s_Groups_look_lowered, [], []⟩
def D_Groups_way_up : He.DefD := ⟨("Yard", some "way_up"), "way_up", "Groups.way_up", defArgs s_Groups_way_up, defBody s_Groups_way_up, defScope s_Groups_way_up, [], []⟩
def D_Groups_within : He.DefD := ⟨("Yard", some "within"), "within", "Groups.within", defArgs s_Groups_within, defBody s_Groups_within, defScope s_Groups_within, [], []⟩
def D_Yards_all_of : He.DefD := ⟨("Yard", some "all_of"), "all_of", "Yards.all_of", defArgs s_Yards_all_of, defBody s_Yards_all_of, defScope s_Yards_all_of, [], []⟩
def D_Yards_held_heads : He.DefD := ⟨("Yard", some "held_heads"), "held_heads", "Yards.held_heads", defArgs s_Yards_held_heads, defBody s_Yards_held_heads, defScope s_Yards_held_heads, [], []⟩
def D_Yards_held_units : He.DefD := ⟨("Yard", some "held_units"), "held_units", "Yards.held_units", defArgs s_Yards_held_units, defBody s_Yards_held_units, defScope s_Yards_held_units, [], []⟩
def D_Deeds_put_caps : He.DefD := ⟨("Yard", some "put_caps"), "put_caps", "Deeds.put_caps", defArgs s_Deeds_put_caps, defBody s_Deeds_put_caps, defScope s_Deeds_put_caps, [], []⟩
def D_Yard_note : He.DefD := ⟨("Yard", some "note"), "note", "Yard.note", defArgs s_Yard_note, defBody s_Yard_note, defScope s_Yard_note, [], [("told", .non)]⟩
def D_Yard_set_caps : He.DefD := ⟨("Yard", some "set_caps"), "set_caps", "Yard.set_caps", defArgs s_Yard_set_caps, defBody s_Yard_set_caps, defScope s_Yard_set_caps, [], [("unit_cap", .non), ("head_cap", .non), ("turn_cap", .non)]⟩
def D_look_name : He.DefD := ⟨("look_name", none), "look_name", "look_name", defArgs s_look_name, defBody s_look_name, defScope s_look_name, [], []⟩
def D_is_path : He.DefD := ⟨("is_path", none), "is_path", "is_path", defArgs s_is_path, defBody s_is_path, defScope s_is_path, [], []⟩
def D_are_words : He.DefD := ⟨("are_words", none), "are_words", "are_words", defArgs s_are_words, defBody s_are_words, defScope s_are_words, [], []⟩
def D_is_file : He.DefD := ⟨("is_file", none), "is_file", "is_file", defArgs s_is_file, defBody s_is_file, defScope s_is_file, [], []⟩
def D_is_layer : He.DefD := ⟨("is_layer", none), "is_layer", "is_layer", defArgs s_is_layer, defBody s_is_layer, defScope s_is_layer, [], []⟩
def D_are_layers : He.DefD := ⟨("are_layers", none), "are_layers", "are_layers", defArgs s_are_layers, defBody s_are_layers, defScope s_are_layers, [], []⟩
def D_look_layers : He.DefD := ⟨("look_layers", none), "look_layers", "look_layers", defArgs s_look_layers, defBody s_look_layers, defScope s_look_layers, [], []⟩
def D_look_whole : He.DefD := ⟨("look_whole", none), "look_whole", "look_whole", defArgs s_look_whole, defBody s_look_whole, defScope s_look_whole, [], []⟩
def D_Yard_look_new_cell : He.DefD := ⟨("Yard", some "look_new_cell"), "look_new_cell", "Yard.look_new_cell", defArgs s_Yard_look_new_cell, defBody s_Yard_look_new_cell, defScope s_Yard_look_new_cell, [], []⟩
def D_Groups_barred : He.DefD := ⟨("Yard", some "barred"), "barred", "Groups.barred", defArgs s_Groups_barred, defBody s_Groups_barred, defScope s_Groups_barred, [], []⟩
def D_Yards_look_heads : He.DefD := ⟨("Yard", some "look_heads"), "look_heads", "Yards.look_heads", defArgs s_Yards_look_heads, defBody s_Yards_look_heads, defScope s_Yards_look_heads, [], []⟩
def D_Groups_add_group : He.DefD := ⟨("Yard", some "add_group"), "add_group", "Groups.add_group", defArgs s_Groups_add_group, defBody s_Groups_add_group, defScope s_Groups_add_group, [], []⟩
def D_flat_of : He.DefD := ⟨("flat_of", none), "flat_of", "flat_of", defArgs s_flat_of, defBody s_flat_of, defScope s_flat_of, [], []⟩
def D_Deeds_make_store : He.DefD := ⟨("Yard", some "make_store"), "make_store", "Deeds.make_store", defArgs s_Deeds_make_store, defBody s_Deeds_make_store, defScope s_Deeds_make_store, [], []⟩
def D_Yard_open_cell : He.DefD := ⟨("Yard", some "open_cell"), "open_cell", "Yard.open_cell", defArgs s_Yard_open_cell, defBody s_Yard_open_cell, defScope s_Yard_open_cell, [], [("heft", .int 1), ("unit_cap", .non), ("head_cap", .non), ("turn_cap", .non)]⟩
def D_Yards_look_process : He.DefD := ⟨("Yard", some "look_process"), "look_process", "Yards.look_process", defArgs s_Yards_look_process, defBody s_Yards_look_process, defScope s_Yards_look_process, [], []⟩
def D_Groups_cold_by : He.DefD := ⟨("Yard", some "cold_by"), "cold_by", "Groups.cold_by", defArgs s_Groups_cold_by, defBody s_Groups_cold_by, defScope s_Groups_cold_by, [], []⟩
def D_Yards_look_actor : He.DefD := ⟨("Yard", some "look_actor"), "look_actor", "Yards.look_actor", defArgs s_Yards_look_actor, defBody s_Yards_look_actor, defScope s_Yards_look_actor, [], []⟩
def D_are_kinds : He.DefD := ⟨("are_kinds", none), "are_kinds", "are_kinds", defArgs s_are_kinds, defBody s_are_kinds, defScope s_are_kinds, [], []⟩
def D_Deeds_make_process : He.DefD := ⟨("Yard", some "make_process"), "make_process", "Deeds.make_process", defArgs s_Deeds_make_process, defBody s_Deeds_make_process, defScope s_Deeds_make_process, [], []⟩
def D_Yard_spawn : He.DefD := ⟨("Yard", some "spawn"), "spawn", "Yard.spawn", defArgs s_Yard_spawn, defBody s_Yard_spawn, defScope s_Yard_spawn, [], [("fresh", .adr (kwdAt ("Yard", some "spawn") "fresh"))]⟩
def D_Yard_make_group : He.DefD := ⟨("Yard", some "make_group"), "make_group", "Yard.make_group", defArgs s_Yard_make_group, defBody s_Yard_make_group, defScope s_Yard_make_group, [], [("heft", .int 1), ("unit_cap", .non), ("head_cap", .non), ("turn_cap", .non)]⟩
def D_Yards_look_units : He.DefD := ⟨("Yard", some "look_units"), "look_units", "Yards.look_units", defArgs s_Yards_look_units, defBody s_Yards_look_units, defScope s_Yards_look_units, [], []⟩
def D_Deeds_put_group : He.DefD := ⟨("Yard", some "put_group"), "put_group", "Deeds.put_group", defArgs s_Deeds_put_group, defBody s_Deeds_put_group, defScope s_Deeds_put_group, [], []⟩
def D_Yard_move : He.DefD := ⟨("Yard", some "move"), "move", "Yard.move", defArgs s_Yard_move, defBody s_Yard_move, defScope s_Yard_move, [], []⟩
def D_look_path : He.DefD := ⟨("look_path", none), "look_path", "look_path", defArgs s_look_path, defBody s_look_path, defScope s_look_path, [], []⟩
def D_Deeds_drop_mount : He.DefD := ⟨("Yard", some "drop_mount"), "drop_mount", "Deeds.drop_mount", defArgs s_Deeds_drop_mount, defBody s_Deeds_drop_mount, defScope s_Deeds_drop_mount, [], []⟩
def D_Yard_unmount : He.DefD := ⟨("Yard", some "unmount"), "unmount", "Yard.unmount", defArgs s_Yard_unmount, defBody s_Yard_unmount, defScope s_Yard_unmount, [], []⟩
def D_Deeds_add_units : He.DefD := ⟨("Yard", some "add_units"), "add_units", "Deeds.add_units", defArgs s_Deeds_add_units, defBody s_Deeds_add_units, defScope s_Deeds_add_units, [], []⟩
def D_Yard_grow : He.DefD := ⟨("Yard", some "grow"), "grow", "Yard.grow", defArgs s_Yard_grow, defBody s_Yard_grow, defScope s_Yard_grow, [], []⟩
def D_Yard_look_cell : He.DefD := ⟨("Yard", some "look_cell"), "look_cell", "Yard.look_cell", defArgs s_Yard_look_cell, defBody s_Yard_look_cell, defScope s_Yard_look_cell, [], []⟩
def D_Yards_list_processes : He.DefD := ⟨("Yard", some "list_processes"), "list_processes", "Yards.list_processes", defArgs s_Yards_list_processes, defBody s_Yards_list_processes, defScope s_Yards_list_processes, [], []⟩
def D_Yard___len__ : He.DefD := ⟨("Yard", some "__len__"), "__len__", "Yard.__len__", defArgs s_Yard___len__, defBody s_Yard___len__, defScope s_Yard___len__, [], []⟩
def D_Yards_heir_of : He.DefD := ⟨("Yard", some "heir_of"), "heir_of", "Yards.heir_of", defArgs s_Yards_heir_of, defBody s_Yards_heir_of, defScope s_Yards_heir_of, [], []⟩
def D_Yards_young_of : He.DefD := ⟨("Yard", some "young_of"), "young_of", "Yards.young_of", defArgs s_Yards_young_of, defBody s_Yards_young_of, defScope s_Yards_young_of, [], []⟩
def D_Yards_drop_process : He.DefD := ⟨("Yard", some "drop_process"), "drop_process", "Yards.drop_process", defArgs s_Yards_drop_process, defBody s_Yards_drop_process, defScope s_Yards_drop_process, [], []⟩
def D_Yards_put_end : He.DefD := ⟨("Yard", some "put_end"), "put_end", "Yards.put_end", defArgs s_Yards_put_end, defBody s_Yards_put_end, defScope s_Yards_put_end, [], []⟩
def D_Rooms_lies_in : He.DefD := ⟨("Rooms", some "lies_in"), "lies_in", "Rooms.lies_in", defArgs s_Rooms_lies_in, defBody s_Rooms_lies_in, defScope s_Rooms_lies_in, [], []⟩
def D_Rooms_sweep : He.DefD := ⟨("Rooms", some "sweep"), "sweep", "Rooms.sweep", defArgs s_Rooms_sweep, defBody s_Rooms_sweep, defScope s_Rooms_sweep, [], []⟩
def D_Yards_end_room : He.DefD := ⟨("Yard", some "end_room"), "end_room", "Yards.end_room", defArgs s_Yards_end_room, defBody s_Yards_end_room, defScope s_Yards_end_room, [], []⟩
def D_Yard_close_cell : He.DefD := ⟨("Yard", some "close_cell"), "close_cell", "Yard.close_cell", defArgs s_Yard_close_cell, defBody s_Yard_close_cell, defScope s_Yard_close_cell, [], []⟩
def D_processes : He.DefD := ⟨("processes", none), "processes", "processes", defArgs s_processes, defBody s_processes, defScope s_processes, [], []⟩
def D_ended : He.DefD := ⟨("ended", none), "ended", "ended", defArgs s_ended, defBody s_ended, defScope s_ended, [], []⟩
def D_charges : He.DefD := ⟨("charges", none), "charges", "charges", defArgs s_charges, defBody s_charges, defScope s_charges, [], []⟩
def D_groups : He.DefD := ⟨("groups", none), "groups", "groups", defArgs s_groups, defBody s_groups, defScope s_groups, [], []⟩
def D_stores : He.DefD := ⟨("stores", none), "stores", "stores", defArgs s_stores, defBody s_stores, defScope s_stores, [], []⟩
def D_cells : He.DefD := ⟨("cells", none), "cells", "cells", defArgs s_cells, defBody s_cells, defScope s_cells, [], []⟩
def D_rooms : He.DefD := ⟨("rooms", none), "rooms", "rooms", defArgs s_rooms, defBody s_rooms, defScope s_rooms, [], []⟩
def D__law_class : He.DefD := ⟨("_law_class", none), "_law_class", "_law_class", defArgs s__law_class, defBody s__law_class, defScope s__law_class, [], []⟩
def D__law_told : He.DefD := ⟨("_law_told", none), "_law_told", "_law_told", defArgs s__law_told, defBody s__law_told, defScope s__law_told, [], []⟩
def D_Deeds_wait_for : He.DefD := ⟨("Yard", some "wait_for"), "wait_for", "Deeds.wait_for", defArgs s_Deeds_wait_for, defBody s_Deeds_wait_for, defScope s_Deeds_wait_for, [], []⟩
def D_Yard_wait : He.DefD := ⟨("Yard", some "wait"), "wait", "Yard.wait", defArgs s_Yard_wait, defBody s_Yard_wait, defScope s_Yard_wait, [], []⟩
def D_law : He.DefD := ⟨("law", none), "law", "law", defArgs s_law, defBody s_law, defScope s_law, [], []⟩
def D_Capped_init : He.DefD := ⟨("Capped", some "__init__"), "__init__", "Capped.__init__", defArgs s_Capped_init, defBody s_Capped_init, defScope s_Capped_init, [], []⟩
def D_Frozen_init : He.DefD := ⟨("Frozen", some "__init__"), "__init__", "Frozen.__init__", defArgs s_Frozen_init, defBody s_Frozen_init, defScope s_Frozen_init, [], []⟩
def D_Over_init : He.DefD := ⟨("Over", some "__init__"), "__init__", "Over.__init__", defArgs s_Over_init, defBody s_Over_init, defScope s_Over_init, [], []⟩
def fns0 : List He.DefD := [D_Group___init__, D_Groups___init__, D_Numbers___init__, D_Rooms___init__, D_Process___init__, D_Rooms_new_key, D_Rooms_new_numbers, D_Rooms_new_mounts, D_Rooms_new_boxes, D_Rooms_rooms_up, D_Rooms_number_all, D_Yards_add_process, D_Yards___init__, D_Yard___init__, D__law_pick, D_is_name, D_Groups_look_group, D_is_whole, D_are_caps, D_look_caps]
def fns1 : List He.DefD := [D_Groups_look_lowered, D_Groups_way_up, D_Groups_within, D_Yards_all_of, D_Yards_held_heads, D_Yards_held_units, D_Deeds_put_caps, D_Yard_note, D_Yard_set_caps, D_look_name, D_is_path, D_are_words, D_is_file, D_is_layer, D_are_layers, D_look_layers, D_look_whole, D_Yard_look_new_cell, D_Groups_barred, D_Yards_look_heads]
def fns2 : List He.DefD := [D_Groups_add_group, D_flat_of, D_Deeds_make_store, D_Yard_open_cell, D_Yards_look_process, D_Groups_cold_by, D_Yards_look_actor, D_are_kinds, D_Deeds_make_process, D_Yard_spawn, D_Yard_make_group, D_Yards_look_units, D_Deeds_put_group, D_Yard_move, D_look_path, D_Deeds_drop_mount, D_Yard_unmount, D_Deeds_add_units, D_Yard_grow, D_Yard_look_cell]
def fns3 : List He.DefD := [D_Yards_list_processes, D_Yard___len__, D_Yards_heir_of, D_Yards_young_of, D_Yards_drop_process, D_Yards_put_end, D_Rooms_lies_in, D_Rooms_sweep, D_Yards_end_room, D_Yard_close_cell, D_processes, D_ended, D_charges, D_groups, D_stores, D_cells, D_rooms, D__law_class, D__law_told, D_Deeds_wait_for]
def fns4 : List He.DefD := [D_Yard_wait, D_law, D_Capped_init, D_Frozen_init, D_Over_init]
def fns : List He.DefD := fns0 ++ (fns1 ++ (fns2 ++ (fns3 ++ (fns4))))
def mbs : List (PySem.W.Frag → Bool) := [(fun K => He.tupB K "KINDS" [.str "numbers", .str "mounts", .str "boxes"]), (fun K => He.tupB K "NOTHING" [.int (0 : Int), .int (1 : Int)]), (fun K => offB K "Groups" "__init__"), (fun K => offB K "Deeds" "__init__"), (fun K => nilB K (kwdAt ("Yard", some "spawn") "fresh" K)), (fun K => errsB errL "CellError" K), (fun K => tabsB lamL K), (fun K => oexB K (He.ga K "Capped") && (He.eqO (PySem.W.findIn K (.ref (He.ga K "Capped")) "__init__") (some (some (.ref (He.ma K (He.ga K "Capped") "__init__")))) && decide (PySem.W.typeIn K (.ref (He.ma K (He.ga K "Capped") "__init__")) = some (.type "function")))), (fun K => oexB K (He.ga K "Frozen") && (He.eqO (PySem.W.findIn K (.ref (He.ga K "Frozen")) "__init__") (some (some (.ref (He.ma K (He.ga K "Frozen") "__init__")))) && decide (PySem.W.typeIn K (.ref (He.ma K (He.ga K "Frozen") "__init__")) = some (.type "function")))), (fun K => oexB K (He.ga K "Over") && (He.eqO (PySem.W.findIn K (.ref (He.ga K "Over")) "__init__") (some (some (.ref (He.ma K (He.ga K "Over") "__init__")))) && decide (PySem.W.typeIn K (.ref (He.ma K (He.ga K "Over") "__init__")) = some (.type "function")))), (fun K => baseIB K (He.ga K "CellError")), (fun K => decide (PySem.W.mroIn K (He.ga K "Process") (.type "object") = some true) && He.eqO (PySem.W.findIn K (.ref (He.ga K "Process")) "__eq__") (some (some (.builtin "object.__eq__"))))]
def mb (K : PySem.W.Frag) : Bool := mbs.all fun f => f K
def loose0 : List Str := ["_wall", "CellError", "NoNumber", "NoName", "NoWants", "NoLayers", "NoPath", "NoWords", "NoKinds", "NoProcess"]
def loose1 : List Str := ["NoGroup", "NoStore", "NoCell", "Taken", "Itself", "Frozen", "Capped", "Over", "TooFew", "Guarded"]
def loose2 : List Str := ["NoSuch", "NoChild", "NotYet", "NoMount", "Fixed", "NoFile", "Held", "NotClosed", "NoPicture", "NoDeeds"]
def loose3 : List Str := ["NoText", "is_whole", "look_whole", "is_name", "look_name", "Group", "are_caps", "look_caps", "Groups", "is_path"]
def loose4 : List Str := ["look_path", "are_words", "look_words", "is_file", "is_layer", "are_layers", "look_layers", "flat_of", "Numbers", "Rooms"]
def loose5 : List Str := ["Process", "Yards", "are_kinds", "Deeds", "indexed", "all_rooms", "look_closed", "process_row", "picture_of", "Yard"]
def loose6 : List Str := ["processes", "ended", "groups", "charges", "stores", "rooms", "cells", "_law_pick", "_law_class", "_law_told"]
def loose7 : List Str := ["SMALL", "LONGEST_NAME", "NOTHING", "ROOT", "MOST_HEFT", "MOST_CAP", "MOST_LAYERS", "MOST_FILES", "DEEPEST", "LONGEST"]
def loose8 : List Str := ["SIGNS", "NUMBERS", "MOUNTS", "BOXES", "KINDS", "FIRST", "MOST_UNITS"]
def loose : List Str := loose0 ++ (loose1 ++ (loose2 ++ (loose3 ++ (loose4 ++ (loose5 ++ (loose6 ++ (loose7 ++ (loose8))))))))
abbrev R : PySem.W.OpenRow := PySem.W.OpenLaw.row PySem.Challenge.rw_cellyard_k48_whole_closed_with_others
abbrev hk : PySem.W.Hook := hookI 5 fa fns mb
abbrev vq := PySem.W.view R.prog [98]
noncomputable abbrev EF (w : World) (os : OsState) := HandSHeadRun.endF (HandSHeadRun.stepQ (HandSHeadRun.denQ HandSHeadRun.tabQ) R.prog w) 40000 R.prog w os
theorem run1 (w : World) (os : OsState) : (EF w os).map (fun s => HandSHeadRun.looksF R.prog (PySem.W.boot_heap w.params) s.abs) = some true := by kernel_rfl
theorem run2 (w : World) (os : OsState) : (EF w os).map (fun s => HandSHeadRun.seenQ vq loose (PySem.importedModules R.prog.main.body) (fun s => PySem.W.xlAt vq [] s && PySem.W.recOk R.toRowW.records s) s.abs) = some (PySem.W.openGood vq loose) := by kernel_rfl
theorem run3_0 (w : World) (os : OsState) : (EF w os).map (fun s => (fa0 ++ (fa1 ++ (fa2 ++ (fa3 ++ (fa4 ++ (fa5)))))).all fun f => f.ok (kfX s)) = some true := by kernel_rfl
theorem run3_1 (w : World) (os : OsState) : (EF w os).map (fun s => (fa6 ++ (fa7 ++ (fa8 ++ (fa9 ++ (fa10))))).all fun f => f.ok (kfX s)) = some true := by kernel_rfl
theorem run4 (w : World) (os : OsState) : (EF w os).map (fun s => (fns.all fun d => d.ok (kfX s), fns.map fun d => He.fnW (kfX s) d.at_)) = some (true, fns.map He.DefD.val) := by kernel_rfl
theorem run5 (w : World) (os : OsState) : (EF w os).map (fun s => mb (kfX s)) = some true := by kernel_rfl
theorem run3 (w : World) (os : OsState) : (EF w os).map (fun s => fa.all fun f => f.ok (kfX s)) = some true := all_same (by simp only [fa, List.append_assoc, List.append_nil]) (all_two (run3_0 w os) (run3_1 w os))
theorem run (w : World) : HandSHeadRun.RunEq R (PySem.W.view R.prog [98]) hk (obI 5 fa fns mb) 40000 loose w := fun os => run_of (run1 w os) (run2 w os) (run3 w os) (run4 w os) (run5 w os)
end K48

/-! An interpreter of a part of Python, as functions on data (no model in sight); second form: objects, dicts, exceptions. -/
namespace IP
open PySem (Str)

/-- data. ctp: a tuple of the written part; lst, dct: a list, a dict that nobody changes any more; ref k n: place n among our things of kind k; scr: the script; ownL, ownD: a list, a dict that one name alone holds; cls: a def or class as a value; exn: the error that is handled, of class c -/
inductive D where
  | non | bl (b : Bool) | int (i : Int) | str (s : Str)
  | tup (xs : List D) | ctp (xs : List D) | lst (xs : List D) | dct (t : Bool) (rows : List (D × D)) | ref (k n : Nat) | scr (xs : List D)
  | ownL (xs : List D) | ownD (t : Bool) (rows : List (D × D)) | cls (k : Nat) | exn (c : Nat)
  deriving Inhabited

/-- what stands at a place. dct t lk: keys are tuples, it is being walked; ins c: an instance of class c -/
inductive O where
  | lst (xs : List D)
  | dct (t lk : Bool) (rows : List (D × D))
  | ins (c : Nat) (fs : List (Option D))
  | gone
  deriving Inhabited

/-- things by kinds: 0 lists, 1 dicts, then objects -/
abbrev Hp := List (List O)
abbrev Lo := List (Option D)
noncomputable section
/-- l[n]?, l.set n a: by the recursor, which the kernel runs well -/
def nth {α : Type} (l : List α) : Nat → Option α := @List.rec α (fun _ => Nat → Option α) (fun _ => none) (fun a _ ih n => @Nat.rec (fun _ => Option α) (some a) (fun m _ => ih m) n) l
theorem nth_eq {α : Type} : ∀ (l : List α) (n : Nat), nth l n = l[n]?
  | [], _ => rfl
  | a :: l, 0 => rfl
  | a :: l, n + 1 => (nth_eq l n).trans (by simp)
def setN {α : Type} (x : α) (l : List α) : Nat → List α := @List.rec α (fun _ => Nat → List α) (fun _ => []) (fun a r ih n => @Nat.rec (fun _ => List α) (x :: r) (fun m _ => a :: ih m) n) l
theorem setN_eq {α : Type} (x : α) : ∀ (l : List α) (n : Nat), setN x l n = l.set n x
  | [], _ => rfl
  | a :: l, 0 => rfl
  | a :: l, n + 1 => congrArg (a :: ·) (setN_eq x l n)
def Hp.get (h : Hp) (k n : Nat) : Option O := match nth h k with
  | some l => nth l n
  | none => none
theorem Hp.get_def (h : Hp) (k n : Nat) : h.get k n = match h[k]? with
  | some l => l[n]?
  | none => none := by
  unfold Hp.get
  rw [nth_eq]
  cases h[k]? with
  | none => rfl
  | some l => exact nth_eq l n
def Hp.put (h : Hp) (k n : Nat) (o : O) : Hp := match nth h k with
  | some l => setN (setN o l n) h k
  | none => h
theorem Hp.put_def (h : Hp) (k n : Nat) (o : O) : h.put k n o = h.modify k fun l => l.set n o := by
  unfold Hp.put
  rw [nth_eq]
  cases e : h[k]? with
  | none =>
    show h = _
    rw [List.modify_eq_self]
    exact List.getElem?_eq_none_iff.mp e
  | some l =>
    show setN (setN o l n) h k = _
    rw [setN_eq, setN_eq]
    refine List.ext_getElem? fun j => ?_
    rw [List.getElem?_modify, List.getElem?_set]
    by_cases c : k = j
    · subst c
      have hl : k < h.length := (List.getElem?_eq_some_iff.mp e).1
      rw [if_pos rfl, if_pos hl, e]
      simp
    · rw [if_neg c]
      simp [c]
def Hp.len (h : Hp) (k : Nat) : Nat := match h[k]? with
  | some l => l.length
  | none => 0
def Hp.new (h : Hp) (k : Nat) (o : O) : Hp := h.modify k fun l => l ++ [o]
def h0 : Hp := [[], [], [], [], [], [], []]

/-- a run's end; exc: an exception of class c, with what its field bears -/
inductive R (α : Type) where
  | ok (a : α) (h : Hp)
  | exc (c : Nat) (p : Option D) (h : Hp)
  | no
inductive Fl where
  | nxt (σ : Lo) | ret (d : D) | brk (σ : Lo) | cnt (σ : Lo) | exc (c : Nat) (p : Option D) (σ : Lo)

def R.bnd {α β : Type} (r : R α) (f : α → Hp → R β) : R β := match r with
  | .ok a h => f a h
  | .exc c p h => .exc c p h
  | .no => .no
/-- nothing is raised here -/
def R.calm {α : Type} (r : R α) : R α := match r with
  | .exc _ _ _ => .no
  | r => r
def opt {α β : Type} (o : Option α) (f : α → R β) : R β := match o with
  | some a => f a
  | none => .no
def grd {α : Type} (b : Bool) (r : R α) : R α := match b with
  | true => r
  | false => .no

abbrev E := Lo → Hp → R D
abbrev T := Lo → Hp → R Bool
abbrev A := Lo → Hp → R (List D)
abbrev S := Lo → Hp → R Fl
abbrev G := D → Lo → Hp → R Lo
abbrev Fn := List D → Hp → R D

/-! ### data as the library has it; equality -/
mutual
def toP : D → PySem.PyData
  | .non => .none
  | .bl b => .bool b
  | .int i => .int i
  | .str s => .str s
  | .tup xs => .tuple (toPs xs)
  | .ctp xs => .tuple (toPs xs)
  | .lst xs => .list (toPs xs)
  | .scr xs => .list (toPs xs)
  | .dct _ _ => .dict []
  | .ref _ _ => .dict []
  | .ownL _ => .dict []
  | .ownD _ _ => .dict []
  | .cls _ => .dict []
  | .exn _ => .dict []
def toPs : List D → List PySem.PyData
  | [] => []
  | x :: xs => toP x :: toPs xs
end
/-- may be compared -/
def plain (d : D) : Bool := (toP d).canLay0 && decide ((toP d).depth ≤ 64)
def eqNs : List Nat → List Nat → Bool
  | [], [] => true
  | x :: xs, y :: ys => Nat.beq x y && eqNs xs ys
  | _, _ => false
/-- the same text -/
def eqS (a b : Str) : Bool := eqNs a.cps.toList b.cps.toList
theorem eqNs_iff : ∀ xs ys : List Nat, eqNs xs ys = decide (xs = ys)
  | [], [] => by simp [eqNs]
  | [], _ :: _ => by simp [eqNs]
  | _ :: _, [] => by simp [eqNs]
  | x :: xs, y :: ys => by
    show (Nat.beq x y && eqNs xs ys) = _
    rw [eqNs_iff xs ys]
    have e : Nat.beq x y = decide (x = y) := by
      rw [Bool.eq_iff_iff, Nat.beq_eq, decide_eq_true_iff]
    rw [e]
    by_cases h : x = y <;> by_cases h2 : xs = ys <;> simp [h, h2]
theorem eqS_iff (a b : Str) : eqS a b = decide (a = b) := by
  unfold eqS
  rw [eqNs_iff]
  by_cases h : a = b
  · subst h; simp
  · rw [decide_eq_false h, decide_eq_false]
    intro z
    apply h
    cases a
    cases b
    simp at z
    rw [z]
/-- scalars -/
def sc : D → D → Option Bool
  | .int i, .int j => some (decide (i = j))
  | .str a, .str b => some (eqS a b)
  | .non, .non => some true
  | .bl a, .bl b => some (a == b)
  | .int _, .str _ => some false
  | .str _, .int _ => some false
  | .non, .int _ => some false
  | .int _, .non => some false
  | .non, .str _ => some false
  | .str _, .non => some false
  | _, _ => none
/-- lists of unlike lengths -/
def lnNe : D → D → Bool
  | .lst xs, .lst ys => !Nat.beq xs.length ys.length
  | _, _ => false
def eqD (a b : D) : Option Bool := match sc a b with
  | some r => some r
  | none => if lnNe a b then some false else if plain a && plain b then some (PySem.PyData.eqv (toP a) (toP b)) else none
def plainL (xs : List D) : Bool := plain (.lst xs)

/-! ### keys of dicts -/
def isK : D → Bool
  | .int _ => true
  | .str _ => true
  | _ => false
def eqK : D → D → Bool
  | .int i, .int j => decide (i = j)
  | .str s, .str t => eqS s t
  | _, _ => false
def eqKs : List D → List D → Bool
  | [], [] => true
  | x :: xs, y :: ys => eqK x y && eqKs xs ys
  | _, _ => false
/-- a key of a dict of this form -/
def isKey : Bool → D → Bool
  | false, d => isK d
  | true, .tup xs => xs.all isK
  | true, _ => false
def eqKey : D → D → Bool
  | .tup xs, .tup ys => eqKs xs ys
  | a, b => eqK a b
def look (k : D) : List (D × D) → Option D
  | [] => none
  | (a, d) :: r => if eqKey a k then some d else look k r
def repl (k v : D) : List (D × D) → List (D × D)
  | [] => []
  | (a, d) :: r => if eqKey a k then (a, v) :: repl k v r else (a, d) :: repl k v r
def putR (k v : D) (rows : List (D × D)) : List (D × D) := if (look k rows).isSome then repl k v rows else rows ++ [(k, v)]
def dropR (k : D) : List (D × D) → List (D × D)
  | [] => []
  | (a, d) :: r => if eqKey a k then dropR k r else (a, d) :: dropR k r
def bigD : Nat := 100000

/-! ### expressions -/
def eLoc (i : Nat) : E := fun σ h => match nth σ i with
  | some (some (.ownL _)) => .no
  | some (some (.ownD _ _)) => .no
  | some (some d) => .ok d h
  | _ => .no
def eCst (d : D) : E := fun _ h => .ok d h
def one (f : D → Hp → R D) (a : E) : E := fun σ h => (a σ h).bnd f
def two (f : D → D → Hp → R D) (a b : E) : E := fun σ h => (a σ h).bnd fun x h => (b σ h).bnd fun y h => f x y h
def three (f : D → D → D → Hp → R D) (a b c : E) : E := fun σ h => (a σ h).bnd fun x h => (b σ h).bnd fun y h => (c σ h).bnd fun z h => f x y z h

def small (i : Int) : Bool := decide (-(2 ^ 64) < i) && decide (i < 2 ^ 64)
/-- so many bits at most -/
def bits (i : Int) : Nat := i.natAbs.log2
def fAdd : D → D → Hp → R D
  | .int i, .int j, h => .ok (.int (i + j)) h
  | .lst xs, .lst ys, h => if xs.length + ys.length ≤ bigD then .ok (.lst (xs ++ ys)) h else .no
  | .tup xs, .tup ys, h => if xs.length + ys.length ≤ bigD then .ok (.tup (xs ++ ys)) h else .no
  | .str a, .str b, h => if a.cps.size + b.cps.size ≤ bigD then .ok (.str ⟨a.cps ++ b.cps⟩) h else .no
  | _, _, _ => .no
def fSub : D → D → Hp → R D
  | .int i, .int j, h => .ok (.int (i - j)) h
  | _, _, _ => .no
def mulOk (i j : Int) : Bool := small i || small j || decide (bits i + bits j < 1000000)
def fMul : D → D → Hp → R D
  | .int i, .int j, h => if mulOk i j then .ok (.int (i * j)) h else .no
  | .lst xs, .int k, h => if decide (k ≤ 100000) && decide (-100000 ≤ k) && decide (xs.length * k.toNat ≤ 100000) then .ok (.lst (List.replicate k.toNat xs).flatten) h else .no
  | _, _, _ => .no
def fFdv : D → D → Hp → R D
  | .int i, .int j, h => if decide (0 < j) && decide (bits j < 9000) then .ok (.int (i / j)) h else .no
  | _, _, _ => .no
def fMod : D → D → Hp → R D
  | .int i, .int j, h => if 0 < j then .ok (.int (i % j)) h else .no
  | _, _, _ => .no
def fPow : D → D → Hp → R D
  | .int i, .int j, h => if decide (0 ≤ j) && decide (j ≤ 1000) && decide (0 ≤ i) && decide (i ≤ 1000) then .ok (.int (i ^ j.toNat)) h else .no
  | _, _, _ => .no
def fCmp (p : Int → Int → Bool) : D → D → Hp → R D
  | .int i, .int j, h => .ok (.bl (p i j)) h
  | _, _, _ => .no
abbrev fLt := fCmp fun i j => decide (i < j)
abbrev fLe := fCmp fun i j => decide (i ≤ j)
abbrev fGt := fCmp fun i j => decide (j < i)
abbrev fGe := fCmp fun i j => decide (j ≤ i)
def fEq : D → D → Hp → R D := fun a b h => opt (eqD a b) fun r => .ok (.bl r) h
def fNe : D → D → Hp → R D := fun a b h => opt (eqD a b) fun r => .ok (.bl (!r)) h
/-- is None -/
def isN : D → Bool
  | .non => true
  | _ => false
def fIsN : D → Hp → R D := fun d h => .ok (.bl (isN d)) h
def fNotN : D → Hp → R D := fun d h => .ok (.bl (!isN d)) h
def fNeg : D → Hp → R D
  | .int i, h => .ok (.int (-i)) h
  | _, _ => .no
def memD (x : D) (xs : List D) : Option Bool := if plain x && plainL xs then some (xs.any fun y => PySem.PyData.eqv (toP y) (toP x)) else none
def strsD : List D → Option (List Str)
  | [] => some []
  | .str i :: r => match strsD r with
    | some is => some (i :: is)
    | none => none
  | _ :: _ => none
/-- a dict to be read -/
def dctAt : D → Hp → Option (Bool × List (D × D))
  | .dct t rows, _ => some (t, rows)
  | .ref k n, h => (match h.get k n with
    | some (.dct t _ rows) => some (t, rows)
    | _ => none)
  | _, _ => none
def seqOf : D → Option (List D)
  | .tup xs => some xs
  | .ctp xs => some xs
  | .lst xs => some xs
  | _ => none
/-- x in y: of a list or tuple of plain data, of a dict, of a text (one sign) -/
def fIn : D → D → Hp → R D
  | x, .lst xs, h => opt (memD x xs) fun r => .ok (.bl r) h
  | .str s, .tup xs, h => opt (strsD xs) fun ss => .ok (.bl (ss.any fun t => eqS t s)) h
  | .str s, .ctp xs, h => opt (strsD xs) fun ss => .ok (.bl (ss.any fun t => eqS t s)) h
  | .str a, .str b, h => match a.cps.toList with
    | [c] => .ok (.bl (b.cps.toList.contains c)) h
    | _ => .no
  | x, y, h => opt (dctAt y h) fun p => grd (isKey p.1 x) (.ok (.bl (look x p.2).isSome) h)
def notR : D → Hp → R D
  | .bl b, h => .ok (.bl (!b)) h
  | _, _ => .no
def fNotIn : D → D → Hp → R D := fun x y h => (fIn x y h).bnd notR
/-- places in a row, from the end where below 0 -/
def ixAt (n : Nat) (i : Int) : Option Nat := if 0 ≤ i then some i.toNat else if -(n : Int) ≤ i then some ((n : Int) + i).toNat else none
def atD (xs : List D) (i : Int) : Option D := match ixAt xs.length i with
  | some k => nth xs k
  | none => none
def atN (xs : List Nat) (i : Int) : Option Nat := match ixAt xs.length i with
  | some k => xs[k]?
  | none => none
/-- a list to be read by its items -/
def rowAt : D → Hp → Option (List D)
  | .tup xs, _ => some xs
  | .ctp xs, _ => some xs
  | .lst xs, _ => some xs
  | .scr xs, _ => some xs
  | .ref k n, h => (match h.get k n with
    | some (.lst xs) => some xs
    | _ => none)
  | _, _ => none
def fIdx : D → D → Hp → R D := fun x y h => match rowAt x h with
  | some xs => (match y with
    | .int i => opt (atD xs i) fun d => .ok d h
    | _ => .no)
  | none => (match x, y with
    | .str s, .int i => if s.cps.size ≤ bigD then opt (atN s.cps.toList i) fun c => .ok (.str ⟨#[c]⟩) h else .no
    | _, _ => opt (dctAt x h) fun p => grd (isKey p.1 y) (opt (look y p.2) fun d => .ok d h))
/-- d.get(k, x) -/
def fGet2 : D → D → D → Hp → R D := fun x y z h => opt (dctAt x h) fun p => grd (isKey p.1 y) (.ok ((look y p.2).getD z) h)

/-! ### slices -/
abbrev Pt := Lo → Hp → R (Option Int)
def pNo : Pt := fun _ h => .ok none h
def pAt (e : E) : Pt := fun σ h => (e σ h).bnd fun x h => match x with
  | .int i => .ok (some i) h
  | _ => .no
def sIx (n d : Nat) : Option Int → Nat
  | none => d
  | some v => if v < 0 then (v + (n : Int)).toNat else min v.toNat n
def cut {α : Type} (xs : List α) (lo hi : Option Int) : List α := (xs.drop (sIx xs.length 0 lo)).take (sIx xs.length xs.length hi - sIx xs.length 0 lo)
def fSl : D → Option Int → Option Int → Hp → R D
  | .lst xs, l, u, h => .ok (.lst (cut xs l u)) h
  | .tup xs, l, u, h => .ok (.tup (cut xs l u)) h
  | .str s, l, u, h => if s.cps.size ≤ bigD then .ok (.str ⟨(cut s.cps.toList l u).toArray⟩) h else .no
  | _, _, _, _ => .no
def eSl (e : E) (a b : Pt) : E := fun σ h => (e σ h).bnd fun x h => (a σ h).bnd fun l h => (b σ h).bnd fun u h => fSl x l u h
/-- xs[::-1] -/
def fRev : D → Hp → R D
  | .lst xs, h => .ok (.lst xs.reverse) h
  | _, _ => .no

/-! ### tests -/
def tVal (e : E) : T := fun σ h => (e σ h).bnd fun x h => match x with
  | .bl b => .ok b h
  | _ => .no
def tAnd (a b : T) : T := fun σ h => (a σ h).bnd fun x h => match x with
  | true => b σ h
  | false => .ok false h
def tOr (a b : T) : T := fun σ h => (a σ h).bnd fun x h => match x with
  | true => .ok true h
  | false => b σ h
def tNot (a : T) : T := fun σ h => (a σ h).bnd fun x h => .ok (!x) h
/-- and, or of truths, as values -/
def eAnd (a b : E) : E := fun σ h => (a σ h).bnd fun x h => match x with
  | .bl true => b σ h
  | .bl false => .ok (.bl false) h
  | _ => .no
def eOr (a b : E) : E := fun σ h => (a σ h).bnd fun x h => match x with
  | .bl false => b σ h
  | .bl true => .ok (.bl true) h
  | _ => .no
def eNot (a : E) : E := fun σ h => (a σ h).bnd notR
def eIf (c : T) (a b : E) : E := fun σ h => (c σ h).bnd fun x h => match x with
  | true => a σ h
  | false => b σ h
def eChain (f g : D → D → Hp → R D) (a b c : E) : E := fun σ h => (a σ h).bnd fun x h => (b σ h).bnd fun y h => (f x y h).bnd fun z h => match z with
  | .bl true => (c σ h).bnd fun w h => g y w h
  | .bl false => .ok (.bl false) h
  | _ => .no

/-! ### arguments, displays, calls -/
def aNil : A := fun _ h => .ok [] h
def aCons (e : E) (r : A) : A := fun σ h => (e σ h).bnd fun x h => (r σ h).bnd fun xs h => .ok (x :: xs) h
def eTup (a : A) : E := fun σ h => (a σ h).bnd fun xs h => if xs.length ≤ bigD then .ok (.tup xs) h else .no
def eLst (a : A) : E := fun σ h => (a σ h).bnd fun xs h => if xs.length ≤ bigD then .ok (.lst xs) h else .no
/-- laid among our things -/
def lay (k : Nat) (o : O) (h : Hp) : R D := if k < h.length then .ok (.ref k (h.len k)) (h.new k o) else .no
/-- a list that will grow -/
def eMkl (a : A) : E := fun σ h => (a σ h).bnd fun xs h => if xs.length ≤ bigD then lay 0 (.lst xs) h else .no
/-- {} that will grow; {} that stays -/
def eMkd (t : Bool) : E := fun _ h => lay 1 (.dct t false []) h
def eDct0 (t : Bool) : E := fun _ h => .ok (.dct t []) h
/-- {k: v, ..} written -/
def prs (t : Bool) : List D → List D → Option (List (D × D))
  | [], [] => some []
  | k :: ks, v :: vs => if isKey t k then (match prs t ks vs with
    | some r => some ((k, v) :: r)
    | none => none) else none
  | _, _ => none
def merge (rows : List (D × D)) : List (D × D) → List (D × D)
  | [] => rows
  | (k, v) :: r => merge (putR k v rows) r
def eCall (np : Nat) (f : Fn) (a : A) : E := fun σ h => (a σ h).bnd fun xs h => grd (xs.length == np) (f xs h)
/-- the object's class is one of these -/
def clsAt : D → Hp → Option Nat
  | .ref k n, h => (match h.get k n with
    | some (.ins c _) => some c
    | _ => none)
  | _, _ => none
/-- o.m(..) -/
def eMeth (cs : List Nat) (np : Nat) (f : Fn) (o : E) (a : A) : E := fun σ h => (o σ h).bnd fun x h => opt (clsAt x h) fun c => grd (cs.contains c) ((a σ h).bnd fun xs h => grd ((x :: xs).length == np) (f (x :: xs) h))
/-- C(..): nf fields, not yet set -/
def eMake (k c nf np : Nat) (f : Fn) (a : A) : E := fun σ h => (a σ h).bnd fun xs h => (lay k (.ins c (List.replicate nf none)) h).bnd fun x h => grd ((x :: xs).length == np) ((f (x :: xs) h).bnd fun d h => match d with
  | .non => .ok x h
  | _ => .no)
def fldAt (cs : List Nat) (i : Nat) : D → Hp → Option D
  | .ref k n, h => (match h.get k n with
    | some (.ins c fs) => if cs.contains c then (match nth fs i with
      | some (some d) => some d
      | _ => none) else none
    | _ => none)
  | _, _ => none
def fFld (cs : List Nat) (i : Nat) : D → Hp → R D := fun x h => opt (fldAt cs i x h) fun d => .ok d h
/-- those at these places -/
def pick {α : Type} : List Nat → List α → List α
  | [], _ => []
  | i :: ix, xs => match xs[i]? with
    | some x => x :: pick ix xs
    | none => pick ix xs
/-- o.m(e, .., k = v, ..): dfl the defaults that fill up, ix the order of the parameters -/
def eMethK (cs : List Nat) (n nk : Nat) (dfl : List D) (ix : List Nat) (f : Fn) (o : E) (a k : A) : E := fun σ h => (o σ h).bnd fun x h => opt (clsAt x h) fun c => grd (cs.contains c) ((a σ h).bnd fun xs h => (k σ h).bnd fun ys h => grd ((x :: xs).length == n && ys.length == nk) (f (pick ix ((x :: xs) ++ (dfl ++ ys))) h))
/-- f(e, .., k = v, ..) -/
def eCallK (n nk : Nat) (dfl : List D) (ix : List Nat) (f : Fn) (a k : A) : E := fun σ h => (a σ h).bnd fun xs h => (k σ h).bnd fun ys h => grd (xs.length == n && ys.length == nk) (f (pick ix (xs ++ (dfl ++ ys))) h)

/-! ### lists among our things -/
def isL : D → Hp → Bool
  | .ref k n, h => (match h.get k n with
    | some (.lst _) => true
    | _ => false)
  | _, _ => false
def lstAt : D → Hp → Option (Nat × Nat × List D)
  | .ref k n, h => (match h.get k n with
    | some (.lst xs) => some (k, n, xs)
    | _ => none)
  | _, _ => none
def fApp : D → D → Hp → R D := fun x d h => opt (lstAt x h) fun p => if p.2.2.length < bigD then .ok .non (h.put p.1 p.2.1 (.lst (p.2.2 ++ [d]))) else .no
def eApp (o : E) (a : E) : E := fun σ h => (o σ h).bnd fun x h => grd (isL x h) ((a σ h).bnd fun d h => fApp x d h)
/-- a dict to be written -/
def wdAt : D → Hp → Option (Nat × Nat × Bool × List (D × D))
  | .ref k n, h => (match h.get k n with
    | some (.dct t false rows) => some (k, n, t, rows)
    | _ => none)
  | _, _ => none
/-- d[k] = v -/
def fPut : D → D → D → Hp → R D := fun x k v h => opt (wdAt x h) fun p => grd (isKey p.2.2.1 k && decide (p.2.2.2.length < bigD)) (.ok .non (h.put p.1 p.2.1 (.dct p.2.2.1 false (putR k v p.2.2.2))))
def isD : D → Hp → Bool := fun x h => (dctAt x h).isSome
/-- d.pop(k): it is there -/
def fPop1 : D → D → Hp → R D := fun x k h => opt (wdAt x h) fun p => grd (!p.2.2.1 && isK k) (opt (look k p.2.2.2) fun v => .ok v (h.put p.1 p.2.1 (.dct p.2.2.1 false (dropR k p.2.2.2))))
def ePop1 (o a : E) : E := fun σ h => (o σ h).bnd fun x h => grd (isD x h) ((a σ h).bnd fun k h => fPop1 x k h)
/-- d.pop(k, z) -/
def fPop2 : D → D → D → Hp → R D := fun x k z h => opt (wdAt x h) fun p => grd (!p.2.2.1 && isK k) (.ok ((look k p.2.2.2).getD z) (h.put p.1 p.2.1 (.dct p.2.2.1 false (dropR k p.2.2.2))))
def ePop2 (o a b : E) : E := fun σ h => (o σ h).bnd fun x h => grd (isD x h) ((a σ h).bnd fun k h => (b σ h).bnd fun z h => fPop2 x k z h)
def eGet2 (o a b : E) : E := fun σ h => (o σ h).bnd fun x h => grd (isD x h) ((a σ h).bnd fun k h => (b σ h).bnd fun z h => fGet2 x k z h)

/-! ### built-ins -/
def intsD : List D → Option (List Int)
  | [] => some []
  | .int i :: r => match intsD r with
    | some is => some (i :: is)
    | none => none
  | _ :: _ => none
def blsD : List D → Option (List Bool)
  | [] => some []
  | .bl i :: r => match blsD r with
    | some is => some (i :: is)
    | none => none
  | _ :: _ => none
def lenOf : D → Hp → Option Nat
  | .tup xs, _ => some xs.length
  | .ctp xs, _ => some xs.length
  | .lst xs, _ => some xs.length
  | .scr xs, _ => some xs.length
  | .str s, _ => if s.cps.size ≤ bigD then some s.cps.size else none
  | .dct false rows, _ => some rows.length
  | .ref k n, h => (match h.get k n with
    | some (.lst xs) => some xs.length
    | some (.dct false _ rows) => some rows.length
    | _ => none)
  | _, _ => none
def fLen : D → Hp → R D := fun d h => opt (lenOf d h) fun n => .ok (.int n) h
def fList : D → Hp → R D := fun d h => opt (seqOf d) fun xs => .ok (.lst xs) h
def fTuple : D → Hp → R D
  | .tup xs, h => .ok (.tup xs) h
  | .ctp xs, h => .ok (.ctp xs) h
  | .lst xs, h => .ok (.tup xs) h
  | _, _ => .no
def fSum : D → Hp → R D
  | .lst xs, h => opt (intsD xs) fun is => .ok (.int is.sum) h
  | _, _ => .no
def fAny : D → Hp → R D
  | .lst xs, h => opt (blsD xs) fun is => .ok (.bl (is.any id)) h
  | _, _ => .no
def fAll : D → Hp → R D
  | .lst xs, h => opt (blsD xs) fun is => .ok (.bl (is.all id)) h
  | _, _ => .no
def fMax : D → D → Hp → R D
  | .int i, .int j, h => .ok (.int (if j > i then j else i)) h
  | _, _, _ => .no
def fMin : D → D → Hp → R D
  | .int i, .int j, h => .ok (.int (if j < i then j else i)) h
  | _, _, _ => .no
/-- int(flag), int(n) -/
def fInt : D → Hp → R D
  | .bl b, h => .ok (.int (if b then 1 else 0)) h
  | .int i, h => .ok (.int i) h
  | _, _ => .no
inductive Ty where | int | bool | str | tuple | list
/-- isinstance of a built-in class -/
def isTy (t : Ty) : D → Bool := match t with
  | .int => fun | .int _ => true | .bl _ => true | _ => false
  | .bool => fun | .bl _ => true | _ => false
  | .str => fun | .str _ => true | _ => false
  | .tuple => fun | .tup _ => true | .ctp _ => true | _ => false
  | .list => fun | .lst _ => true | _ => false
def fIs (t : Ty) : D → Hp → R D := fun d h => match d with
  | .ref _ _ => .no
  | .scr _ => .no
  | .cls _ => .no
  | .exn _ => .no
  | .ownL _ => .no
  | .ownD _ _ => .no
  | .dct _ _ => .no
  | d => .ok (.bl (isTy t d)) h

/-! ### sorting -/
/-- put in its place among what rises -/
def insG {α : Type} (le : α → α → Bool) (x : α) : List α → List α
  | [] => [x]
  | y :: r => match le x y with
    | true => x :: y :: r
    | false => y :: insG le x r
def sortG {α : Type} (le : α → α → Bool) : List α → List α
  | [] => []
  | x :: r => insG le x (sortG le r)
def leI (a b : Int) : Bool := decide (a ≤ b)
def ltNs : List Nat → List Nat → Bool
  | [], [] => false
  | [], _ :: _ => true
  | _ :: _, [] => false
  | a :: r, b :: t => Nat.blt a b || (Nat.beq a b && ltNs r t)
def leS (a b : Str) : Bool := !ltNs b.cps.toList a.cps.toList
def leP (a b : Int × Int) : Bool := decide (a.1 < b.1) || (decide (a.1 = b.1) && decide (a.2 ≤ b.2))
def pairsD : List D → Option (List (Int × Int))
  | [] => some []
  | .tup [.int i, .int j] :: r => match pairsD r with
    | some rs => some ((i, j) :: rs)
    | none => none
  | _ :: _ => none
def pairD (p : Int × Int) : D := .tup [.int p.1, .int p.2]
/-- ints, texts (few) -/
def sortK (xs : List D) : Option (List D) := match intsD xs with
  | some is => some ((sortG leI is).map D.int)
  | none => match strsD xs with
    | some ss => if ss.length < 64 then some ((sortG leS ss).map D.str) else none
    | none => none
def sortD (xs : List D) : Option (List D) := match sortK xs with
  | some r => some r
  | none => match pairsD xs with
    | some ps => some ((sortG leP ps).map pairD)
    | none => none
/-- sorted(x): a list, a dict with few keys -/
def fSorted : D → Hp → R D := fun d h => match d with
  | .lst xs => opt (sortD xs) fun r => .ok (.lst r) h
  | _ => opt (dctAt d h) fun p => grd (decide (p.2.length < 64)) (match p.1 with
    | false => opt (sortK (p.2.map Prod.fst)) fun r => .ok (.lst r) h
    | true => .no)

/-! ### targets -/
def gLoc (i : Nat) : G := fun d σ h => .ok (σ.set i (some d)) h
def gNil : List D → Lo → Hp → R Lo := fun ds σ h => match ds with
  | [] => .ok σ h
  | _ => .no
def gCons (g : G) (r : List D → Lo → Hp → R Lo) : List D → Lo → Hp → R Lo := fun ds σ h => match ds with
  | d :: ds => (g d σ h).bnd fun σ h => r ds σ h
  | [] => .no
def gTup (n : Nat) (r : List D → Lo → Hp → R Lo) : G := fun d σ h => match d with
  | .tup ds => grd (ds.length == n) (r ds σ h)
  | .ctp ds => grd (ds.length == n) (r ds σ h)
  | _ => .no
def fSetF (cs : List Nat) (i : Nat) : D → D → Hp → R D
  | .ref k n, d, h => (match h.get k n with
    | some (.ins c fs) => grd (cs.contains c && decide (i < fs.length)) (.ok .non (h.put k n (.ins c (fs.set i (some d)))))
    | _ => .no)
  | _, _, _ => .no
/-- o.f as a target -/
def gFld (cs : List Nat) (i : Nat) (o : E) : G := fun d σ h => (o σ h).bnd fun x h => (fSetF cs i x d h).bnd fun _ h => .ok σ h
/-- o[i] as a target, o a dict -/
def gSub (o i : E) : G := fun d σ h => (o σ h).bnd fun x h => (i σ h).bnd fun k h => (fPut x k d h).bnd fun _ h => .ok σ h

/-! ### what is walked: all items at once -/
def keysOf : D → Option (List D)
  | .dct _ rows => some (rows.map Prod.fst)
  | _ => none
def walkOf : D → Option (List D)
  | .tup xs => some xs
  | .ctp xs => some xs
  | .lst xs => some xs
  | .dct _ rows => some (rows.map Prod.fst)
  | .str s => some (s.cps.toList.map fun c => .str ⟨#[c]⟩)
  | _ => none
def iSeq (e : E) : A := fun σ h => (e σ h).bnd fun d h => opt (walkOf d) fun xs => .ok xs h
def rng (lo : Int) : Nat → List D
  | 0 => []
  | n + 1 => .int lo :: rng (lo + 1) n
def okRng (j : Int) : Bool := decide (-1000000 ≤ j) && decide (j ≤ 1000000)
def iRng (e : E) : A := fun σ h => (e σ h).bnd fun d h => match d with
  | .int j => grd (okRng j) (.ok (rng 0 j.toNat) h)
  | _ => .no
def iRng2 (a b : E) : A := fun σ h => (a σ h).bnd fun d h => (b σ h).bnd fun e h => match d, e with
  | .int i, .int j => grd (okRng i && okRng j) (.ok (rng i (j - i).toNat) h)
  | _, _ => .no
def zipD : List D → List D → List D
  | x :: xs, y :: ys => .tup [x, y] :: zipD xs ys
  | _, _ => []
def iZip (a b : E) : A := fun σ h => (a σ h).bnd fun d h => (b σ h).bnd fun e h => match d, e with
  | .lst xs, .lst ys => .ok (zipD xs ys) h
  | _, _ => .no
def enmD (k : Nat) : List D → List D
  | [] => []
  | x :: xs => .tup [.int (k : Int), x] :: enmD (k + 1) xs
def iEnm (e : E) : A := fun σ h => (e σ h).bnd fun d h => match d with
  | .lst xs => .ok (enmD 0 xs) h
  | _ => .no
/-- reversed of a list -/
def iRev (e : E) : A := fun σ h => (e σ h).bnd fun d h => match d with
  | .lst xs => .ok xs.reverse h
  | _ => .no
/-- reversed(range(n)) -/
def iRevR (e : E) : A := fun σ h => (e σ h).bnd fun d h => match d with
  | .int j => grd (okRng j) (.ok (rng 0 j.toNat).reverse h)
  | _ => .no

/-! ### comprehensions -/
def wipe (σ : Lo) : List Nat → Lo
  | [] => σ
  | v :: vs => (wipe σ vs).set v none
/-- one turn: the target, the tests, the element -/
def lcElt (e : E) (σ : Lo) : Bool → Hp → R (Option D)
  | true, h => (e σ h).bnd fun d h => .ok (some d) h
  | false, h => .ok none h
def lcTurn (g : G) (t : T) (e : E) (σ : Lo) (x : D) (h : Hp) : R (Option D) := (g x σ h).bnd fun σ h => (t σ h).bnd (lcElt e σ)
def lcThen (again : List D → Hp → R (List D)) (acc : List D) : Option D → Hp → R (List D)
  | some d, h => if acc.length < bigD then again (acc ++ [d]) h else .no
  | none, h => again acc h
def lcGo (g : G) (t : T) (e : E) (σ : Lo) : List D → List D → Hp → R (List D)
  | [], acc, h => .ok acc h
  | x :: xs, acc, h => (lcTurn g t e σ x h).calm.bnd (lcThen (lcGo g t e σ xs) acc)
def eLc (vs : List Nat) (g : G) (i : A) (t : T) (e : E) : E := fun σ h => (i σ h).bnd fun xs h => (lcGo g t e (wipe σ vs) xs [] h).bnd fun ys h => .ok (.lst ys) h
def tYes : T := fun _ h => .ok true h
/-- {k: v for ..} -/
def dcElt (k v : E) (σ : Lo) : Bool → Hp → R (Option (D × D))
  | true, h => (k σ h).bnd fun a h => (v σ h).bnd fun d h => .ok (some (a, d)) h
  | false, h => .ok none h
def dcTurn (g : G) (t : T) (k v : E) (σ : Lo) (x : D) (h : Hp) : R (Option (D × D)) := (g x σ h).bnd fun σ h => (t σ h).bnd (dcElt k v σ)
def dcThen (tk : Bool) (again : List (D × D) → Hp → R (List (D × D))) (acc : List (D × D)) : Option (D × D) → Hp → R (List (D × D))
  | some p, h => grd (isKey tk p.1 && decide (acc.length < bigD)) (again (putR p.1 p.2 acc) h)
  | none, h => again acc h
def dcGo (tk : Bool) (g : G) (t : T) (k v : E) (σ : Lo) : List D → List (D × D) → Hp → R (List (D × D))
  | [], acc, h => .ok acc h
  | x :: xs, acc, h => (dcTurn g t k v σ x h).calm.bnd (dcThen tk (dcGo tk g t k v σ xs) acc)
def eDc (tk : Bool) (vs : List Nat) (g : G) (i : A) (t : T) (k v : E) : E := fun σ h => (i σ h).bnd fun xs h => (dcGo tk g t k v (wipe σ vs) xs [] h).bnd fun ys h => .ok (.dct tk ys) h
/-- .. that will grow -/
def eDcR (tk : Bool) (vs : List Nat) (g : G) (i : A) (t : T) (k v : E) : E := fun σ h => (i σ h).bnd fun xs h => (dcGo tk g t k v (wipe σ vs) xs [] h).bnd fun ys h => lay 1 (.dct tk false ys) h
/-- {k: v for g1 in i1 for g2 in i2} -/
def dc2Turn (tk : Bool) (g1 : G) (i2 : A) (vj : List Nat) (g2 : G) (k v : E) (σ : Lo) (x : D) (acc : List (D × D)) (h : Hp) : R (List (D × D)) := (g1 x σ h).bnd fun σ' h => (i2 σ' h).bnd fun ys h => dcGo tk g2 tYes k v (wipe σ' vj) ys acc h
def dc2Go (tk : Bool) (g1 : G) (i2 : A) (vj : List Nat) (g2 : G) (k v : E) (σ : Lo) : List D → List (D × D) → Hp → R (List (D × D))
  | [], acc, h => .ok acc h
  | x :: xs, acc, h => (dc2Turn tk g1 i2 vj g2 k v σ x acc h).calm.bnd (dc2Go tk g1 i2 vj g2 k v σ xs)
def eDc2 (tk : Bool) (vs : List Nat) (g1 : G) (i1 : A) (vj : List Nat) (g2 : G) (i2 : A) (k v : E) : E := fun σ h => (i1 σ h).bnd fun xs h => (dc2Go tk g1 i2 vj g2 k v (wipe σ vs) xs [] h).bnd fun ys h => .ok (.dct tk ys) h
/-- the pairs of {k: v, ..}, from the left -/
def ePrs : List (E × E) → Lo → Hp → R (List (D × D))
  | [], _, h => .ok [] h
  | p :: r, σ, h => (p.1 σ h).bnd fun a h => (p.2 σ h).bnd fun d h => (ePrs r σ h).bnd fun ps h => .ok ((a, d) :: ps) h
def okPrs (rows : List (D × D)) : Bool := rows.all (fun p => isKey false p.1) && decide (rows.length ≤ 15)
/-- .. that stays; that will grow -/
def eDisp (ps : List (E × E)) : E := fun σ h => (ePrs ps σ h).calm.bnd fun rows h => grd (okPrs rows) (.ok (.dct false (merge [] rows)) h)
def eDispR (ps : List (E × E)) : E := fun σ h => (ePrs ps σ h).calm.bnd fun rows h => grd (okPrs rows) (lay 1 (.dct false false (merge [] rows)) h)
/-- len(set(t)), t a tuple of unlike texts -/
def unl : List Str → Bool
  | [] => true
  | s :: r => !(r.any fun t => eqS t s) && unl r
def lenS (xs : List D) (h : Hp) : R D := opt (strsD xs) fun ss => grd (unl ss && decide (ss.length < 4096)) (.ok (.int (ss.length : Nat)) h)
def fLenS : D → Hp → R D
  | .tup xs, h => lenS xs h
  | .ctp xs, h => lenS xs h
  | _, _ => .no
/-- a dict of ours is walked by a comprehension: it stays the while -/
def setLk (b : Bool) : D → Hp → Option Hp
  | .ref k n, h => (match h.get k n with
    | some (.dct t lk rows) => if lk = b then none else some (h.put k n (.dct t b rows))
    | _ => none)
  | _, _ => none
/-- e reads the dict d while it is walked -/
def eLk (o e : E) : E := fun σ h => (o σ h).calm.bnd fun x h => opt (setLk true x h) fun h => (e σ h).calm.bnd fun d h => opt (setLk false x h) fun h => .ok d h
/-- the keys of a dict of ours that is being walked -/
def iLk (vals : Bool) (e : E) : A := fun σ h => (e σ h).bnd fun x h => match x with
  | .ref k n => (match h.get k n with
    | some (.dct _ true rows) => .ok (if vals then rows.map Prod.snd else rows.map Prod.fst) h
    | _ => .no)
  | _ => .no

/-! ### statements -/
/-- an expression within a statement: what it raises is in the air -/
def R.stm {α : Type} (r : R α) (σ : Lo) (f : α → Hp → R Fl) : R Fl := match r with
  | .ok a h => f a h
  | .exc c p h => .ok (.exc c p σ) h
  | .no => .no
def sPass : S := fun σ h => .ok (.nxt σ) h
def sAsg (g : G) (e : E) : S := fun σ h => (e σ h).stm σ fun d h => (g d σ h).calm.stm σ fun σ h => .ok (.nxt σ) h
/-- x = [..], x = {}: held by x alone -/
def sOwnL (i : Nat) (a : A) : S := fun σ h => (a σ h).stm σ fun xs h => if xs.length ≤ bigD then .ok (.nxt (σ.set i (some (.ownL xs)))) h else .no
def sOwnD (i : Nat) (t : Bool) : S := fun σ h => .ok (.nxt (σ.set i (some (.ownD t [])))) h
/-- x.append(e) of such a list -/
def sOApp (i : Nat) (e : E) : S := fun σ h => match σ[i]? with
  | some (some (.ownL xs)) => (e σ h).stm σ fun d h => if xs.length < bigD then .ok (.nxt (σ.set i (some (.ownL (xs ++ [d]))))) h else .no
  | _ => .no
def sOExt (i : Nat) (e : E) : S := fun σ h => match σ[i]? with
  | some (some (.ownL xs)) => (e σ h).stm σ fun d h => match d with
    | .lst ys => if xs.length + ys.length ≤ bigD then .ok (.nxt (σ.set i (some (.ownL (xs ++ ys))))) h else .no
    | _ => .no
  | _ => .no
/-- x[k] = v of such a dict -/
def sOPut (i : Nat) (k v : E) : S := fun σ h => match σ[i]? with
  | some (some (.ownD t rows)) => (v σ h).stm σ fun d h => (k σ h).stm σ fun a h => grd (isKey t a && decide (rows.length < bigD)) (.ok (.nxt (σ.set i (some (.ownD t (putR a d rows))))) h)
  | _ => .no
/-- x[k], k in x of such a dict -/
def ownAt (σ : Lo) (i : Nat) : Option D := match σ[i]? with
  | some (some (.ownL xs)) => some (.lst xs)
  | some (some (.ownD t rows)) => some (.dct t rows)
  | _ => none
def eOIdx (i : Nat) (k : E) : E := fun σ h => match σ[i]? with
  | some (some (.ownD t rows)) => (k σ h).bnd fun a h => grd (isKey t a) (opt (look a rows) fun d => .ok d h)
  | _ => .no
/-- x[i], len(x) of a list that one name alone holds -/
def eOAt (i : Nat) (k : E) : E := fun σ h => match σ[i]? with
  | some (some (.ownL xs)) => (k σ h).bnd fun a h => match a with
    | .int j => opt (atD xs j) fun d => .ok d h
    | _ => .no
  | _ => .no
def eOLen (i : Nat) : E := fun σ h => match σ[i]? with
  | some (some (.ownL xs)) => .ok (.int (xs.length : Nat)) h
  | _ => .no
/-- from here on nobody changes what this name holds -/
def sFrz (i : Nat) : S := fun σ h => opt (ownAt σ i) fun d => .ok (.nxt (σ.set i (some d))) h
/-- x, y = a, [..] -/
def sParL (i j : Nat) (a : E) (b : A) : S := fun σ h => (a σ h).stm σ fun x h => (b σ h).stm σ fun xs h => if xs.length ≤ bigD then .ok (.nxt ((σ.set i (some x)).set j (some (.ownL xs)))) h else .no
/-- x, y = a, b -/
def sPar (i j : Nat) (a b : E) : S := fun σ h => (a σ h).stm σ fun x h => (b σ h).stm σ fun y h => .ok (.nxt ((σ.set i (some x)).set j (some y))) h
def sPar3 (i j k : Nat) (a b c : E) : S := fun σ h => (a σ h).stm σ fun x h => (b σ h).stm σ fun y h => (c σ h).stm σ fun z h => .ok (.nxt (((σ.set i (some x)).set j (some y)).set k (some z))) h
def sEx (e : E) : S := fun σ h => (e σ h).stm σ fun _ h => .ok (.nxt σ) h
def sRet (e : E) : S := fun σ h => (e σ h).stm σ fun d h => .ok (.ret d) h
def sIf (c : T) (a b : S) : S := fun σ h => (c σ h).stm σ fun x h => match x with
  | true => a σ h
  | false => b σ h
def bNil : S := sPass
/-- one statement behind another -/
def R.thn (r : R Fl) (f : S) : R Fl := match r with
  | .ok (.nxt σ) h => f σ h
  | r => r
def bCons (s r : S) : S := fun σ h => (s σ h).thn r
def sNo : S := fun _ _ => .no
/-- raise C(..) -/
def sRaise (c : Nat) : S := fun σ h => .ok (.exc c none σ) h
def sRaiseP (c : Nat) (e : E) : S := fun σ h => (e σ h).stm σ fun d h => .ok (.exc c (some d) σ) h
/-- behind a turn's body -/
def R.trn (r : R Fl) (f : S) : R Fl := match r with
  | .ok (.nxt σ) h => f σ h
  | .ok (.cnt σ) h => f σ h
  | .ok (.brk σ) h => .ok (.nxt σ) h
  | r => r
def sWhl : Nat → T → S → S
  | 0, _, _ => sNo
  | n + 1, c, b => fun σ h => (c σ h).stm σ fun x h => match x with
    | true => (b σ h).trn (sWhl n c b)
    | false => .ok (.nxt σ) h
def forGo (g : G) (b : S) : List D → S
  | [] => fun σ h => .ok (.nxt σ) h
  | x :: xs => fun σ h => (g x σ h).calm.stm σ fun σ h => (b σ h).trn (forGo g b xs)
def sFor (g : G) (i : A) (b : S) : S := fun σ h => (i σ h).stm σ fun xs h => forGo g b xs σ h
def fIAdd : D → D → Hp → R D
  | .int i, .int j, h => .ok (.int (i + j)) h
  | _, _, _ => .no
def fISub : D → D → Hp → R D
  | .int i, .int j, h => .ok (.int (i - j)) h
  | _, _, _ => .no
/-- o.f op= e -/
def sAugF (cs : List Nat) (i : Nat) (f : D → D → Hp → R D) (o e : E) : S := fun σ h => (o σ h).stm σ fun x h => (fFld cs i x h).calm.stm σ fun y h => (e σ h).stm σ fun z h => (f y z h).calm.stm σ fun w h => (fSetF cs i x w h).calm.stm σ fun _ h => .ok (.nxt σ) h
/-- d[k] -/
def fGetD : D → D → Hp → R D := fun x y h => opt (dctAt x h) fun p => grd (isKey p.1 y) (opt (look y p.2) fun d => .ok d h)
/-- o[k] op= e -/
def sAugD (f : D → D → Hp → R D) (o k e : E) : S := fun σ h => (o σ h).stm σ fun x h => (k σ h).stm σ fun a h => (fGetD x a h).calm.stm σ fun y h => (e σ h).stm σ fun z h => (f y z h).calm.stm σ fun w h => (fPut x a w h).calm.stm σ fun _ h => .ok (.nxt σ) h
/-- x op= e -/
def sAugL (i : Nat) (f : D → D → Hp → R D) (e : E) : S := fun σ h => (eLoc i σ h).calm.stm σ fun y h => (e σ h).stm σ fun z h => (f y z h).calm.stm σ fun w h => .ok (.nxt (σ.set i (some w))) h
/-- targets from the left, one value -/
def sMul (g1 g2 : G) (e : E) : S := fun σ h => (e σ h).stm σ fun d h => (g1 d σ h).calm.stm σ fun σ h => (g2 d σ h).calm.stm σ fun σ h => .ok (.nxt σ) h
def sMul3 (g1 g2 g3 : G) (e : E) : S := fun σ h => (e σ h).stm σ fun d h => (g1 d σ h).calm.stm σ fun σ h => (g2 d σ h).calm.stm σ fun σ h => (g3 d σ h).calm.stm σ fun σ h => .ok (.nxt σ) h

/-! ### defs -/
def entry (ns : Nat) (ds : List D) : Lo := ds.map some ++ List.replicate (ns - ds.length) none
/-- statements hand on what is raised: an .exc of their own is none -/
def fnEnd (r : R Fl) : R D := match r with
  | .ok (.ret d) h => .ok d h
  | .ok (.nxt _) h => .ok .non h
  | .ok (.exc c p _) h => .exc c p h
  | _ => .no
def mkFn (np ns : Nat) (b : S) : Fn := fun ds h => grd (ds.length == np) (fnEnd (b (entry ns ds) h))
def fuel : Nat := 10 ^ 400
end
end IP

/-! What the interpreter says is what the model does: the relation. -/
namespace IP
open PySem PySem.Spec PyProof.Rows L2
/-- where our things stand -/
abbrev Mp := Nat → Nat → Option Addr
def Free (m : Mp) (a : Addr) : Prop := ∀ k n, m k n ≠ some a
/-- the written part by numbers: exception classes, classes, their fields, what an error bears, defs as values -/
structure Cl where
  cv : Nat → Value
  adr : Nat → Addr
  fld : Nat → List Str
  xf : Nat → Str
  fnA : Nat → Addr
  tabs : List (Addr × Str) := []
  exA : Addr := 0
  exC : Nat := 0
  exOn : Bool := false
  scr : Option (List D) := none
/-- the script, where it is known -/
def ScrOk (cl : Cl) (xs : List D) : Prop := ∀ l, cl.scr = some l → xs = l
/-- a list that is known to its object, or written -/
def SqS (K : PySem.W.Frag) (H : L2.Hp) (a : Addr) (vs : List V) : Prop := (∃ o, H a = some (.frz o (.lst vs))) ∨
  ∃ (o : Obj) (its : Array Value) (n : Nat), K.lookup a = some o ∧ o.cls = .type "list" ∧ o.dict = none ∧ o.data = .seq its n ∧ its.size ≤ sizeLine ∧ Vals vs its.toList
theorem SqS.sql {K : PySem.W.Frag} {H : L2.Hp} {a : Addr} {vs : List V} (h : SqS K H a vs) : SqL K H a vs := h.imp (fun ⟨o, q⟩ => .inr ⟨o, q⟩) id
/-- a key as data -/
def kD : Key → D
  | .inl i => .int i
  | .inr s => .str s
section
variable (K : PySem.W.Frag) (cl : Cl)
mutual
/-- a value of the machine stands for data -/
inductive RD (H : L2.Hp) (m : Mp) : D → V → Prop
  | non : RD H m .non .non
  | bl (b : Bool) : RD H m (.bl b) (.bl b)
  | int (i : Int) : RD H m (.int i) (.int i)
  | str (s : Str) : RD H m (.str s) (.str s)
  | tup {a : Addr} {xs : List D} {vs : List V} : H a = some (.tup vs) → RDs H m xs vs → RD H m (.tup xs) (.ref a)
  | ctp {a : Addr} {xs : List D} {vs : List V} : (∀ H', SqT K H' a vs) → RDs H m xs vs → RD H m (.ctp xs) (.ref a)
  | lst {a : Addr} {o : Obj} {xs : List D} {vs : List V} : H a = some (.frz o (.lst vs)) → RDs H m xs vs → RD H m (.lst xs) (.ref a)
  | dK {a : Addr} {o : Obj} {rows : List (D × D)} {kvs : List (Key × V)} : H a = some (.frz o (.dK kvs)) → Free m a → RKs H m rows kvs → RD H m (.dct false rows) (.ref a)
  | dT {a : Addr} {o : Obj} {rows : List (D × D)} {kvs : List (List Key × V)} : H a = some (.frz o (.dT kvs)) → Free m a → RTs H m rows kvs → RD H m (.dct true rows) (.ref a)
  | ref {k n : Nat} {a : Addr} : m k n = some a → RD H m (.ref k n) (.ref a)
  | scr {a : Addr} {xs : List D} {vs : List V} : SqS K H a vs → RDs H m xs vs → ScrOk cl xs → RD H m (.scr xs) (.ref a)
  | cls (k : Nat) : RD H m (.cls k) (.ref (cl.fnA k))
  | exn : cl.exOn = true → RD H m (.exn cl.exC) (.ref cl.exA)
inductive RDs (H : L2.Hp) (m : Mp) : List D → List V → Prop
  | nil : RDs H m [] []
  | cons {d : D} {ds : List D} {v : V} {vs : List V} : RD H m d v → RDs H m ds vs → RDs H m (d :: ds) (v :: vs)
inductive RKs (H : L2.Hp) (m : Mp) : List (D × D) → List (Key × V) → Prop
  | nil : RKs H m [] []
  | cons {k : Key} {d : D} {r : List (D × D)} {v : V} {s : List (Key × V)} : RD H m d v → RKs H m r s → RKs H m ((kD k, d) :: r) ((k, v) :: s)
inductive RTs (H : L2.Hp) (m : Mp) : List (D × D) → List (List Key × V) → Prop
  | nil : RTs H m [] []
  | cons {k : List Key} {d : D} {r : List (D × D)} {v : V} {s : List (List Key × V)} : RD H m d v → RTs H m r s → RTs H m ((.tup (k.map kD), d) :: r) ((k, v) :: s)
end
end
/-- no table of code objects -/
def NTb (o : HO) : Prop := ∀ ps, o ≠ .tbl ps
/-- .. nor anything that the tables lean on -/
def NT : HO → Prop
  | .tbl _ => False
  | .ext _ => False
  | _ => True
theorem NT.tb {o : HO} (h : NT o) : NTb o := fun ps z => by subst z; exact h
theorem tabs_upd {T : List (Addr × Str)} {H : L2.Hp} {p : Addr} {o : HO} (t : LamX.Tabs T H) (n : ∀ u, H p = some u → NT u) : LamX.Tabs T (upd H p o) := fun q hq => by
  obtain ⟨ps, h1, h2, h3⟩ := t q hq
  have ne : ∀ a u, H a = some u → ¬ NT u → a ≠ p := fun a u e k z => by
    subst z
    exact k (n u e)
  refine ⟨ps, by rw [upd_ne (ne _ _ h1 id)]; exact h1, h2, fun pos cv hc => ?_⟩
  obtain ⟨c, e1, e2⟩ := h3 pos cv hc
  exact ⟨c, e1, by rw [upd_ne (ne _ _ e2 id)]; exact e2⟩
/-- nothing stands there, or a table -/
def Emp (H : L2.Hp) (a : Addr) : Prop := ∀ u, H a = some u → ∃ ps, u = .tbl ps
theorem emp_of {H : L2.Hp} {a : Addr} (h : H a = none) : Emp H a := fun u e => by rw [h] at e; cases e
theorem not_emp {H : L2.Hp} {a : Addr} {u : HO} (h : H a = some u) (n : NTb u) : ¬ Emp H a := fun z => by
  obtain ⟨ps, e⟩ := z u h
  exact n ps e
theorem emp_ne {H : L2.Hp} {a : Addr} (h : ¬ Emp H a) : H a ≠ none := fun e => h (emp_of e)
theorem not_emp_iff {H : L2.Hp} {a : Addr} (h : ¬ Emp H a) : ∃ u, H a = some u ∧ NTb u := by
  cases q : H a with
  | none => exact absurd (emp_of q) h
  | some u => exact ⟨u, rfl, fun ps z => h fun v e => ⟨ps, by rw [q] at e; cases e; exact z⟩⟩
/-- later: our heap has grown, what is never changed stands, what is not ours stands -/
structure Ext (m m' : Mp) (H H' : L2.Hp) : Prop where
  pre : ∀ k n a, m k n = some a → m' k n = some a
  new : ∀ k n a, m' k n = some a → m k n = some a ∨ Emp H a
  tup : ∀ a xs, H a = some (.tup xs) → H' a = some (.tup xs)
  frz : ∀ a o u, H a = some (.frz o u) → H' a = some (.frz o u)
  frm : ∀ a o, Free m a → NTb o → H a = some o → H' a = some o
  old : ∀ a, ¬ Emp H a → ¬ Emp H' a
theorem Ext.refl {m : Mp} {H : L2.Hp} : Ext m m H H := ⟨fun _ _ _ h => h, fun _ _ _ h => .inl h, fun _ _ h => h, fun _ _ _ h => h, fun _ _ _ _ h => h, fun _ h => h⟩
theorem Ext.free {m m' : Mp} {H H' : L2.Hp} (e : Ext m m' H H') {a : Addr} (f : Free m a) (n : ¬ Emp H a) : Free m' a := fun k i q => by
  rcases e.new k i a q with q | q
  · exact f k i q
  · exact n q
theorem Ext.trans {m m1 m2 : Mp} {H H1 H2 : L2.Hp} (a : Ext m m1 H H1) (b : Ext m1 m2 H1 H2) : Ext m m2 H H2 := by
  refine ⟨fun k n x h => b.pre k n x (a.pre k n x h), fun k n x h => ?_, fun x xs h => b.tup x xs (a.tup x xs h), fun x o u h => b.frz x o u (a.frz x o u h), fun x o f n h => b.frm x o (a.free f (not_emp h n)) n (a.frm x o f n h), fun x h => b.old x (a.old x h)⟩
  rcases b.new k n x h with h | h
  · exact a.new k n x h
  · exact .inr (Classical.byContradiction fun z => a.old x z h)
/-- what values lean on -/
structure Imm (m m' : Mp) (H H' : L2.Hp) : Prop where
  pre : ∀ k n a, m k n = some a → m' k n = some a
  new : ∀ k n a, m' k n = some a → m k n = some a ∨ ∀ o u, H a ≠ some (.frz o u)
  tup : ∀ a xs, H a = some (.tup xs) → H' a = some (.tup xs)
  frz : ∀ a o u, H a = some (.frz o u) → Free m a ∨ (∃ vs, u = .lst vs) → H' a = some (.frz o u)
theorem Ext.imm {m m' : Mp} {H H' : L2.Hp} (e : Ext m m' H H') : Imm m m' H H' := ⟨e.pre, fun k n a q => (e.new k n a q).imp id fun z o u y => (by obtain ⟨ps, e⟩ := z _ y; cases e), e.tup, fun a o u q _ => e.frz a o u q⟩
theorem Imm.free {m m' : Mp} {H H' : L2.Hp} (e : Imm m m' H H') {a : Addr} {o : Obj} {u : HO} (f : Free m a) (n : H a = some (.frz o u)) : Free m' a := fun k i q => by
  rcases e.new k i a q with q | q
  · exact f k i q
  · exact q o u n
theorem Imm.refl {m : Mp} {H : L2.Hp} : Imm m m H H := Ext.refl.imm
/-- a written thing -/
def Wr : HO → Prop
  | .tup _ => False
  | .frz _ _ => False
  | .tbl _ => False
  | .ext _ => False
  | _ => True
theorem Wr.nt {o : HO} (w : Wr o) : NT o := by
  cases o <;> first | trivial | exact w
theorem Imm.wr {m : Mp} {H : L2.Hp} {p : Addr} {u o : HO} (h : H p = some u) (w : Wr u) : Imm m m H (upd H p o) :=
  ⟨fun _ _ _ h => h, fun _ _ _ h => .inl h, fun a ys e => by rw [upd_ne (ne_of e h (by intro z; subst z; exact w))]; exact e, fun a x u' e _ => by rw [upd_ne (ne_of e h (by intro z; subst z; exact w))]; exact e⟩
/-- a dict of ours that was locked is unlocked -/
theorem Imm.unlock {m : Mp} {H : L2.Hp} {p : Addr} {od : Obj} {u o : HO} {k n : Nat} (h : H p = some (.frz od u)) (hm : m k n = some p) (nl : ∀ vs, u ≠ .lst vs) : Imm m m H (upd H p o) :=
  ⟨fun _ _ _ h => h, fun _ _ _ h => .inl h, fun a ys e => by rw [upd_ne (ne_of e h (by intro z; cases z))]; exact e, fun a x u' e q => by
    have ne : a ≠ p := by
      rintro rfl
      rw [h] at e
      cases e
      rcases q with q | ⟨vs, q⟩
      · exact q k n hm
      · exact nl vs q
    rw [upd_ne ne]
    exact e⟩
theorem Imm.sqs {K : PySem.W.Frag} {m m' : Mp} {H H' : L2.Hp} (e : Imm m m' H H') {a : Addr} {vs : List V} (h : SqS K H a vs) : SqS K H' a vs := h.imp (fun ⟨o, q⟩ => ⟨o, e.frz _ _ _ q (.inr ⟨_, rfl⟩)⟩) id
section
variable {K : PySem.W.Frag} {cl : Cl}
mutual
theorem RD.mono {m m' : Mp} {H H' : L2.Hp} (e : Imm m m' H H') : ∀ (d : D) (v : V), RD K cl H m d v → RD K cl H' m' d v
  | .non, _, h => by cases h; exact .non
  | .bl b, _, h => by cases h; exact .bl b
  | .int i, _, h => by cases h; exact .int i
  | .str s, _, h => by cases h; exact .str s
  | .tup xs, _, h => by
    cases h with
    | tup a r => exact .tup (e.tup _ _ a) (RDs.mono e xs _ r)
  | .ctp xs, _, h => by
    cases h with
    | ctp a r => exact .ctp a (RDs.mono e xs _ r)
  | .lst xs, _, h => by
    cases h with
    | lst a r => exact .lst (e.frz _ _ _ a (.inr ⟨_, rfl⟩)) (RDs.mono e xs _ r)
  | .dct t rows, _, h => by
    cases h with
    | dK a f r => exact .dK (e.frz _ _ _ a (.inl f)) (e.free f a) (RKs.mono e rows _ r)
    | dT a f r => exact .dT (e.frz _ _ _ a (.inl f)) (e.free f a) (RTs.mono e rows _ r)
  | .scr xs, _, h => by
    cases h with
    | scr a r s => exact .scr (e.sqs a) (RDs.mono e xs _ r) s
  | .ref k n, _, h => by
    cases h with
    | ref a => exact .ref (e.pre _ _ _ a)
  | .cls k, _, h => by cases h; exact .cls k
  | .exn c, _, h => by cases h with
    | exn o => exact .exn o
  | .ownL xs, _, h => by cases h
  | .ownD t rows, _, h => by cases h
theorem RDs.mono {m m' : Mp} {H H' : L2.Hp} (e : Imm m m' H H') : ∀ (ds : List D) (vs : List V), RDs K cl H m ds vs → RDs K cl H' m' ds vs
  | [], _, h => by cases h; exact .nil
  | d :: ds, _, h => by
    cases h with
    | cons a r => exact .cons (RD.mono e d _ a) (RDs.mono e ds _ r)
theorem RKs.mono {m m' : Mp} {H H' : L2.Hp} (e : Imm m m' H H') : ∀ (ds : List (D × D)) (vs : List (Key × V)), RKs K cl H m ds vs → RKs K cl H' m' ds vs
  | [], _, h => by cases h; exact .nil
  | (k, d) :: ds, _, h => by
    cases h with
    | cons a r => exact .cons (RD.mono e d _ a) (RKs.mono e ds _ r)
theorem RTs.mono {m m' : Mp} {H H' : L2.Hp} (e : Imm m m' H H') : ∀ (ds : List (D × D)) (vs : List (List Key × V)), RTs K cl H m ds vs → RTs K cl H' m' ds vs
  | [], _, h => by cases h; exact .nil
  | (k, d) :: ds, _, h => by
    cases h with
    | cons a r => exact .cons (RD.mono e d _ a) (RTs.mono e ds _ r)
end
theorem RD.upI {m m' : Mp} {H H' : L2.Hp} {d : D} {v : V} (h : RD K cl H m d v) (e : Imm m m' H H') : RD K cl H' m' d v := RD.mono e d v h
theorem RDs.upI {m m' : Mp} {H H' : L2.Hp} {ds : List D} {vs : List V} (h : RDs K cl H m ds vs) (e : Imm m m' H H') : RDs K cl H' m' ds vs := RDs.mono e ds vs h
theorem RKs.upI {m m' : Mp} {H H' : L2.Hp} {ds : List (D × D)} {vs : List (Key × V)} (h : RKs K cl H m ds vs) (e : Imm m m' H H') : RKs K cl H' m' ds vs := RKs.mono e ds vs h
theorem RTs.upI {m m' : Mp} {H H' : L2.Hp} {ds : List (D × D)} {vs : List (List Key × V)} (h : RTs K cl H m ds vs) (e : Imm m m' H H') : RTs K cl H' m' ds vs := RTs.mono e ds vs h
theorem RD.up {m m' : Mp} {H H' : L2.Hp} {d : D} {v : V} (h : RD K cl H m d v) (e : Ext m m' H H') : RD K cl H' m' d v := RD.mono e.imm d v h
theorem RDs.up {m m' : Mp} {H H' : L2.Hp} {ds : List D} {vs : List V} (h : RDs K cl H m ds vs) (e : Ext m m' H H') : RDs K cl H' m' ds vs := RDs.mono e.imm ds vs h
theorem RDs.length {m : Mp} {H : L2.Hp} : ∀ {ds : List D} {vs : List V}, RDs K cl H m ds vs → ds.length = vs.length
  | _, _, .nil => rfl
  | _, _, .cons _ r => congrArg Nat.succ r.length
theorem RDs.append {m : Mp} {H : L2.Hp} : ∀ {ds es : List D} {vs ws : List V}, RDs K cl H m ds vs → RDs K cl H m es ws → RDs K cl H m (ds ++ es) (vs ++ ws)
  | _, _, _, _, .nil, s => s
  | _, _, _, _, .cons a r, s => .cons a (r.append s)
theorem RDs.get {m : Mp} {H : L2.Hp} : ∀ {ds : List D} {vs : List V} {i : Nat} {d : D}, RDs K cl H m ds vs → ds[i]? = some d → ∃ v, vs[i]? = some v ∧ RD K cl H m d v
  | _, _, _, _, .nil, e => by simp at e
  | _, _, 0, _, .cons a _, e => by simp at e; subst e; exact ⟨_, by simp, a⟩
  | _, _, i + 1, d, .cons _ r, e => by
    obtain ⟨v, h1, h2⟩ := RDs.get (i := i) (d := d) r (by simpa using e)
    exact ⟨v, by simpa using h1, h2⟩
theorem RDs.back {m : Mp} {H : L2.Hp} : ∀ {ds : List D} {vs : List V} {i : Nat} {v : V}, RDs K cl H m ds vs → vs[i]? = some v → ∃ d, ds[i]? = some d ∧ RD K cl H m d v
  | _, _, _, _, .nil, e => by simp at e
  | _, _, 0, _, .cons a _, e => by simp at e; subst e; exact ⟨_, by simp, a⟩
  | _, _, i + 1, v, .cons _ r, e => by
    obtain ⟨d, h1, h2⟩ := RDs.back (i := i) (v := v) r (by simpa using e)
    exact ⟨d, by simpa using h1, h2⟩
theorem RDs.take {m : Mp} {H : L2.Hp} : ∀ {ds : List D} {vs : List V} (n : Nat), RDs K cl H m ds vs → RDs K cl H m (ds.take n) (vs.take n)
  | _, _, 0, _ => by simp; exact .nil
  | _, _, n + 1, .nil => by simp; exact .nil
  | _, _, n + 1, .cons a r => by simp only [List.take_succ_cons]; exact .cons a (r.take n)
theorem RDs.drop {m : Mp} {H : L2.Hp} : ∀ {ds : List D} {vs : List V} (n : Nat), RDs K cl H m ds vs → RDs K cl H m (ds.drop n) (vs.drop n)
  | _, _, 0, r => by simp only [List.drop_zero]; exact r
  | _, _, n + 1, .nil => by simp; exact .nil
  | _, _, n + 1, .cons _ r => by simp only [List.drop_succ_cons]; exact r.drop n
theorem RDs.reverse {m : Mp} {H : L2.Hp} : ∀ {ds : List D} {vs : List V}, RDs K cl H m ds vs → RDs K cl H m ds.reverse vs.reverse
  | _, _, .nil => .nil
  | _, _, .cons a r => by
    simp only [List.reverse_cons]
    exact r.reverse.append (.cons a .nil)
theorem RDs.set {m : Mp} {H : L2.Hp} {d : D} {v : V} (a : RD K cl H m d v) : ∀ {ds : List D} {vs : List V} (i : Nat), RDs K cl H m ds vs → RDs K cl H m (ds.set i d) (vs.set i v)
  | _, _, _, .nil => .nil
  | _, _, 0, .cons _ r => .cons a r
  | _, _, i + 1, .cons b r => .cons b (r.set a i)
theorem RKs.length {m : Mp} {H : L2.Hp} : ∀ {ds : List (D × D)} {vs : List (Key × V)}, RKs K cl H m ds vs → ds.length = vs.length
  | _, _, .nil => rfl
  | _, _, .cons _ r => congrArg Nat.succ r.length
theorem RTs.length {m : Mp} {H : L2.Hp} : ∀ {ds : List (D × D)} {vs : List (List Key × V)}, RTs K cl H m ds vs → ds.length = vs.length
  | _, _, .nil => rfl
  | _, _, .cons _ r => congrArg Nat.succ r.length
end
/-! ### what stands at a place of our heap stands at its address -/
section
variable (K : PySem.W.Frag) (cl : Cl)
/-- the attributes of an instance -/
structure RF (H : L2.Hp) (m : Mp) (c : Nat) (fs : List (Option D)) (fv : List (Str × V)) : Prop where
  len : fs.length = (cl.fld c).length
  nd : (fv.map (·.1)).Nodup
  sub : ∀ x ∈ fv.map (·.1), x ∈ cl.fld c
  val : ∀ (i : Nat) (x : Str) (d : D), (cl.fld c)[i]? = some x → fs[i]? = some (some d) → ∃ v, fv.lookup x = some v ∧ RD K cl H m d v
def RO (H : L2.Hp) (m : Mp) : O → Addr → Prop
  | .lst xs, a => ∃ vs, H a = some (.lst vs) ∧ RDs K cl H m xs vs
  | .dct false false rows, a => ∃ kvs, H a = some (.dK kvs) ∧ RKs K cl H m rows kvs
  | .dct true false rows, a => ∃ kvs, H a = some (.dT kvs) ∧ RTs K cl H m rows kvs
  | .dct false true rows, a => ∃ kvs od, H a = some (.frz od (.dK kvs)) ∧ RKs K cl H m rows kvs
  | .dct true true rows, a => ∃ kvs od, H a = some (.frz od (.dT kvs)) ∧ RTs K cl H m rows kvs
  | .ins c fs, a => ∃ dx fv, H a = some (.ins (cl.adr c) dx fv) ∧ RF K cl H m c fs fv
  | .gone, _ => False
structure Hc (m : Mp) (h : Hp) (H : L2.Hp) : Prop where
  dom : ∀ k n, m k n ≠ none ↔ h.get k n ≠ none
  inj : ∀ k n k' n' a, m k n = some a → m k' n' = some a → k = k' ∧ n = n'
  obj : ∀ k n o a, h.get k n = some o → m k n = some a → RO K cl H m o a
  oldE : ∀ k n a, m k n = some a → ¬ Emp H a
  tab : LamX.Tabs cl.tabs H
end
section
variable {K : PySem.W.Frag} {cl : Cl}
theorem Hc.old {m : Mp} {h : Hp} {H : L2.Hp} (C : Hc K cl m h H) (k n : Nat) (a : Addr) (e : m k n = some a) : H a ≠ none := emp_ne (C.oldE k n a e)
theorem RF.upI {m m' : Mp} {H H' : L2.Hp} {c : Nat} {fs : List (Option D)} {fv : List (Str × V)} (r : RF K cl H m c fs fv) (e : Imm m m' H H') : RF K cl H' m' c fs fv :=
  ⟨r.len, r.nd, r.sub, fun i x d e1 e2 => let ⟨v, e3, e4⟩ := r.val i x d e1 e2; ⟨v, e3, e4.upI e⟩⟩
/-- a thing that stays -/
theorem RO.stay {m m' : Mp} {H H' : L2.Hp} {o : O} {a : Addr} (r : RO K cl H m o a) (e : Imm m m' H H') (s : ∀ u, H a = some u → H' a = some u) : RO K cl H' m' o a := by
  match o, r with
  | .lst xs, r => obtain ⟨vs, q, r⟩ := r; exact ⟨vs, s _ q, r.upI e⟩
  | .dct false false rows, r => obtain ⟨vs, q, r⟩ := r; exact ⟨vs, s _ q, r.upI e⟩
  | .dct true false rows, r => obtain ⟨vs, q, r⟩ := r; exact ⟨vs, s _ q, r.upI e⟩
  | .dct false true rows, r => obtain ⟨vs, od, q, r⟩ := r; exact ⟨vs, od, s _ q, r.upI e⟩
  | .dct true true rows, r => obtain ⟨vs, od, q, r⟩ := r; exact ⟨vs, od, s _ q, r.upI e⟩
  | .ins c fs, r => obtain ⟨dx, fv, q, r⟩ := r; exact ⟨dx, fv, s _ q, r.upI e⟩
  | .gone, r => exact r.elim
/-- a new thing laid, not among ours -/
theorem Ext.lay {m : Mp} {H : L2.Hp} {p : Addr} {o : HO} (h : H p = none) : Ext m m H (upd H p o) :=
  ⟨fun _ _ _ h => h, fun _ _ _ h => .inl h, fun a xs e => by rw [upd_ne (ne_of_none e h)]; exact e, fun a x u e => by rw [upd_ne (ne_of_none e h)]; exact e, fun a x _ _ e => by rw [upd_ne (ne_of_none e h)]; exact e, fun a e => by
    have ne : a ≠ p := fun z => e (z ▸ emp_of h)
    unfold Emp
    rw [upd_ne ne]
    exact e⟩
theorem Hc.lay {m : Mp} {h : Hp} {H : L2.Hp} {p : Addr} {o : HO} (C : Hc K cl m h H) (n : H p = none) (no : NTb o := by exact fun ps z => by cases z) : Hc K cl m h (upd H p o) :=
  ⟨C.dom, C.inj, fun k i ob a e1 e2 => (C.obj k i ob a e1 e2).stay (Ext.lay n).imm fun u q => by rw [upd_ne (ne_of_none q n)]; exact q, fun k i a e => (Ext.lay (m := m) (o := o) n).old a (C.oldE k i a e), tabs_upd C.tab (fun u e => by rw [n] at e; cases e)⟩
/-- a thing that is not ours changes (a list or dict that a name or a loop holds) -/
theorem Hc.side {m : Mp} {h : Hp} {H : L2.Hp} {p : Addr} {u o : HO} (C : Hc K cl m h H) (f : Free m p) (q : H p = some u) (w : Wr u) (no : NTb o := by exact fun ps z => by cases z) : Hc K cl m h (upd H p o) := by
  have na : ∀ k n a, m k n = some a → a ≠ p := fun k n a e z => f k n (z ▸ e)
  exact ⟨C.dom, C.inj, fun k i ob a e1 e2 => (C.obj k i ob a e1 e2).stay (Imm.wr q w) fun u q => by rw [upd_ne (na k i a e2)]; exact q, fun k i a e => by unfold Emp; rw [upd_ne (na k i a e)]; exact C.oldE k i a e, tabs_upd C.tab (fun v e => by rw [q] at e; cases e; exact w.nt)⟩
/-- .. seen from where it was not yet -/
theorem Ext.sideE {m m' : Mp} {H H' : L2.Hp} {p : Addr} {o : HO} (e : Ext m m' H H') (n : Emp H p) (no : NTb o := by exact fun ps z => by cases z) : Ext m m' H (upd H' p o) := by
  have ne : ∀ a x, H a = some x → NTb x → a ≠ p := fun a x q nt z => by
    subst z
    obtain ⟨ps, e⟩ := n x q
    exact nt ps e
  refine ⟨e.pre, e.new, fun a xs q => ?_, fun a x u q => ?_, fun a x na nt q => ?_, fun a q => ?_⟩
  · rw [upd_ne (ne a _ q fun ps z => by cases z)]; exact e.tup a xs q
  · rw [upd_ne (ne a _ q fun ps z => by cases z)]; exact e.frz a x u q
  · rw [upd_ne (ne a _ q nt)]; exact e.frm a x na nt q
  · by_cases z : a = p
    · subst z; exact not_emp upd_same no
    · unfold Emp; rw [upd_ne z]; exact e.old a q
theorem Ext.side {m m' : Mp} {H H' : L2.Hp} {p : Addr} {o : HO} (e : Ext m m' H H') (n : H p = none) (no : NTb o := by exact fun ps z => by cases z) : Ext m m' H (upd H' p o) := e.sideE (emp_of n) no
/-- a thing of ours changes -/
theorem Ext.wr {m : Mp} {H : L2.Hp} {p : Addr} {u o : HO} {k n : Nat} (hp : m k n = some p) (h : H p = some u) (w : Wr u) (no : NTb o := by exact fun ps z => by cases z) : Ext m m H (upd H p o) :=
  ⟨fun _ _ _ h => h, fun _ _ _ h => .inl h, fun a ys e => by rw [upd_ne (ne_of e h (by intro z; subst z; exact w))]; exact e, fun a x u' e => by rw [upd_ne (ne_of e h (by intro z; subst z; exact w))]; exact e, fun a x f _ e => by
    have ne : a ≠ p := fun z => f k n (z ▸ hp)
    rw [upd_ne ne]
    exact e, fun a e => by
    by_cases z : a = p
    · subst z; exact not_emp upd_same no
    · unfold Emp; rw [upd_ne z]; exact e⟩
/-- the map with one place more -/
def Mp.add (m : Mp) (k n : Nat) (p : Addr) : Mp := fun i j => if i = k ∧ j = n then some p else m i j
theorem get_new {h : Hp} {k : Nat} {o : O} (hk : k < h.length) (i j : Nat) : (h.new k o).get i j = if i = k ∧ j = h.len k then some o else h.get i j := by
  unfold Hp.new Hp.len
  simp only [Hp.get_def]
  rw [List.getElem?_modify]
  by_cases hi : k = i
  · subst hi
    rw [List.getElem?_eq_getElem hk]
    simp only [Option.map_eq_map, Option.map_some, if_true, true_and]
    by_cases hj : j = h[k].length
    · subst hj; simp
    · rw [if_neg hj]
      by_cases hl : j < h[k].length
      · rw [List.getElem?_append_left hl]
      · rw [List.getElem?_append_right (by omega), List.getElem?_eq_none (by simp; omega), List.getElem?_eq_none (by omega)]
  · rw [if_neg (fun z => hi z.1.symm)]
    simp only [if_neg hi, Option.map_eq_map, Option.map_id']
theorem get_len {h : Hp} {k : Nat} : h.get k (h.len k) = none := by
  rw [Hp.get_def]
  unfold Hp.len
  cases h[k]? with
  | none => rfl
  | some l => simp
theorem get_put {h : Hp} {k n : Nat} {o u : O} (q : h.get k n = some u) (i j : Nat) : (h.put k n o).get i j = if i = k ∧ j = n then some o else h.get i j := by
  rw [Hp.put_def]
  simp only [Hp.get_def] at q ⊢
  rw [List.getElem?_modify]
  by_cases hi : k = i
  · subst hi
    cases e : h[k]? with
    | none => rw [e] at q; cases q
    | some l =>
      rw [e] at q
      simp only [if_true, Option.map_eq_map, Option.map_some, true_and]
      have hn : n < l.length := (List.getElem?_eq_some_iff.mp q).1
      by_cases hj : j = n
      · subst hj; rw [if_pos rfl, List.getElem?_set_self hn]
      · rw [if_neg hj, List.getElem?_set_ne (fun z => hj z.symm)]
  · rw [if_neg (fun z => hi z.1.symm)]
    simp only [if_neg hi, Option.map_eq_map, Option.map_id']
theorem Ext.add {m : Mp} {H : L2.Hp} {p : Addr} {o : HO} {k n : Nat} (h : H p = none) (hm : m k n = none) : Ext m (m.add k n p) H (upd H p o) := by
  have e := Ext.lay (m := m) (o := o) h
  refine ⟨fun i j a q => ?_, fun i j a q => ?_, e.tup, e.frz, e.frm, e.old⟩
  · unfold Mp.add
    rw [if_neg]
    · exact q
    · rintro ⟨rfl, rfl⟩
      rw [hm] at q
      cases q
  · unfold Mp.add at q
    by_cases c : i = k ∧ j = n
    · rw [if_pos c] at q
      cases q
      exact .inr (emp_of h)
    · rw [if_neg c] at q
      exact .inl q
/-- a thing that stood aside is ours from now on -/
theorem Imm.adopt {m : Mp} {H : L2.Hp} {p : Addr} {u : HO} {k n : Nat} (h : H p = some u) (w : Wr u) (hm : m k n = none) : Imm m (m.add k n p) H H := by
  refine ⟨fun i j a q => ?_, fun i j a q => ?_, fun _ _ e => e, fun _ _ _ e _ => e⟩
  · unfold Mp.add
    rw [if_neg]
    · exact q
    · rintro ⟨rfl, rfl⟩
      rw [hm] at q
      cases q
  · unfold Mp.add at q
    by_cases c : i = k ∧ j = n
    · rw [if_pos c] at q
      cases q
      exact .inr fun o v z => by rw [h] at z; cases z; exact w
    · rw [if_neg c] at q
      exact .inl q
theorem Ext.adopt {m m' : Mp} {H H' : L2.Hp} {p : Addr} {k n : Nat} (e : Ext m m' H H') (h : H p = none) (hm : m' k n = none) : Ext m (m'.add k n p) H H' := by
  refine ⟨fun i j a q => ?_, fun i j a q => ?_, e.tup, e.frz, e.frm, e.old⟩
  · have q' := e.pre i j a q
    unfold Mp.add
    rw [if_neg]
    · exact q'
    · rintro ⟨rfl, rfl⟩
      rw [hm] at q'
      cases q'
  · unfold Mp.add at q
    by_cases c : i = k ∧ j = n
    · rw [if_pos c] at q
      cases q
      exact .inr (emp_of h)
    · rw [if_neg c] at q
      exact e.new i j a q
/-- a new place -/
theorem Hc.add {m : Mp} {h : Hp} {H : L2.Hp} {p : Addr} {o : HO} {ob : O} {k : Nat} (C : Hc K cl m h H) (hk : k < h.length) (n : H p = none) (r : RO K cl (upd H p o) (m.add k (h.len k) p) ob p) (no : NTb o := by exact fun ps z => by cases z) : Hc K cl (m.add k (h.len k) p) (h.new k ob) (upd H p o) := by
  have hm : m k (h.len k) = none := Classical.byContradiction fun z => (C.dom k (h.len k)).mp z get_len
  have np : ∀ i j a, m i j = some a → a ≠ p := fun i j a e z => C.old i j a e (z ▸ n)
  have ex : Ext m (m.add k (h.len k) p) H (upd H p o) := Ext.add n hm
  refine ⟨fun i j => ?_, fun i j i' j' a e1 e2 => ?_, fun i j ob' a e1 e2 => ?_, fun i j a e => ?_, tabs_upd C.tab (fun u e => by rw [n] at e; cases e)⟩
  · rw [get_new hk]
    unfold Mp.add
    by_cases c : i = k ∧ j = h.len k
    · rw [if_pos c, if_pos c]; simp
    · rw [if_neg c, if_neg c]; exact C.dom i j
  · unfold Mp.add at e1 e2
    by_cases c : i = k ∧ j = h.len k
    · rw [if_pos c] at e1
      cases e1
      by_cases c' : i' = k ∧ j' = h.len k
      · exact ⟨c.1.trans c'.1.symm, c.2.trans c'.2.symm⟩
      · rw [if_neg c'] at e2
        exact absurd rfl (np _ _ _ e2)
    · rw [if_neg c] at e1
      by_cases c' : i' = k ∧ j' = h.len k
      · rw [if_pos c'] at e2
        cases e2
        exact absurd rfl (np _ _ _ e1)
      · rw [if_neg c'] at e2
        exact C.inj _ _ _ _ _ e1 e2
  · rw [get_new hk] at e1
    by_cases c : i = k ∧ j = h.len k
    · have e2' := e2
      unfold Mp.add at e2'
      rw [if_pos c] at e1 e2'
      cases e1
      cases e2'
      exact r
    · have e2' := e2
      unfold Mp.add at e2'
      rw [if_neg c] at e1 e2'
      exact (C.obj i j ob' a e1 e2').stay ex.imm fun u q => by rw [upd_ne (np i j a e2')]; exact q
  · unfold Mp.add at e
    by_cases c : i = k ∧ j = h.len k
    · rw [if_pos c] at e
      cases e
      exact not_emp upd_same no
    · rw [if_neg c] at e
      unfold Emp
      rw [upd_ne (np i j a e)]
      exact C.oldE i j a e
/-- a thing of ours is another one; o the new thing of the machine -/
theorem Hc.put {m : Mp} {h : Hp} {H : L2.Hp} {p : Addr} {u : O} {o : HO} {ob : O} {k n : Nat} (C : Hc K cl m h H) (q : h.get k n = some u) (hp : m k n = some p) (im : Imm m m H (upd H p o)) (r : RO K cl (upd H p o) m ob p) (hu : ∃ v, H p = some v ∧ NT v) (no : NTb o := by exact fun ps z => by cases z) : Hc K cl m (h.put k n ob) (upd H p o) := by
  refine ⟨fun i j => ?_, C.inj, fun i j ob' a e1 e2 => ?_, fun i j a e => ?_, tabs_upd C.tab (fun u e => by obtain ⟨v, e1, e2⟩ := hu; rw [e1] at e; cases e; exact e2)⟩
  · rw [get_put q]
    by_cases c : i = k ∧ j = n
    · rw [if_pos c, c.1, c.2, hp]; simp
    · rw [if_neg c]; exact C.dom i j
  · rw [get_put q] at e1
    by_cases c : i = k ∧ j = n
    · rw [if_pos c] at e1
      cases e1
      rw [c.1, c.2, hp] at e2
      cases e2
      exact r
    · rw [if_neg c] at e1
      have na : a ≠ p := fun z => by
        subst z
        exact c (C.inj _ _ _ _ _ e2 hp)
      exact (C.obj i j ob' a e1 e2).stay im fun u q => by rw [upd_ne na]; exact q
  · by_cases z : a = p
    · subst z; exact not_emp upd_same no
    · unfold Emp; rw [upd_ne z]; exact C.oldE i j a e
theorem Hc.adopt {m : Mp} {h : Hp} {H : L2.Hp} {p : Addr} {u : HO} {ob : O} {k : Nat} (C : Hc K cl m h H) (hk : k < h.length) (f : Free m p) (q : H p = some u) (w : Wr u) (r : RO K cl H (m.add k (h.len k) p) ob p) : Hc K cl (m.add k (h.len k) p) (h.new k ob) H := by
  have hm : m k (h.len k) = none := Classical.byContradiction fun z => (C.dom k (h.len k)).mp z get_len
  have im : Imm m (m.add k (h.len k) p) H H := Imm.adopt q w hm
  have old : ∀ i j a, (m.add k (h.len k) p) i j = some a → ((i = k ∧ j = h.len k) ∧ a = p) ∨ (¬ (i = k ∧ j = h.len k) ∧ m i j = some a) := fun i j a e => by
    unfold Mp.add at e
    by_cases c : i = k ∧ j = h.len k
    · rw [if_pos c] at e
      cases e
      exact .inl ⟨c, rfl⟩
    · rw [if_neg c] at e
      exact .inr ⟨c, e⟩
  refine ⟨fun i j => ?_, fun i j i' j' a e1 e2 => ?_, fun i j ob' a e1 e2 => ?_, fun i j a e => ?_, C.tab⟩
  · rw [get_new hk]
    unfold Mp.add
    by_cases c : i = k ∧ j = h.len k
    · rw [if_pos c, if_pos c]; simp
    · rw [if_neg c, if_neg c]; exact C.dom i j
  · rcases old _ _ _ e1 with ⟨c, ea⟩ | ⟨c, e1'⟩
    · rcases old _ _ _ e2 with ⟨c', _⟩ | ⟨_, e2'⟩
      · exact ⟨c.1.trans c'.1.symm, c.2.trans c'.2.symm⟩
      · exact absurd (ea ▸ e2') (f _ _)
    · rcases old _ _ _ e2 with ⟨_, ea⟩ | ⟨_, e2'⟩
      · exact absurd (ea ▸ e1') (f _ _)
      · exact C.inj _ _ _ _ _ e1' e2'
  · rw [get_new hk] at e1
    rcases old _ _ _ e2 with ⟨c, rfl⟩ | ⟨c, e2⟩
    · rw [if_pos c] at e1
      cases e1
      exact r
    · rw [if_neg c] at e1
      exact (C.obj i j ob' a e1 e2).stay im fun _ z => z
  · rcases old _ _ _ e with ⟨_, rfl⟩ | ⟨_, e⟩
    · exact not_emp q w.nt.tb
    · exact C.oldE i j a e
end
end IP

namespace IP
open PySem PySem.Spec PyProof.Rows L2
/-- later, where a list or dict that a name alone holds may have changed -/
structure Ex2 (m m' : Mp) (H H' : L2.Hp) : Prop where
  pre : ∀ k n a, m k n = some a → m' k n = some a
  new : ∀ k n a, m' k n = some a → m k n = some a ∨ Emp H a
  tup : ∀ a xs, H a = some (.tup xs) → H' a = some (.tup xs)
  frz : ∀ a o u, H a = some (.frz o u) → H' a = some (.frz o u)
  old : ∀ a, ¬ Emp H a → ¬ Emp H' a
theorem Ext.ex2 {m m' : Mp} {H H' : L2.Hp} (e : Ext m m' H H') : Ex2 m m' H H' := ⟨e.pre, e.new, e.tup, e.frz, e.old⟩
theorem Ex2.imm {m m' : Mp} {H H' : L2.Hp} (e : Ex2 m m' H H') : Imm m m' H H' := ⟨e.pre, fun k n a q => (e.new k n a q).imp id fun z o u y => (by obtain ⟨ps, e⟩ := z _ y; cases e), e.tup, fun a o u q _ => e.frz a o u q⟩
theorem Ex2.refl {m : Mp} {H : L2.Hp} : Ex2 m m H H := Ext.refl.ex2
theorem Ex2.trans {m m1 m2 : Mp} {H H1 H2 : L2.Hp} (a : Ex2 m m1 H H1) (b : Ex2 m1 m2 H1 H2) : Ex2 m m2 H H2 := by
  refine ⟨fun k n x h => b.pre k n x (a.pre k n x h), fun k n x h => ?_, fun x xs h => b.tup x xs (a.tup x xs h), fun x o u h => b.frz x o u (a.frz x o u h), fun x h => b.old x (a.old x h)⟩
  rcases b.new k n x h with h | h
  · exact a.new k n x h
  · exact .inr (Classical.byContradiction fun z => a.old x z h)
theorem Ex2.wr {m : Mp} {H : L2.Hp} {p : Addr} {u o : HO} (h : H p = some u) (w : Wr u) (no : NTb o := by exact fun ps z => by cases z) : Ex2 m m H (upd H p o) :=
  ⟨fun _ _ _ h => h, fun _ _ _ h => .inl h, fun a ys e => by rw [upd_ne (ne_of e h (by intro z; subst z; exact w))]; exact e, fun a x u' e => by rw [upd_ne (ne_of e h (by intro z; subst z; exact w))]; exact e, fun a e => by
    by_cases z : a = p
    · subst z; exact not_emp upd_same no
    · unfold Emp; rw [upd_ne z]; exact e⟩
def isOwn : D → Bool
  | .ownL _ => true
  | .ownD _ _ => true
  | _ => false
section
variable (K : PySem.W.Frag) (cl : Cl)
/-- what a name holds -/
def LD (m : Mp) (H0 H : L2.Hp) : D → V → Prop
  | .ownL xs, v => ∃ a vs, v = .ref a ∧ H a = some (.lst vs) ∧ RDs K cl H m xs vs ∧ Emp H0 a ∧ Free m a
  | .ownD false rows, v => ∃ a kvs, v = .ref a ∧ H a = some (.dK kvs) ∧ RKs K cl H m rows kvs ∧ Emp H0 a ∧ Free m a
  | .ownD true rows, v => ∃ a kvs, v = .ref a ∧ H a = some (.dT kvs) ∧ RTs K cl H m rows kvs ∧ Emp H0 a ∧ Free m a
  | d, v => RD K cl H m d v
/-- the names; H0: the heap when the def began -/
structure Lc (m : Mp) (H0 H : L2.Hp) (σ : Lo) (σV : L2.St) : Prop where
  len : σ.length = σV.length
  loc : ∀ (i : Nat) (d : D), σ[i]? = some (some d) → ∃ v, σV[i]? = some (some v) ∧ LD K cl m H0 H d v
  odi : ∀ (i j : Nat) (d e : D) (v : V), i ≠ j → σ[i]? = some (some d) → σ[j]? = some (some e) → isOwn d = true → isOwn e = true → σV[i]? = some (some v) → σV[j]? ≠ some (some v)
end
section
variable {K : PySem.W.Frag} {cl : Cl}
theorem LD.rd {m : Mp} {H0 H : L2.Hp} {d : D} {v : V} (r : LD K cl m H0 H d v) (o : isOwn d = false) : RD K cl H m d v := by
  cases d <;> first | exact r | cases o
theorem RD.notOwn {m : Mp} {H : L2.Hp} {d : D} {v : V} (r : RD K cl H m d v) : isOwn d = false := by cases r <;> rfl
theorem LD.of {m : Mp} {H0 H : L2.Hp} {d : D} {v : V} (r : RD K cl H m d v) : LD K cl m H0 H d v := by cases r <;> (try exact RD.non) <;> (show RD K cl H m _ _) <;> first | assumption | (constructor <;> assumption) | constructor
theorem LD.imm {m m' : Mp} {H0 H H' : L2.Hp} {d : D} {v : V} (r : LD K cl m H0 H d v) (e : Imm m m' H H') (fr : ∀ a, Free m a → ¬ Emp H a → Free m' a) (s : ∀ a u, NTb u → H a = some u → Free m a → v = .ref a → isOwn d = true → H' a = some u) : LD K cl m' H0 H' d v := by
  match d, r with
  | .ownL xs, r => obtain ⟨a, vs, rfl, q, r, n, f⟩ := r; exact ⟨a, vs, rfl, s a _ (fun ps z => by cases z) q f rfl rfl, r.upI e, n, fr a f (not_emp q fun ps z => by cases z)⟩
  | .ownD false rows, r => obtain ⟨a, vs, rfl, q, r, n, f⟩ := r; exact ⟨a, vs, rfl, s a _ (fun ps z => by cases z) q f rfl rfl, r.upI e, n, fr a f (not_emp q fun ps z => by cases z)⟩
  | .ownD true rows, r => obtain ⟨a, vs, rfl, q, r, n, f⟩ := r; exact ⟨a, vs, rfl, s a _ (fun ps z => by cases z) q f rfl rfl, r.upI e, n, fr a f (not_emp q fun ps z => by cases z)⟩
  | .non, r => exact RD.upI r e
  | .bl _, r => exact RD.upI r e
  | .int _, r => exact RD.upI r e
  | .str _, r => exact RD.upI r e
  | .tup _, r => exact RD.upI r e
  | .ctp _, r => exact RD.upI r e
  | .lst _, r => exact RD.upI r e
  | .dct _ _, r => exact RD.upI r e
  | .ref _ _, r => exact RD.upI r e
  | .scr _, r => exact RD.upI r e
  | .cls _, r => exact RD.upI r e
  | .exn _, r => exact RD.upI r e
theorem Lc.up {m m' : Mp} {H0 H H' : L2.Hp} {σ : Lo} {σV : L2.St} (h : Lc K cl m H0 H σ σV) (e : Ext m m' H H') : Lc K cl m' H0 H' σ σV :=
  ⟨h.len, fun i d q => let ⟨v, a, b⟩ := h.loc i d q; ⟨v, a, b.imm e.imm (fun a f n => e.free f n) fun a u nt q f _ _ => e.frm a u f nt q⟩, h.odi⟩
theorem set_at {α : Type} {σ : List α} {i j : Nat} {x y : α} (q : (σ.set i x)[j]? = some y) : (i = j ∧ i < σ.length ∧ y = x) ∨ (i ≠ j ∧ σ[j]? = some y) := by
  by_cases hj : i = j
  · subst hj
    by_cases hl : i < σ.length
    · rw [List.getElem?_set_self hl] at q
      cases q
      exact .inl ⟨rfl, hl, rfl⟩
    · rw [List.getElem?_eq_none (by simpa using hl)] at q
      cases q
  · rw [List.getElem?_set_ne hj] at q
    exact .inr ⟨hj, q⟩
theorem Lc.setL {m : Mp} {H0 H : L2.Hp} {σ : Lo} {σV : L2.St} (h : Lc K cl m H0 H σ σV) {i : Nat} {d : D} {v : V} (r : LD K cl m H0 H d v) (n : isOwn d = true → ∀ (j : Nat) (e : D), i ≠ j → σ[j]? = some (some e) → isOwn e = true → σV[j]? ≠ some (some v)) : Lc K cl m H0 H (σ.set i (some d)) (σV.set i (some v)) := by
  refine ⟨by simp [h.len], fun j e q => ?_, fun j k e e' u ne q1 q2 o1 o2 q3 => ?_⟩
  · rcases set_at q with ⟨rfl, hl, e1⟩ | ⟨hj, q⟩
    · cases e1
      exact ⟨v, List.getElem?_set_self (h.len ▸ hl), r⟩
    · rw [List.getElem?_set_ne hj]
      exact h.loc j e q
  · rcases set_at q1 with ⟨rfl, hl, e1⟩ | ⟨hj, q1⟩
    · cases e1
      rcases set_at q2 with ⟨rfl, _, _⟩ | ⟨hk, q2⟩
      · exact absurd rfl ne
      · rw [List.getElem?_set_self (h.len ▸ hl)] at q3
        cases q3
        rw [List.getElem?_set_ne hk]
        exact n o1 k e' hk q2 o2
    · rw [List.getElem?_set_ne hj] at q3
      rcases set_at q2 with ⟨rfl, hl, e1⟩ | ⟨hk, q2⟩
      · cases e1
        rw [List.getElem?_set_self (h.len ▸ hl)]
        intro z
        cases z
        exact n o2 j e hj q1 o1 q3
      · rw [List.getElem?_set_ne hk]
        exact h.odi j k e e' u ne q1 q2 o1 o2 q3
theorem Lc.set {m : Mp} {H0 H : L2.Hp} {σ : Lo} {σV : L2.St} (h : Lc K cl m H0 H σ σV) {i : Nat} {d : D} {v : V} (r : RD K cl H m d v) : Lc K cl m H0 H (σ.set i (some d)) (σV.set i (some v)) :=
  h.setL (.of r) fun o => by rw [r.notOwn] at o; cases o
theorem Lc.unset {m : Mp} {H0 H : L2.Hp} {σ : Lo} {σV : L2.St} (h : Lc K cl m H0 H σ σV) {i : Nat} {o : Option V} : Lc K cl m H0 H (σ.set i none) (σV.set i o) := by
  have key : ∀ (j : Nat) (e : D), (σ.set i none)[j]? = some (some e) → i ≠ j ∧ σ[j]? = some (some e) := fun j e q => by
    rcases set_at q with ⟨_, _, z⟩ | z
    · cases z
    · exact z
  refine ⟨by simp [h.len], fun j e q => ?_, fun j k e e' u ne q1 q2 o1 o2 q3 => ?_⟩
  · obtain ⟨hj, q⟩ := key j e q
    rw [List.getElem?_set_ne hj]
    exact h.loc j e q
  · obtain ⟨hj, q1⟩ := key j e q1
    obtain ⟨hk, q2⟩ := key k e' q2
    rw [List.getElem?_set_ne hj] at q3
    rw [List.getElem?_set_ne hk]
    exact h.odi j k e e' u ne q1 q2 o1 o2 q3
theorem Lc.wipe {m : Mp} {H0 H : L2.Hp} {σ : Lo} {σV : L2.St} (h : Lc K cl m H0 H σ σV) : ∀ vs : List Nat, Lc K cl m H0 H (IP.wipe σ vs) (L2.wipe σV vs)
  | [] => h
  | v :: vs => (Lc.wipe h vs).unset
/-- what one name alone holds changes, or is made firm -/
theorem Lc.own {m : Mp} {H0 H : L2.Hp} {σ : Lo} {σV : L2.St} (h : Lc K cl m H0 H σ σV) {i : Nat} {d d' : D} {p : Addr} {o u : HO} (q : σ[i]? = some (some d)) (od : isOwn d = true) (qv : σV[i]? = some (some (.ref p))) (hp : H p = some u) (w : Wr u)
    (r : LD K cl m H0 (upd H p o) d' (.ref p)) : Lc K cl m H0 (upd H p o) (σ.set i (some d')) σV := by
  have ev : σV.set i (some (.ref p)) = σV := by
    obtain ⟨hl, e⟩ := List.getElem?_eq_some_iff.mp qv
    rw [← e]
    exact List.set_getElem_self hl
  refine ⟨by simp [h.len], fun j e q1 => ?_, fun j k e e' u' ne q1 q2 o1 o2 q3 => ?_⟩
  · rcases set_at q1 with ⟨rfl, hl, e1⟩ | ⟨hj, q1⟩
    · cases e1
      exact ⟨_, qv, r⟩
    · obtain ⟨v, a, b⟩ := h.loc j e q1
      refine ⟨v, a, b.imm (Imm.wr hp w) (fun _ f _ => f) fun a' u1 _ z f ew o1 => ?_⟩
      have na : a' ≠ p := fun z => by
        subst z
        subst ew
        exact h.odi i j d e _ hj q q1 od o1 qv a
      rw [upd_ne na]
      exact z
  · rcases set_at q1 with ⟨rfl, hl, e1⟩ | ⟨hj, q1⟩
    · rcases set_at q2 with ⟨rfl, _, _⟩ | ⟨hk, q2⟩
      · exact absurd rfl ne
      · exact h.odi i k d e' u' hk q q2 od o2 q3
    · rcases set_at q2 with ⟨rfl, hl, e1⟩ | ⟨hk, q2⟩
      · exact h.odi j i e d u' (fun z => hj z.symm) q1 q o1 od q3
      · exact h.odi j k e e' u' ne q1 q2 o1 o2 q3
end
/-! ### the wish behind a run -/
abbrev XW := Nat → Option D → Mp → L2.Hp → Prop
section
variable {α β : Type} (K : PySem.W.Frag) (cl : Cl)
/-- post where it comes through, X where it raises -/
def WP (X : XW) (m : Mp) (H : L2.Hp) (r : R α) (post : α → Hp → Mp → L2.Hp → Prop) : Prop := match r with
  | .ok a h => ∀ m' H', Ext m m' H H' → Hc K cl m' h H' → post a h m' H'
  | .exc c p h => ∀ m' H', Ext m m' H H' → Hc K cl m' h H' → X c p m' H'
  | .no => False
end
section
variable {α β : Type} {K : PySem.W.Frag} {cl : Cl} {X : XW} {m m1 : Mp} {H H1 : L2.Hp} {post : α → Hp → Mp → L2.Hp → Prop}
theorem WP.up {r : R α} (w : WP K cl X m H r post) (e : Ext m m1 H H1) : WP K cl X m1 H1 r post := by
  cases r with
  | ok a h => exact fun m' H' e' c => w m' H' (e.trans e') c
  | exc c p h => exact fun m' H' e' c => w m' H' (e.trans e') c
  | no => exact w
theorem WP.bnd {r : R β} {f : β → Hp → R α} (w : WP K cl X m H (r.bnd f) post) : WP K cl X m H r fun a h m' H' => WP K cl X m' H' (f a h) post := by
  cases r with
  | ok a h => exact fun m' H' e c => WP.up w e
  | exc c p h => exact w
  | no => exact w
theorem WP.imp {r : R α} {post' : α → Hp → Mp → L2.Hp → Prop} (w : WP K cl X m H r post) (i : ∀ a h m' H', Ext m m' H H' → Hc K cl m' h H' → post a h m' H' → post' a h m' H') : WP K cl X m H r post' := by
  cases r with
  | ok a h => exact fun m' H' e c => i a h m' H' e c (w m' H' e c)
  | exc c p h => exact w
  | no => exact w
theorem WP.opt {o : Option β} {f : β → R α} (w : WP K cl X m H (IP.opt o f) post) : ∃ b, o = some b ∧ WP K cl X m H (f b) post := by
  cases o with
  | none => exact w.elim
  | some b => exact ⟨b, rfl, w⟩
theorem WP.grd {b : Bool} {r : R α} (w : WP K cl X m H (IP.grd b r) post) : b = true ∧ WP K cl X m H r post := by
  cases b with
  | false => exact w.elim
  | true => exact ⟨rfl, w⟩
theorem WP.ite {c : Prop} [Decidable c] {r : R α} (w : WP K cl X m H (if c then r else .no) post) : c ∧ WP K cl X m H r post := by
  by_cases h : c
  · rw [if_pos h] at w; exact ⟨h, w⟩
  · rw [if_neg h] at w; exact w.elim
theorem WP.ok {a : α} {h : Hp} (w : WP K cl X m H (.ok a h) post) (C : Hc K cl m h H) : post a h m H := w m H Ext.refl C
theorem WP.calm {r : R α} (w : WP K cl X m H r.calm post) : WP K cl (fun _ _ _ _ => False) m H r post := by
  cases r with
  | ok a h => exact w
  | exc c p h => exact w.elim
  | no => exact w.elim
theorem WP.nox {r : R α} (w : WP K cl (fun _ _ _ _ => False) m H r post) (C : ∀ c p h, r = .exc c p h → Hc K cl m h H) : WP K cl X m H r post := by
  cases r with
  | ok a h => exact w
  | exc c p h => exact (w m H Ext.refl (C c p h rfl)).elim
  | no => exact w
end
/-- what is wished of an exception -/
def xE (K : PySem.W.Frag) (cl : Cl) (E : XK) : XW := fun c p m' H' => match p with
  | none => E (cl.cv c) none H'
  | some d => ∀ dx v, H' dx = some (.xd [(cl.xf c, v)]) → RD K cl H' m' d v → E (cl.cv c) (some dx) H'
section
variable (K : PySem.W.Frag) (cl : Cl) (W : WX)
/-- .. at the slots -/
def wx (σV : L2.St) : XW := xE K cl fun c d H => W c d σV H
def tE (e : E) : TE := fun σV H Q => ∃ m σ h H0, Lc K cl m H0 H σ σV ∧ Hc K cl m h H ∧ WP K cl (wx K cl W σV) m H (e σ h) fun d h' m' H' => ∀ v, RD K cl H' m' d v → Q v H'
def tT (e : T) : TT := fun σV H Q => ∃ m σ h H0, Lc K cl m H0 H σ σV ∧ Hc K cl m h H ∧ WP K cl (wx K cl W σV) m H (e σ h) fun b h' m' H' => Q b H'
def tA (e : A) : TA := fun σV H Q => ∃ m σ h H0, Lc K cl m H0 H σ σV ∧ Hc K cl m h H ∧ WP K cl (wx K cl W σV) m H (e σ h) fun ds h' m' H' => ∀ vs, RDs K cl H' m' ds vs → Q vs H'
/-- the wish behind a statement; m0, H0: where the def began -/
def WS (D : Ends) (m0 : Mp) (H0 : L2.Hp) (m : Mp) (H : L2.Hp) (r : R Fl) : Prop := match r with
  | .ok (.nxt σ) h => ∀ m' H' σV, Ext m0 m' H0 H' → Ex2 m m' H H' → Hc K cl m' h H' → Lc K cl m' H0 H' σ σV → D.nx σV H'
  | .ok (.brk σ) h => ∀ m' H' σV, Ext m0 m' H0 H' → Ex2 m m' H H' → Hc K cl m' h H' → Lc K cl m' H0 H' σ σV → D.bk σV H'
  | .ok (.cnt σ) h => ∀ m' H' σV, Ext m0 m' H0 H' → Ex2 m m' H H' → Hc K cl m' h H' → Lc K cl m' H0 H' σ σV → D.ct σV H'
  | .ok (.exc c p σ) h => ∀ m' H' σV, Ext m0 m' H0 H' → Ex2 m m' H H' → Hc K cl m' h H' → Lc K cl m' H0 H' σ σV → wx K cl W σV c p m' H'
  | .ok (.ret d) h => ∀ m' H' v, Ext m0 m' H0 H' → Ex2 m m' H H' → Hc K cl m' h H' → RD K cl H' m' d v → D.rt v H'
  | _ => False
def tS (s : S) : TS := fun D σV H => ∃ m σ h m0 H0, Ext m0 m H0 H ∧ Lc K cl m H0 H σ σV ∧ Hc K cl m h H ∧ WS K cl W D m0 H0 m H (s σ h)
end
section
variable {K : PySem.W.Frag} {cl : Cl} {W : WX}
theorem WS.up {D : Ends} {m0 m m1 : Mp} {H0 H H1 : L2.Hp} {r : R Fl} (w : WS K cl W D m0 H0 m H r) (e : Ex2 m m1 H H1) : WS K cl W D m0 H0 m1 H1 r := by
  cases r with
  | ok f h =>
    cases f with
    | nxt σ => exact fun m' H' σV e0 e' => w m' H' σV e0 (e.trans e')
    | brk σ => exact fun m' H' σV e0 e' => w m' H' σV e0 (e.trans e')
    | cnt σ => exact fun m' H' σV e0 e' => w m' H' σV e0 (e.trans e')
    | exc c p σ => exact fun m' H' σV e0 e' => w m' H' σV e0 (e.trans e')
    | ret d => exact fun m' H' σV e0 e' => w m' H' σV e0 (e.trans e')
  | exc c p h => exact w
  | no => exact w
/-- an expression within a statement -/
theorem WS.stm {α : Type} {D : Ends} {m m0 : Mp} {H H0 : L2.Hp} {r : R α} {σ : Lo} {σV : L2.St} {f : α → Hp → R Fl} (e0 : Ext m0 m H0 H) (L : Lc K cl m H0 H σ σV) (w : WS K cl W D m0 H0 m H (r.stm σ f)) : WP K cl (wx K cl W σV) m H r fun a h m' H' => Ext m0 m' H0 H' ∧ WS K cl W D m0 H0 m' H' (f a h) := by
  cases r with
  | ok a h => exact fun m' H' e c => ⟨e0.trans e, WS.up w e.ex2⟩
  | exc c p h => exact fun m' H' e C => w m' H' σV (e0.trans e) e.ex2 C (L.up e)
  | no => exact w.elim

/-! ### what a part's reading hands on -/
variable {σV : L2.St} {H H0 : L2.Hp} {m m0 : Mp} {σ : Lo} {h : Hp}
theorem tE.use {α : Type} {e : E} {k : D → Hp → R α} {post : α → Hp → Mp → L2.Hp → Prop} {Q : VK} (L : Lc K cl m H0 H σ σV) (C : Hc K cl m h H) (w : WP K cl (wx K cl W σV) m H ((e σ h).bnd k) post)
    (q : ∀ d h1 m1 H1 v, Ext m m1 H H1 → Lc K cl m1 H0 H1 σ σV → Hc K cl m1 h1 H1 → RD K cl H1 m1 d v → WP K cl (wx K cl W σV) m1 H1 (k d h1) post → Q v H1) : tE K cl W e σV H Q :=
  ⟨m, σ, h, H0, L, C, w.bnd.imp fun d h1 m1 H1 e1 C1 w1 v r => q d h1 m1 H1 v e1 (L.up e1) C1 r w1⟩
theorem tT.use {α : Type} {e : T} {k : Bool → Hp → R α} {post : α → Hp → Mp → L2.Hp → Prop} {Q : Bool → L2.Hp → Prop} (L : Lc K cl m H0 H σ σV) (C : Hc K cl m h H) (w : WP K cl (wx K cl W σV) m H ((e σ h).bnd k) post)
    (q : ∀ d h1 m1 H1, Ext m m1 H H1 → Lc K cl m1 H0 H1 σ σV → Hc K cl m1 h1 H1 → WP K cl (wx K cl W σV) m1 H1 (k d h1) post → Q d H1) : tT K cl W e σV H Q :=
  ⟨m, σ, h, H0, L, C, w.bnd.imp fun d h1 m1 H1 e1 C1 w1 => q d h1 m1 H1 e1 (L.up e1) C1 w1⟩
theorem tA.use {α : Type} {e : A} {k : List D → Hp → R α} {post : α → Hp → Mp → L2.Hp → Prop} {Q : List V → L2.Hp → Prop} (L : Lc K cl m H0 H σ σV) (C : Hc K cl m h H) (w : WP K cl (wx K cl W σV) m H ((e σ h).bnd k) post)
    (q : ∀ d h1 m1 H1 v, Ext m m1 H H1 → Lc K cl m1 H0 H1 σ σV → Hc K cl m1 h1 H1 → RDs K cl H1 m1 d v → WP K cl (wx K cl W σV) m1 H1 (k d h1) post → Q v H1) : tA K cl W e σV H Q :=
  ⟨m, σ, h, H0, L, C, w.bnd.imp fun d h1 m1 H1 e1 C1 w1 v r => q d h1 m1 H1 v e1 (L.up e1) C1 r w1⟩
theorem tE.stm {e : E} {k : D → Hp → R Fl} {De : Ends} {Q : VK} (e0 : Ext m0 m H0 H) (L : Lc K cl m H0 H σ σV) (C : Hc K cl m h H) (w : WS K cl W De m0 H0 m H ((e σ h).stm σ k))
    (q : ∀ d h1 m1 H1 v, Ext m m1 H H1 → Ext m0 m1 H0 H1 → Lc K cl m1 H0 H1 σ σV → Hc K cl m1 h1 H1 → RD K cl H1 m1 d v → WS K cl W De m0 H0 m1 H1 (k d h1) → Q v H1) : tE K cl W e σV H Q :=
  ⟨m, σ, h, H0, L, C, (WS.stm e0 L w).imp fun d h1 m1 H1 e1 C1 w1 v r => q d h1 m1 H1 v e1 w1.1 (L.up e1) C1 r w1.2⟩
theorem tT.stm {e : T} {k : Bool → Hp → R Fl} {De : Ends} {Q : Bool → L2.Hp → Prop} (e0 : Ext m0 m H0 H) (L : Lc K cl m H0 H σ σV) (C : Hc K cl m h H) (w : WS K cl W De m0 H0 m H ((e σ h).stm σ k))
    (q : ∀ d h1 m1 H1, Ext m m1 H H1 → Ext m0 m1 H0 H1 → Lc K cl m1 H0 H1 σ σV → Hc K cl m1 h1 H1 → WS K cl W De m0 H0 m1 H1 (k d h1) → Q d H1) : tT K cl W e σV H Q :=
  ⟨m, σ, h, H0, L, C, (WS.stm e0 L w).imp fun d h1 m1 H1 e1 C1 w1 => q d h1 m1 H1 e1 w1.1 (L.up e1) C1 w1.2⟩
/-- a step of values within a statement -/
theorem WS.val {α : Type} {D : Ends} {r : R α} {f : α → Hp → R Fl} (e0 : Ext m0 m H0 H) (L : Lc K cl m H0 H σ σV) (w : WS K cl W D m0 H0 m H (r.calm.stm σ f)) : WP K cl (fun _ _ _ _ => False) m H r fun a h m' H' => Ext m0 m' H0 H' ∧ Lc K cl m' H0 H' σ σV ∧ WS K cl W D m0 H0 m' H' (f a h) := by
  cases r with
  | ok a h => exact fun m' H' e c => ⟨e0.trans e, L.up e, WS.up w e.ex2⟩
  | exc c p h => exact w.elim
  | no => exact w.elim
end
/-! ### consequence -/
section
variable {X : Cx}
theorem pe_imp {e : Expr} {t t' : TE} (p : PE X e t) (i : ∀ σ H Q, t' σ H Q → t σ H Q) : PE X e t' := ⟨fun pins s σ H Q I q => p.run pins s σ H Q I (i σ H Q q)⟩
theorem pt_imp {e : Expr} {t t' : TT} (p : PT X e t) (i : ∀ σ H Q, t' σ H Q → t σ H Q) : PT X e t' := ⟨fun pins s σ H Q I q => p.run pins s σ H Q I (i σ H Q q)⟩
theorem pw_imp {e : Expr} {t t' : TT} (p : PW X e t) (i : ∀ σ H Q, t' σ H Q → t σ H Q) : PW X e t' := ⟨fun wh pins s σ H Q I q => p.run wh pins s σ H Q I (i σ H Q q)⟩
theorem pa_imp {es : List Expr} {t t' : TA} (p : PA X es t) (i : ∀ σ H Q, t' σ H Q → t σ H Q) : PA X es t' := ⟨fun pos pins s σ H Q I q => p.run pos pins s σ H Q I (i σ H Q q)⟩
theorem pk_imp {es : List Keyword} {t t' : TA} (p : PK X es t) (i : ∀ σ H Q, t' σ H Q → t σ H Q) : PK X es t' := ⟨fun pos pins s σ H Q I q => p.run pos pins s σ H Q I (i σ H Q q)⟩
theorem ps_imp {st : Stmt} {t t' : TS} (p : PS X st t) (i : ∀ D σ H, t' D σ H → t D σ H) : PS X st t' := ⟨fun pins s σ H D I q => p.run pins s σ H D I (i D σ H q)⟩
theorem pss_imp {st : List Stmt} {t t' : TS} (p : PSs X st t) (i : ∀ D σ H, t' D σ H → t D σ H) : PSs X st t' := ⟨fun pins s σ H D I q => p.run pins s σ H D I (i D σ H q)⟩
theorem pg_imp {e : Expr} {t t' : TG} (p : PG X e t) (i : ∀ v σ H Q, t' v σ H Q → t v σ H Q) : PG X e t' := ⟨fun pins s σ H v u Q I r q => p.run pins s σ H v u Q I r (i v σ H Q q)⟩
theorem pgs_imp {es : List Expr} {t t' : TGs} (p : PGs X es t) (i : ∀ v σ H Q, t' v σ H Q → t v σ H Q) : PGs X es t' := ⟨fun pins s σ H v u Q I r q => p.run pins s σ H v u Q I r (i v σ H Q q)⟩
theorem pi_imp {tg iter : Expr} {t t' : TI} (p : PI X tg iter t) (i : ∀ σ H Q, t' σ H Q → t σ H Q) : PI X tg iter t' := ⟨fun pins s σ H Q I q => p.run pins s σ H Q I (i σ H Q q)⟩
/-! ### what may be frozen -/
/-- wished now, or behind a freezing -/
def FQ (Q : VK) : VK := fun v H => Q v H ∨ ∃ a u, v = .ref a ∧ H a = some u ∧ Mut (some u) ∧ ∀ o, Q v (upd H a (.frz o u))
theorem pe_fq {e : Expr} {t : TE} (p : PE X e t) : PE X e (fun σ H Q => t σ H (FQ Q)) := ⟨fun pins s σ H Q I q => by
  refine thn (p.run pins s σ H _ I q) fun u s1 ⟨v, H1, I1, r, q1⟩ => ?_
  rcases q1 with q1 | ⟨a, xs, e1, e2, mu, q1⟩
  · exact ⟨v, H1, I1, r, q1⟩
  · subst e1
    obtain ⟨o, I2⟩ := I1.lock e2 mu
    exact ⟨_, _, I2, r, q1 o⟩⟩
end
section
variable {K : PySem.W.Frag} {cl : Cl} {E : XW} {m : Mp} {h : Hp} {H : L2.Hp} {Q : VK} {xs : List D} {vs : List V}
abbrev Rt (K : PySem.W.Frag) (cl : Cl) (Q : VK) : D → Hp → Mp → L2.Hp → Prop := fun d h' m' H' => ∀ v, RD K cl H' m' d v → Q v H'
/-- a new list is laid and frozen -/
theorem fq_new (C : Hc K cl m h H) (r : RDs K cl H m xs vs) (w : WP K cl E m H (R.ok (D.lst xs) h) (Rt K cl Q)) {p : Addr} (n : H p = none) : FQ Q (.ref p) (upd H p (.lst vs)) := by
  refine .inr ⟨p, .lst vs, rfl, upd_same, trivial, fun o => ?_⟩
  rw [upd_upd]
  have e : Ext m m H (upd H p (.frz o (.lst vs))) := Ext.lay n
  exact w m _ e (C.lay n) _ (.lst upd_same (r.up e))
theorem fq_newK {rows : List (D × D)} {kvs : List (Key × V)} (C : Hc K cl m h H) (r : RKs K cl H m rows kvs) (w : WP K cl E m H (R.ok (D.dct false rows) h) (Rt K cl Q)) {p : Addr} (n : H p = none) : FQ Q (.ref p) (upd H p (.dK kvs)) := by
  refine .inr ⟨p, .dK kvs, rfl, upd_same, trivial, fun o => ?_⟩
  rw [upd_upd]
  have e : Ext m m H (upd H p (.frz o (.dK kvs))) := Ext.lay n
  exact w m _ e (C.lay n) _ (.dK upd_same (fun k i z => C.old k i p z n) (r.upI e.imm))
theorem fq_newT {rows : List (D × D)} {kvs : List (List Key × V)} (C : Hc K cl m h H) (r : RTs K cl H m rows kvs) (w : WP K cl E m H (R.ok (D.dct true rows) h) (Rt K cl Q)) {p : Addr} (n : H p = none) : FQ Q (.ref p) (upd H p (.dT kvs)) := by
  refine .inr ⟨p, .dT kvs, rfl, upd_same, trivial, fun o => ?_⟩
  rw [upd_upd]
  have e : Ext m m H (upd H p (.frz o (.dT kvs))) := Ext.lay n
  exact w m _ e (C.lay n) _ (.dT upd_same (fun k i z => C.old k i p z n) (r.upI e.imm))
/-- a new thing is laid among ours -/
theorem w_lay {k : Nat} {o : O} (C : Hc K cl m h H) (w : WP K cl E m H (lay k o h) (Rt K cl Q)) {p : Addr} {ob : HO} (n : H p = none) (r : ∀ m', Imm m m' H (upd H p ob) → RO K cl (upd H p ob) m' o p) (no : NTb ob := by exact fun ps z => by cases z) : Q (.ref p) (upd H p ob) := by
  obtain ⟨hk, w⟩ := WP.ite w
  have hm : m k (h.len k) = none := Classical.byContradiction fun z => (C.dom k (h.len k)).mp z get_len
  have ex : Ext m (m.add k (h.len k) p) H (upd H p ob) := Ext.add n hm
  refine w _ _ ex (C.add hk n (r _ ex.imm) no) _ (.ref ?_)
  unfold Mp.add
  rw [if_pos ⟨rfl, rfl⟩]
end
end IP

namespace IP
open PySem PySem.Spec PyProof.Rows L2
section
variable {X : Cx} {cl : Cl} {W : WX} {a b c : Expr} {ea eb ec : E} {pos : Pos}
/-! ### names, constants -/
theorem snd_var {i : Nat} {x : Str} (hN : X.N[i]? = some x) (hv : Vis X.env.scope x) (hd : (x == ("__debug__" : Str)) = false := by decide) (hcd : (x == ("__classdict__" : Str)) = false := by decide) : PE X (.Name x pos) (tE X.K cl W (eLoc i)) := by
  refine pe_imp (pe_var hN hv hd hcd) fun σV H Q ⟨m, σ, h, H0, L, C, w⟩ => ?_
  unfold eLoc at w
  rw [nth_eq] at w
  cases e : σ[i]? with
  | none => simp only [e] at w; exact w.elim
  | some o =>
    cases o with
    | none => simp only [e] at w; exact w.elim
    | some d =>
      obtain ⟨v, h1, r⟩ := L.loc i d e
      by_cases od : isOwn d = true
      · cases d <;> first | (cases od; done) | (simp only [e] at w; exact w.elim)
      · have od' : isOwn d = false := by cases q : isOwn d <;> simp_all
        have w' : WP X.K cl (wx X.K cl W σV) m H (R.ok d h) (Rt X.K cl Q) := by
          cases d <;> first | (cases od'; done) | (simp only [e] at w; exact w)
        exact ⟨v, h1, WP.ok w' C v (r.rd od')⟩
theorem snd_cst {e : Expr} {v : V} {d : D} (p : PE X e (tC v)) (r : ∀ H m, RD X.K cl H m d v) : PE X e (tE X.K cl W (eCst d)) :=
  pe_imp p fun σV H Q ⟨m, σ, h, H0, L, C, w⟩ => WP.ok (show WP _ _ _ _ _ (R.ok d h) _ from w) C v (r H m)
theorem snd_int {i : Int} {j} : PE X (.Constant (.int i) j pos) (tE X.K cl W (eCst (.int i))) := snd_cst pe_int fun _ _ => .int i
theorem snd_bl {i : Bool} {j} : PE X (.Constant (.bool i) j pos) (tE X.K cl W (eCst (.bl i))) := snd_cst pe_bl fun _ _ => .bl i
theorem snd_non {j} : PE X (.Constant .none j pos) (tE X.K cl W (eCst .non)) := snd_cst pe_non fun _ _ => .non
theorem snd_str {s t : Str} {j} (e : s = t) : PE X (.Constant (.str s) j pos) (tE X.K cl W (eCst (.str t))) := by subst e; exact snd_cst pe_str fun _ _ => .str s
theorem snd_glob {x : Str} {v : V} {u : Value} {d : D} (hg : Gl X x) (hm : X.mg x = some u) (r : RelV v u) (q : ∀ H m, RD X.K cl H m d v) (hd : (x == ("__debug__" : Str)) = false := by decide) : PE X (.Name x pos) (tE X.K cl W (eCst d)) :=
  snd_cst (pe_glob hg hm r hd) q
end

/-! ### operators by values -/
/-- f says what the operator by values does -/
def OpS (K : PySem.W.Frag) (cl : Cl) (f : D → D → Hp → R D) (r : R2) : Prop :=
  ∀ (x y : D) (v u : V) (E : XW) (m : Mp) (h : Hp) (H : L2.Hp) (Q : VK), Hc K cl m h H → RD K cl H m x v → RD K cl H m y u → WP K cl E m H (f x y h) (Rt K cl Q) → r v u H Q
def UnS (K : PySem.W.Frag) (cl : Cl) (f : D → Hp → R D) (r : V → L2.Hp → VK → Prop) : Prop :=
  ∀ (x : D) (v : V) (E : XW) (m : Mp) (h : Hp) (H : L2.Hp) (Q : VK), Hc K cl m h H → RD K cl H m x v → WP K cl E m H (f x h) (Rt K cl Q) → r v H Q
section
variable {K : PySem.W.Frag} {cl : Cl} {W : WX} {ea eb ec : E}
theorem two_use {f : D → D → Hp → R D} {r : R2} (o : OpS K cl f r) {σV : L2.St} {H : L2.Hp} {Q : VK} (w : tE K cl W (two f ea eb) σV H Q) : tOp r (tE K cl W ea) (tE K cl W eb) σV H Q := by
  obtain ⟨m, σ, h, H0, L, C, w⟩ := w
  refine tE.use L C w fun d h1 m1 H1 v e1 L1 C1 r1 w1 => tE.use L1 C1 w1 fun d2 h2 m2 H2 v2 e2 L2 C2 r2 w2 => ?_
  exact o _ _ _ _ _ _ _ _ _ C2 (r1.up e2) r2 w2
theorem one_use {f : D → Hp → R D} {r : V → L2.Hp → VK → Prop} (o : UnS K cl f r) {σV : L2.St} {H : L2.Hp} {Q : VK} (w : tE K cl W (one f ea) σV H Q) : tE K cl W ea σV H (fun x H1 => r x H1 Q) := by
  obtain ⟨m, σ, h, H0, L, C, w⟩ := w
  exact tE.use L C w fun d h1 m1 H1 v e1 L1 C1 r1 w1 => o _ _ _ _ _ _ _ C1 r1 w1
theorem ops_sub : OpS K cl fSub (rI0 fun i j => .int (i - j)) := fun x y v u E m h H Q C rx ry w => by
  cases rx <;> cases ry <;> first | exact w.elim | skip
  exact ⟨_, _, rfl, rfl, WP.ok w C _ (.int _)⟩
theorem ops_mod : OpS K cl fMod (rI (fun _ j => 0 < j) fun i j => .int (i % j)) := fun x y v u E m h H Q C rx ry w => by
  cases rx <;> cases ry <;> first | exact w.elim | skip
  obtain ⟨hj, w⟩ := WP.ite w
  exact ⟨_, _, rfl, rfl, hj, WP.ok w C _ (.int _)⟩
theorem ops_fdv : OpS K cl fFdv (rI CDivW fun i j => .int (i / j)) := fun x y v u E m h H Q C rx ry w => by
  cases rx <;> cases ry <;> first | exact w.elim | skip
  obtain ⟨hj, w⟩ := WP.ite w
  obtain ⟨h1, h2⟩ := Bool.and_eq_true_iff.mp hj
  exact ⟨_, _, rfl, rfl, ⟨of_decide_eq_true h1, of_decide_eq_true h2⟩, WP.ok w C _ (.int _)⟩
theorem ops_pow : OpS K cl fPow (rI CPow fun i j => .int (i ^ j.toNat)) := fun x y v u E m h H Q C rx ry w => by
  cases rx <;> cases ry <;> first | exact w.elim | skip
  obtain ⟨hj, w⟩ := WP.ite w
  simp only [Bool.and_eq_true, decide_eq_true_eq] at hj
  exact ⟨_, _, rfl, rfl, ⟨hj.1.1.1, by omega, by omega⟩, WP.ok w C _ (.int _)⟩
theorem small_of {i : Int} (h : small i = true) : -(2 ^ 64) < i ∧ i < 2 ^ 64 := by
  unfold small at h
  simpa only [Bool.and_eq_true, decide_eq_true_eq] using h
/-- * of ints -/
def CMulA (i j : Int) : Prop := CMul i j ∨ CMulW i j
theorem op_mulA {X : Cx} : OpR X (binaryOp .Mult) (rI CMulA fun i j => .int (i * j)) := opI fun _ _ _ _ _ _ _ hc q => by
  rcases hc with hc | hc
  · exact mul_int q hc.ok
  · exact mul_int q hc.ok
theorem mulOk_of {i j : Int} (h : mulOk i j = true) : CMulA i j := by
  unfold mulOk at h
  rcases Bool.or_eq_true_iff.mp h with h | h
  · rcases Bool.or_eq_true_iff.mp h with h | h
    · exact .inl (.inl (small_of h))
    · exact .inl (.inr (small_of h))
  · exact .inr (of_decide_eq_true (p := bits i + bits j < 1000000) h)
theorem ops_cmp {p : Int → Int → Bool} : OpS K cl (fCmp p) (rI0 fun i j => .bl (p i j)) := fun x y v u E m h H Q C rx ry w => by
  cases rx <;> cases ry <;> first | exact w.elim | skip
  exact ⟨_, _, rfl, rfl, WP.ok w C _ (.bl _)⟩
theorem uns_neg : UnS K cl fNeg (rU fun i => .int (-i)) := fun x v E m h H Q C rx w => by
  cases rx <;> first | exact w.elim | skip
  exact ⟨_, rfl, WP.ok w C _ (.int _)⟩
theorem RD.isN {m : Mp} {H : L2.Hp} {d : D} {v : V} (r : RD K cl H m d v) : IP.isN d = decide (v = .non) := by cases r <;> rfl
theorem uns_isN : UnS K cl fIsN (fun v H Q => Q (.bl (decide (v = .non))) H) := fun x v E m h H Q C rx w => by
  show Q (.bl (decide (v = .non))) H
  rw [← rx.isN]
  exact WP.ok w C _ (.bl _)
theorem uns_notN : UnS K cl fNotN (fun v H Q => Q (.bl (!decide (v = .non))) H) := fun x v E m h H Q C rx w => by
  show Q (.bl (!decide (v = .non))) H
  rw [← rx.isN]
  exact WP.ok w C _ (.bl _)
/-! ### data as the library reads it -/
mutual
theorem RD.dp {m : Mp} {H : L2.Hp} : ∀ (d : D) (v : V), RD K cl H m d v → (toP d).canLay0 = true → Dp K H v (toP d)
  | .non, _, h, _ => by cases h; exact .non
  | .bl b, _, h, _ => by cases h; exact .bl b
  | .int i, _, h, _ => by cases h; exact .int i
  | .str s, _, h, _ => by cases h; exact .str s
  | .tup xs, _, h, q => by
    cases h with
    | tup a r => exact .tup (.inl (.inl a)) (RDs.dp xs _ r (by simpa [toP, PyData.canLay0] using q))
  | .ctp xs, _, h, q => by
    cases h with
    | ctp a r => exact .tup (a H) (RDs.dp xs _ r (by simpa [toP, PyData.canLay0] using q))
  | .lst xs, _, h, q => by
    cases h with
    | lst a r => exact .lst (.inl (.inr ⟨_, a⟩)) (RDs.dp xs _ r (by simpa [toP, PyData.canLay0] using q))
  | .scr xs, _, h, q => by
    cases h with
    | scr a r => exact .lst a.sql (RDs.dp xs _ r (by simpa [toP, PyData.canLay0] using q))
  | .ref _ _, _, h, q => by simp [toP, PyData.canLay0] at q
  | .dct _ _, _, h, q => by simp [toP, PyData.canLay0] at q
  | .cls _, _, h, q => by simp [toP, PyData.canLay0] at q
  | .ownL _, _, h, q => by simp [toP, PyData.canLay0] at q
  | .ownD _ _, _, h, q => by simp [toP, PyData.canLay0] at q
theorem RDs.dp {m : Mp} {H : L2.Hp} : ∀ (ds : List D) (vs : List V), RDs K cl H m ds vs → PyData.canLayAll0 (toPs ds) = true → DpAll K H vs (toPs ds)
  | [], _, h, _ => by cases h; exact .nil
  | d :: ds, _, h, q => by
    have q' : (toP d).canLay0 = true ∧ PyData.canLayAll0 (toPs ds) = true := by simpa [toPs, PyData.canLayAll0] using q
    cases h with
    | cons a r => exact .cons (RD.dp d _ a q'.1) (RDs.dp ds _ r q'.2)
end
theorem plain_of {d : D} (h : plain d = true) : (toP d).canLay0 = true ∧ SeqAt.shaped (toP d) = true :=
  ⟨(Bool.and_eq_true_iff.mp h).1, h⟩
theorem eqD_of {x y : D} {r : Bool} (h : eqD x y = some r) : sc x y = some r ∨ (lnNe x y = true ∧ r = false) ∨ (plain x = true ∧ plain y = true ∧ r = PyData.eqv (toP x) (toP y)) := by
  unfold eqD at h
  cases q : sc x y with
  | some r' => simp only [q] at h; exact .inl h
  | none =>
    simp only [q] at h
    by_cases l : lnNe x y = true
    · rw [if_pos l] at h
      cases h
      exact .inr (.inl ⟨l, rfl⟩)
    · rw [if_neg l] at h
      by_cases c : (plain x && plain y) = true
      · rw [if_pos c] at h
        cases h
        exact .inr (.inr ⟨(Bool.and_eq_true_iff.mp c).1, (Bool.and_eq_true_iff.mp c).2, rfl⟩)
      · rw [if_neg c] at h
        cases h
/-- two lists of unlike lengths -/
def rLn (K : PySem.W.Frag) (r : Bool) : R2 := fun x y H Q => ∃ a b xs ys, x = .ref a ∧ y = .ref b ∧ SqL K H a xs ∧ SqL K H b ys ∧ xs.length ≠ ys.length ∧ Q (.bl r) H
theorem lnNe_of {m : Mp} {H : L2.Hp} {x y : D} {v u : V} {r : Bool} {Q : VK} (rx : RD K cl H m x v) (ry : RD K cl H m y u) (h : lnNe x y = true) (q : Q (.bl r) H) : rLn K r v u H Q := by
  cases rx <;> first | (cases h; done) | skip
  cases ry <;> first | (cases h; done) | skip
  rename_i a o xs vs q1 r1 b o' ys us q2 r2
  refine ⟨a, b, vs, us, rfl, rfl, .inl (.inr ⟨_, q1⟩), .inl (.inr ⟨_, q2⟩), ?_, q⟩
  rw [← r1.length, ← r2.length]
  intro z
  have h' : (!Nat.beq xs.length ys.length) = true := h
  rw [z] at h'
  simp at h'
theorem sc_of {m : Mp} {H : L2.Hp} {x y : D} {v u : V} {r : Bool} (rx : RD K cl H m x v) (ry : RD K cl H m y u) (h : sc x y = some r) : scal v u = true ∧ r = decide (v = u) := by
  cases rx <;> cases ry <;> first | (cases h; done) | skip
  all_goals
    cases h
    refine ⟨rfl, ?_⟩
  all_goals first
    | rfl
    | (simp [eqS_iff]; done)
    | (rw [Bool.eq_iff_iff]; simp; done)
theorem ops_eq : OpS K cl fEq (fun x y H Q => (rEq x y H Q ∨ rEqD K x y H Q) ∨ rLn K false x y H Q) := fun x y v u E m h H Q C rx ry w => by
  obtain ⟨r, e, w1⟩ := WP.opt w
  rcases eqD_of e with e | ⟨l, rfl⟩ | ⟨p1, p2, rfl⟩
  · obtain ⟨s1, rfl⟩ := sc_of rx ry e
    exact .inl (.inl ⟨s1, WP.ok w1 C _ (.bl _)⟩)
  · exact .inr (lnNe_of rx ry l (WP.ok w1 C _ (.bl _)))
  · exact .inl (.inr ⟨toP x, toP y, RD.dp _ _ rx (plain_of p1).1, RD.dp _ _ ry (plain_of p2).1, (plain_of p1).2, (plain_of p2).2, WP.ok w1 C _ (.bl _)⟩)
theorem ops_ne : OpS K cl fNe (fun x y H Q => (rNe x y H Q ∨ rNeD K x y H Q) ∨ rLn K true x y H Q) := fun x y v u E m h H Q C rx ry w => by
  obtain ⟨r, e, w1⟩ := WP.opt w
  rcases eqD_of e with e | ⟨l, rfl⟩ | ⟨p1, p2, rfl⟩
  · obtain ⟨s1, rfl⟩ := sc_of rx ry e
    exact .inl (.inl ⟨s1, WP.ok w1 C _ (.bl _)⟩)
  · exact .inr (lnNe_of rx ry l (WP.ok w1 C _ (.bl _)))
  · exact .inl (.inr ⟨toP x, toP y, RD.dp _ _ rx (plain_of p1).1, RD.dp _ _ ry (plain_of p2).1, (plain_of p1).2, (plain_of p2).2, WP.ok w1 C _ (.bl _)⟩)
theorem any_toPs {xs : List D} {p : PyData → Bool} : (toPs xs).any p = xs.any fun y => p (toP y) := by
  induction xs with
  | nil => rfl
  | cons x r ih => simp [toPs, ih]
theorem memD_of {x : D} {xs : List D} {r : Bool} (h : memD x xs = some r) : plain x = true ∧ plain (.lst xs) = true ∧ r = (toPs xs).any fun z => PyData.eqv z (toP x) := by
  unfold memD at h
  by_cases c : (plain x && plainL xs) = true
  · rw [if_pos c] at h
    cases h
    exact ⟨(Bool.and_eq_true_iff.mp c).1, (Bool.and_eq_true_iff.mp c).2, (any_toPs (xs := xs) (p := fun z => PyData.eqv z (toP x))).symm⟩
  · rw [if_neg c] at h
    cases h
/-! ### keys -/
theorem kD_inj {a b : Key} : kD a = kD b ↔ a = b := by
  cases a <;> cases b <;> simp [kD]
theorem eqK_kD (a b : Key) : eqK (kD a) (kD b) = decide (a = b) := by
  cases a <;> cases b <;> simp [kD, eqK, eqS_iff]
theorem eqKs_kD : ∀ a b : List Key, eqKs (a.map kD) (b.map kD) = decide (a = b)
  | [], [] => by simp [eqKs]
  | [], _ :: _ => by simp [eqKs]
  | _ :: _, [] => by simp [eqKs]
  | x :: xs, y :: ys => by
    show (eqK (kD x) (kD y) && eqKs (xs.map kD) (ys.map kD)) = _
    rw [eqK_kD, eqKs_kD xs ys]
    by_cases h : x = y <;> by_cases h2 : xs = ys <;> simp [h, h2]
theorem eqKey_k (a b : Key) : eqKey (kD a) (kD b) = decide (a = b) := by
  rw [← eqK_kD]
  cases a <;> cases b <;> rfl
theorem eqKey_t (a b : List Key) : eqKey (.tup (a.map kD)) (.tup (b.map kD)) = decide (a = b) := eqKs_kD a b
theorem isK_of {m : Mp} {H : L2.Hp} {d : D} {v : V} (r : RD K cl H m d v) (h : isK d = true) : ∃ k, d = kD k ∧ v = kV k := by
  cases r <;> first | (cases h; done) | skip
  · exact ⟨.inl _, rfl, rfl⟩
  · exact ⟨.inr _, rfl, rfl⟩
theorem isKs_of {m : Mp} {H : L2.Hp} : ∀ {ds : List D} {vs : List V}, RDs K cl H m ds vs → ds.all isK = true → ∃ ks : List Key, ds = ks.map kD ∧ vs = ks.map kV
  | _, _, .nil, _ => ⟨[], rfl, rfl⟩
  | _, _, .cons a r, h => by
    rw [List.all_cons, Bool.and_eq_true] at h
    obtain ⟨k, rfl, rfl⟩ := isK_of a h.1
    obtain ⟨ks, rfl, rfl⟩ := isKs_of r h.2
    exact ⟨k :: ks, rfl, rfl⟩
theorem isT_of {m : Mp} {H : L2.Hp} {d : D} {v : V} (r : RD K cl H m d v) (h : isKey true d = true) : ∃ (ks : List Key) (b : Addr), d = .tup (ks.map kD) ∧ v = .ref b ∧ H b = some (.tup (ks.map kV)) := by
  cases r <;> first | (cases h; done) | skip
  rename_i a xs vs q rs
  obtain ⟨ks, rfl, rfl⟩ := isKs_of rs h
  exact ⟨ks, a, rfl, rfl, q⟩
/-- what a dict tells, on both sides -/
def RMay (K : PySem.W.Frag) (cl : Cl) (H : L2.Hp) (m : Mp) (o : Option D) (p : Option V) : Prop := (o = none ∧ p = none) ∨ ∃ d v, o = some d ∧ p = some v ∧ RD K cl H m d v
theorem RKs.look {m : Mp} {H : L2.Hp} (k : Key) : ∀ {rows : List (D × D)} {kvs : List (Key × V)}, RKs K cl H m rows kvs → RMay K cl H m (look (kD k) rows) (valV kvs k)
  | _, _, .nil => .inl ⟨rfl, rfl⟩
  | _, _, @RKs.cons _ _ _ _ k' d r v s a t => by
    unfold IP.look
    rw [eqKey_k]
    by_cases e : k' = k
    · rw [valV_pos e, decide_eq_true e]
      exact .inr ⟨d, v, rfl, rfl, a⟩
    · rw [valV_neg e, decide_eq_false e]
      exact t.look k
theorem RTs.look {m : Mp} {H : L2.Hp} (k : List Key) : ∀ {rows : List (D × D)} {kvs : List (List Key × V)}, RTs K cl H m rows kvs → RMay K cl H m (look (.tup (k.map kD)) rows) (valV kvs k)
  | _, _, .nil => .inl ⟨rfl, rfl⟩
  | _, _, @RTs.cons _ _ _ _ k' d r v s a t => by
    unfold IP.look
    rw [eqKey_t]
    by_cases e : k' = k
    · rw [valV_pos e, decide_eq_true e]
      exact .inr ⟨d, v, rfl, rfl, a⟩
    · rw [valV_neg e, decide_eq_false e]
      exact t.look k
/-- a dict that is read -/
theorem dctAt_of {m : Mp} {h : Hp} {H : L2.Hp} {d : D} {v : V} {t : Bool} {rows : List (D × D)} (C : Hc K cl m h H) (r : RD K cl H m d v) (e : dctAt d h = some (t, rows)) :
    ∃ a, v = .ref a ∧ ((t = false ∧ ∃ kvs, Rd H a (.dK kvs) ∧ RKs K cl H m rows kvs) ∨ (t = true ∧ ∃ kvs, Rd H a (.dT kvs) ∧ RTs K cl H m rows kvs)) := by
  cases r <;> first | (cases e; done) | skip
  · rename_i a o rs kvs q f r
    cases e
    exact ⟨a, rfl, .inl ⟨rfl, kvs, .inr ⟨o, q⟩, r⟩⟩
  · rename_i a o rs kvs q f r
    cases e
    exact ⟨a, rfl, .inr ⟨rfl, kvs, .inr ⟨o, q⟩, r⟩⟩
  · rename_i k n a hm
    unfold dctAt at e
    cases q : h.get k n with
    | none => simp only [q] at e; cases e
    | some ob =>
      simp only [q] at e
      cases ob <;> first | (cases e; done) | skip
      rename_i t' lk rs
      cases e
      have ro := C.obj k n _ a q hm
      cases t <;> cases lk
      · obtain ⟨kvs, z, r⟩ := ro; exact ⟨a, rfl, .inl ⟨rfl, kvs, .inl z, r⟩⟩
      · obtain ⟨kvs, od, z, r⟩ := ro; exact ⟨a, rfl, .inl ⟨rfl, kvs, .inr ⟨od, z⟩, r⟩⟩
      · obtain ⟨kvs, z, r⟩ := ro; exact ⟨a, rfl, .inr ⟨rfl, kvs, .inl z, r⟩⟩
      · obtain ⟨kvs, od, z, r⟩ := ro; exact ⟨a, rfl, .inr ⟨rfl, kvs, .inr ⟨od, z⟩, r⟩⟩
theorem dget_of {m : Mp} {h : Hp} {H : L2.Hp} {d k : D} {v u : V} {p : Bool × List (D × D)} (C : Hc K cl m h H) (r : RD K cl H m d v) (rk : RD K cl H m k u) (e : dctAt d h = some p) (hk : isKey p.1 k = true) :
    ∃ a o, v = .ref a ∧ DGet H a u o ∧ RMay K cl H m (look k p.2) o := by
  obtain ⟨t, rows⟩ := p
  obtain ⟨a, rfl, ⟨rfl, kvs, z, r⟩ | ⟨rfl, kvs, z, r⟩⟩ := dctAt_of C r e
  · obtain ⟨k', rfl, rfl⟩ := isK_of rk hk
    exact ⟨a, _, rfl, .inl ⟨kvs, k', z, rfl, rfl⟩, r.look k'⟩
  · obtain ⟨ks, b, rfl, rfl, eb⟩ := isT_of rk hk
    exact ⟨a, _, rfl, .inr ⟨kvs, ks, b, z, rfl, eb, rfl⟩, r.look ks⟩
theorem RMay.some {m : Mp} {H : L2.Hp} {o : Option D} {p : Option V} (r : RMay K cl H m o p) : o.isSome = p.isSome := by
  rcases r with ⟨rfl, rfl⟩ | ⟨d, v, rfl, rfl, _⟩ <;> rfl
/-! ### x in y -/
theorem strsD_of {m : Mp} {H : L2.Hp} : ∀ {ds : List D} {vs : List V} {ss : List Str}, RDs K cl H m ds vs → strsD ds = some ss → vs = ss.map V.str
  | _, _, _, .nil, e => by cases e; rfl
  | _, _, ss, @RDs.cons _ _ _ _ d ds v vs a r, e => by
    cases a with
    | str s =>
      unfold strsD at e
      cases q : strsD ds with
      | none => simp only [q] at e; cases e
      | some ts =>
        simp only [q] at e
        cases e
        rw [strsD_of r q]
        rfl
    | _ => cases e
theorem inV_str (s : Str) (ss : List Str) : inV (.str s) (ss.map V.str) = ss.any fun t => eqS t s := by
  unfold inV
  rw [List.any_map]
  congr 1
  funext t
  show (t == s) = _
  rw [eqS_iff]
  rfl
theorem flat_str (ss : List Str) : (ss.map V.str).all flatV = true := by
  rw [List.all_map, List.all_eq_true]
  intro x _
  rfl
def rInA (K : PySem.W.Frag) : R2 := fun x y H Q => (rInD K x y H Q ∨ rIn K false x y H Q) ∨ ((∃ (c : Nat) (z : Str), x = .str ⟨#[c]⟩ ∧ y = .str z ∧ Q (.bl (decide (c ∈ z.cps.toList))) H) ∨ ∃ a o, y = .ref a ∧ DGet H a x o ∧ Q (.bl o.isSome) H)
def rNotInA (K : PySem.W.Frag) : R2 := fun x y H Q => (rNotInD K x y H Q ∨ rIn K true x y H Q) ∨ ((∃ (c : Nat) (z : Str), x = .str ⟨#[c]⟩ ∧ y = .str z ∧ Q (.bl (!decide (c ∈ z.cps.toList))) H) ∨ ∃ a o, y = .ref a ∧ DGet H a x o ∧ Q (.bl (!o.isSome)) H)
/-- what x in y comes to, whichever it is asked for -/
theorem in_cases {x y : D} {v u : V} {E : XW} {m : Mp} {h : Hp} {H : L2.Hp} {Q : VK} (C : Hc K cl m h H) (rx : RD K cl H m x v) (ry : RD K cl H m y u) (post : D → Hp → Mp → L2.Hp → Prop) (w : WP K cl E m H (fIn x y h) post) :
    ∃ b, post (.bl b) h m H ∧ ((∀ Q, Q (.bl b) H → rInA K v u H Q) ∧ (∀ Q, Q (.bl (!b)) H → rNotInA K v u H Q)) := by
  have dict : ∀ (p : Bool × List (D × D)), dctAt y h = some p → WP K cl E m H (grd (isKey p.1 x) (R.ok (D.bl (look x p.2).isSome) h)) post → ∃ b, post (.bl b) h m H ∧ ((∀ Q, Q (.bl b) H → rInA K v u H Q) ∧ (∀ Q, Q (.bl (!b)) H → rNotInA K v u H Q)) := fun p e w => by
    obtain ⟨hk, w⟩ := WP.grd w
    obtain ⟨a, o, rfl, g, r⟩ := dget_of C ry rx e hk
    refine ⟨_, WP.ok w C, fun Q q => .inr (.inr ⟨a, o, rfl, g, ?_⟩), fun Q q => .inr (.inr ⟨a, o, rfl, g, ?_⟩)⟩
    · rw [← r.some]; exact q
    · rw [← r.some]; exact q
  cases ry with
  | lst q r =>
    rename_i a o xs vs
    have w1 : WP K cl E m H (opt (memD x xs) fun r => R.ok (D.bl r) h) post := by
      cases rx <;> exact w
    obtain ⟨b, e, w2⟩ := WP.opt w1
    obtain ⟨p1, p2, rfl⟩ := memD_of e
    have ry : RD K cl H m (.lst xs) (.ref a) := .lst q r
    refine ⟨_, WP.ok w2 C, fun Q z => .inl (.inl ⟨toP x, toPs xs, RD.dp _ _ rx (plain_of p1).1, RD.dp _ _ ry (plain_of p2).1, (plain_of p1).2, (plain_of p2).2, z⟩), fun Q z => .inl (.inl ⟨toP x, toPs xs, RD.dp _ _ rx (plain_of p1).1, RD.dp _ _ ry (plain_of p2).1, (plain_of p1).2, (plain_of p2).2, z⟩)⟩
  | tup q r =>
    cases rx <;> first | exact w.elim | skip
    obtain ⟨ss, e, w2⟩ := WP.opt w
    obtain rfl := strsD_of r e
    refine ⟨_, WP.ok w2 C, fun Q z => .inl (.inr ⟨_, _, rfl, .inr (.inl (.inl q)), rfl, flat_str ss, ?_⟩), fun Q z => .inl (.inr ⟨_, _, rfl, .inr (.inl (.inl q)), rfl, flat_str ss, ?_⟩)⟩
    · rw [inV_str]; exact z
    · rw [inV_str]; exact z
  | ctp q r =>
    cases rx <;> first | exact w.elim | skip
    obtain ⟨ss, e, w2⟩ := WP.opt w
    obtain rfl := strsD_of r e
    refine ⟨_, WP.ok w2 C, fun Q z => .inl (.inr ⟨_, _, rfl, .inr (q H), rfl, flat_str ss, ?_⟩), fun Q z => .inl (.inr ⟨_, _, rfl, .inr (q H), rfl, flat_str ss, ?_⟩)⟩
    · rw [inV_str]; exact z
    · rw [inV_str]; exact z
  | str s =>
    cases rx <;> first | exact w.elim | skip
    rename_i a
    unfold fIn at w
    cases e : a.cps.toList with
    | nil => simp only [e] at w; exact w.elim
    | cons c r =>
      cases r with
      | cons _ _ => simp only [e] at w; exact w.elim
      | nil =>
        simp only [e] at w
        have ea : a = ⟨#[c]⟩ := by
          cases a with
          | mk ar =>
            congr 1
            apply Array.toList_inj.mp
            exact e
        subst ea
        have ed : decide (c ∈ s.cps.toList) = s.cps.toList.contains c := by simp
        refine ⟨_, WP.ok w C, fun Q z => .inr (.inl ⟨c, s, rfl, rfl, ?_⟩), fun Q z => .inr (.inl ⟨c, s, rfl, rfl, ?_⟩)⟩
        · rw [ed]; exact z
        · rw [ed]; exact z
  | @dK a o rows kvs q f r =>
    have w1 : WP K cl E m H (opt (dctAt (.dct false rows) h) fun p => grd (isKey p.1 x) (R.ok (D.bl (look x p.2).isSome) h)) post := by
      cases rx <;> exact w
    obtain ⟨p, e, w2⟩ := WP.opt w1
    exact dict p e w2
  | @dT a o rows kvs q f r =>
    have w1 : WP K cl E m H (opt (dctAt (.dct true rows) h) fun p => grd (isKey p.1 x) (R.ok (D.bl (look x p.2).isSome) h)) post := by
      cases rx <;> exact w
    obtain ⟨p, e, w2⟩ := WP.opt w1
    exact dict p e w2
  | ref q =>
    rename_i k n a
    have w1 : WP K cl E m H (opt (dctAt (.ref k n) h) fun p => grd (isKey p.1 x) (R.ok (D.bl (look x p.2).isSome) h)) post := by
      cases rx <;> exact w
    obtain ⟨p, e, w2⟩ := WP.opt w1
    exact dict p e w2
  | non => cases rx <;> exact w.elim
  | bl b => cases rx <;> exact w.elim
  | int i => cases rx <;> exact w.elim
  | scr q r => cases rx <;> exact w.elim
  | cls k => cases rx <;> exact w.elim
  | exn => cases rx <;> exact w.elim
theorem ops_in : OpS K cl fIn (rInA K) := fun x y v u E m h H Q C rx ry w => by
  obtain ⟨b, p, i, _⟩ := in_cases (Q := Q) C rx ry _ w
  exact i Q (p _ (.bl b))
theorem ops_notIn : OpS K cl fNotIn (rNotInA K) := fun x y v u E m h H Q C rx ry w => by
  have w1 : WP K cl E m H ((fIn x y h).bnd notR) (Rt K cl Q) := w
  obtain ⟨b, p, _, i⟩ := in_cases (Q := Q) C rx ry _ w1.bnd
  exact i Q (WP.ok (a := D.bl (!b)) (h := h) p C _ (.bl _))
end
section
variable {X : Cx}
theorem op_inDict (hu : X.A.units + 1 < cLine) : OpR X (compareOp .In) (fun x y H Q => ∃ a o, y = .ref a ∧ DGet H a x o ∧ Q (.bl o.isSome) H) := fun pins s σ H x y v u Q I rx ry h => by
  obtain ⟨a, o, rfl, g, q⟩ := h
  obtain rfl : u = Value.ref a := ry
  exact d_in hu I g rx fun s3 I3 => ⟨.bl o.isSome, H, I3, rfl, q⟩
theorem op_notInDict (hu : X.A.units + 1 < cLine) : OpR X (compareOp .NotIn) (fun x y H Q => ∃ a o, y = .ref a ∧ DGet H a x o ∧ Q (.bl (!o.isSome)) H) := fun pins s σ H x y v u Q I rx ry h => by
  obtain ⟨a, o, rfl, g, q⟩ := h
  obtain rfl : u = Value.ref a := ry
  exact d_notIn hu I g rx fun s3 I3 => ⟨.bl (!o.isSome), H, I3, rfl, q⟩
theorem op_inA (hu : X.A.units + 65 < cLine) : OpR X (compareOp .In) (rInA X.K) := ((op_inD hu).or op_in_seq).or (op_in_sign.or (op_inDict (by omega)))
theorem op_notInA (hu : X.A.units + 65 < cLine) : OpR X (compareOp .NotIn) (rNotInA X.K) := ((op_notInD hu).or op_notIn_seq).or (op_notIn_sign.or (op_notInDict (by omega)))
end
end IP

namespace IP
open PySem PySem.Spec PyProof.Rows L2
section
variable {X : Cx}
/-- the list's object, frozen or not -/
theorem lst_obj {pins : List (Addr × Obj)} {s : Shared} {σ : L2.St} {H : L2.Hp} {l : Addr} {xs : List V} (I : Inv X pins σ H s) (q : Rd H l (.lst xs)) :
    xs.length ≤ sizeLine ∧ ∃ (us : List Value) (n : Nat), Vals xs us ∧ s.heap.get? l = some { cls := .type "list", data := .seq us.toArray n } := by
  obtain ⟨z, us, n, r, e⟩ := q.ok I.hok
  exact ⟨z, us, n, r, e⟩
def rCatF : R2 := fun x y H Q => ∃ l b xs zs, x = .ref l ∧ y = .ref b ∧ Rd H l (.lst xs) ∧ Rd H b (.lst zs) ∧ xs.length + zs.length ≤ sizeLine ∧ ∀ p, H p = none → Q (.ref p) (upd H p (.lst (xs ++ zs)))
theorem op_catF : OpR X (binaryOp .Add) rCatF := fun pins s σ H x y v u Q I rx ry q => by
  obtain ⟨l, b, xs, zs, rfl, rfl, q1, q2, hz, q⟩ := q
  cases rx
  cases ry
  obtain ⟨_, us, n, r1, e1⟩ := lst_obj I q1
  obtain ⟨_, ws, k, r2, e2⟩ := lst_obj I q2
  refine PySem.P.add_list e1 e2 ?_ (by simp only [List.size_toArray]; rw [← r1.length, ← r2.length]; exact hz)
  have ap : us.toArray ++ ws.toArray = (us ++ ws).toArray := by simp
  rw [ap]
  exact ⟨.ref _, _, I.lnew (t' := s.toks) (r1.append r2) (by rw [List.length_append]; exact hz), rfl, q _ I.fresh⟩
def rRepF : R2 := fun x y H Q => ∃ l k xs, x = .ref l ∧ y = .int k ∧ Rd H l (.lst xs) ∧ -(2 ^ 63) ≤ k ∧ k < 2 ^ 63 ∧ xs.length * k.toNat ≤ sizeLine ∧ ∀ p, H p = none → Q (.ref p) (upd H p (.lst (List.replicate k.toNat xs).flatten))
theorem op_repF : OpR X (binaryOp .Mult) rRepF := fun pins s σ H x y v u Q I rx ry q => by
  obtain ⟨l, k, xs, rfl, rfl, q1, h1, h2, hz, q⟩ := q
  cases rx
  obtain ⟨t, rfl⟩ := ry
  obtain ⟨_, us, n, r, e⟩ := lst_obj I q1
  have sz : us.toArray.size * k.toNat ≤ sizeLine := by
    rw [List.size_toArray, ← r.length]
    exact hz
  have cap : ¬ us.toArray.size * k.toNat > (2 ^ 63 - 1) / 8 := by
    have q : (sizeLine : Nat) ≤ (2 ^ 63 - 1) / 8 := by decide
    omega
  have fit : ¬ (!Builtin.List.listFitsIndex k) = true := by
    rw [fitsIndex_both h1 h2]; decide
  have long : ¬ Builtin.List.listTooLong (us.toArray.size * k.toNat) = true := by
    rw [notLongL sz]; decide
  have fold : ∀ j : Nat, List.foldl (fun x1 x2 => x1 ++ x2) #[] (List.replicate j us.toArray) = (List.replicate j us).flatten.toArray := fun j => by
    have z := foldl_rep us j []
    rwa [List.nil_append] at z
  have made : List.foldl (fun x1 x2 => x1 ++ x2) #[] (List.replicate (if us.toArray.isEmpty = true then 0 else k.toNat) us.toArray) = (List.replicate k.toNat us).flatten.toArray := by
    rw [fold]
    cases us with
    | nil => simp
    | cons a us' => rw [if_neg (by simp)]
  refine wpAny_binaryOp_repeat_ref (T := "list") (U := "int") (by decide) ⟨_, e, rfl⟩ (fun s1 => typeIs_int s1 k t) noFill_list_mul F.fills_int_mul F.slot_int_rmul repeat_list F.slot_int_index.lookup ?_
  refine call_meets F.slot_int_rmul (typeIs_int s k t) F.entry_int_rmul (F.args_int_rmul_2 _ _) (int___rmul___int_list k t l us.toArray n) ⟨e, rfl, ⟨_, e, rfl⟩, ?_⟩
  refine call_meets F.slot_list_mul ⟨_, e, rfl⟩ F.entry_list_mul (F.args_list_mul_2 _ _) (AutoListH.list___mul___list_int_3 l us.toArray n k t fit cap long) ⟨e, ?_⟩
  rw [made]
  refine ⟨.ref s.heap.objs.size, _, I.lnew (t' := s.toks) (r.rep k.toNat) (by rw [PyProof.Rows.lm_len_rep_flat, Nat.mul_comm]; exact hz), rfl, q _ I.fresh⟩
end
theorem line1 {n : Nat} (h : n ≤ 100000) : n ≤ sizeLine := Nat.le_trans h (by decide)
theorem line2 {n : Nat} (h : n < 100000) : n < sizeLine := Nat.lt_of_lt_of_le h (by decide)
theorem RDs.rep {K : PySem.W.Frag} {cl : Cl} {m : Mp} {H : L2.Hp} {xs : List D} {vs : List V} (r : RDs K cl H m xs vs) : ∀ k : Nat, RDs K cl H m (List.replicate k xs).flatten (List.replicate k vs).flatten
  | 0 => .nil
  | k + 1 => by
    simp only [List.replicate_succ, List.flatten_cons]
    exact r.append (RDs.rep r k)
/-- f says what an operator by values does; a list that comes new may be frozen -/
def OpF (K : PySem.W.Frag) (cl : Cl) (f : D → D → Hp → R D) (r : R2) : Prop :=
  ∀ (x y : D) (v u : V) (E : XW) (m : Mp) (h : Hp) (H : L2.Hp) (Q : VK), Hc K cl m h H → RD K cl H m x v → RD K cl H m y u → WP K cl E m H (f x y h) (Rt K cl Q) → r v u H (FQ Q)
section
variable {K : PySem.W.Frag} {cl : Cl}
theorem opf_add : OpF K cl fAdd (fun x y H Q => (rI0 (fun i j => .int (i + j)) x y H Q ∨ rCatF x y H Q) ∨ (rCatA K x y H Q ∨ ∃ i j, x = .str i ∧ y = .str j ∧ i.length + j.length ≤ sizeLine ∧ Q (.str (i ++ j)) H)) := fun x y v u E m h H Q C rx ry w => by
  cases rx with
  | int i =>
    cases ry with
    | int j => exact .inl (.inl ⟨i, j, rfl, rfl, .inl (WP.ok w C _ (.int _))⟩)
    | _ => exact w.elim
  | str i =>
    cases ry with
    | str j =>
      obtain ⟨c, w⟩ := WP.ite w
      exact .inr (.inr ⟨i, j, rfl, rfl, line1 c, .inl (WP.ok w C _ (.str _))⟩)
    | _ => exact w.elim
  | lst a r =>
    cases ry with
    | lst b r2 =>
      obtain ⟨c, w⟩ := WP.ite w
      refine .inl (.inr ⟨_, _, _, _, rfl, rfl, .inr ⟨_, a⟩, .inr ⟨_, b⟩, ?_, fun p n => fq_new C (r.append r2) w n⟩)
      rw [← r.length, ← r2.length]
      exact line1 c
    | _ => exact w.elim
  | @tup a xs vs qa r =>
    cases ry with
    | @tup b ys ws qb r2 =>
      obtain ⟨c, w⟩ := WP.ite w
      refine .inr (.inl ⟨a, b, vs, ws, rfl, rfl, .inl (.inl qa), .inl (.inl qb), by rw [← r.length, ← r2.length]; exact line1 c, fun e => ?_, fun e1 e2 => ?_, fun e1 e2 p n => ?_⟩)
      · subst e
        cases r
        exact .inl (WP.ok w C _ (.tup qb r2))
      · subst e2
        cases r2
        rw [List.append_nil] at w
        exact .inl (WP.ok w C _ (.tup qa r))
      · have e : Ext m m H (upd H p (.tup (vs ++ ws))) := Ext.lay n
        exact .inl (w m _ e (C.lay n) _ (.tup upd_same ((r.append r2).up e)))
    | _ => exact w.elim
  | _ => exact w.elim
theorem opf_mul : OpF K cl fMul (fun x y H Q => rI CMulA (fun i j => .int (i * j)) x y H Q ∨ rRepF x y H Q) := fun x y v u E m h H Q C rx ry w => by
  cases rx with
  | int i =>
    cases ry with
    | int j =>
      obtain ⟨c, w⟩ := WP.ite w
      exact .inl ⟨i, j, rfl, rfl, mulOk_of c, .inl (WP.ok w C _ (.int _))⟩
    | _ => exact w.elim
  | lst a r =>
    cases ry with
    | int k =>
      obtain ⟨c, w⟩ := WP.ite w
      simp only [Bool.and_eq_true, decide_eq_true_eq] at c
      refine .inr ⟨_, k, _, rfl, rfl, .inr ⟨_, a⟩, by omega, by omega, ?_, fun p n => fq_new C (r.rep k.toNat) w n⟩
      rw [← r.length]
      exact line1 c.2
    | _ => exact w.elim
  | _ => exact w.elim
end
section
variable {X : Cx} {cl : Cl} {W : WX} {a b c : Expr} {ea eb ec : E} {pos : Pos}
theorem snd_bin {op : Operator} {f : D → D → Hp → R D} {r : R2} (ho : OpR X (binaryOp op) r) (o : OpS X.K cl f r) (ha : PE X a (tE X.K cl W ea)) (hb : PE X b (tE X.K cl W eb)) : PE X (.BinOp a op b pos) (tE X.K cl W (two f ea eb)) := pe_imp (pe_op ho ha hb) fun _ _ _ w => two_use o w
theorem snd_binF {op : Operator} {f : D → D → Hp → R D} {r : R2} (ho : OpR X (binaryOp op) r) (o : OpF X.K cl f r) (ha : PE X a (tE X.K cl W ea)) (hb : PE X b (tE X.K cl W eb)) : PE X (.BinOp a op b pos) (tE X.K cl W (two f ea eb)) :=
  pe_imp (pe_fq (pe_op ho ha hb)) fun σV H Q ⟨m, σ, h, H0, L, C, w⟩ => tE.use L C w fun d h1 m1 H1 v e1 L1 C1 r1 w1 => tE.use L1 C1 w1 fun d2 h2 m2 H2 v2 e2 L2 C2 r2 w2 => o _ _ _ _ _ _ _ _ _ C2 (r1.up e2) r2 w2
theorem snd_add (ha : PE X a (tE X.K cl W ea)) (hb : PE X b (tE X.K cl W eb)) : PE X (.BinOp a .Add b pos) (tE X.K cl W (two fAdd ea eb)) := snd_binF ((op_add.or op_catF).or (op_catA.or op_add_str)) opf_add ha hb
theorem snd_mul (ha : PE X a (tE X.K cl W ea)) (hb : PE X b (tE X.K cl W eb)) : PE X (.BinOp a .Mult b pos) (tE X.K cl W (two fMul ea eb)) := snd_binF (op_mulA.or op_repF) opf_mul ha hb
theorem snd_sub (ha : PE X a (tE X.K cl W ea)) (hb : PE X b (tE X.K cl W eb)) : PE X (.BinOp a .Sub b pos) (tE X.K cl W (two fSub ea eb)) := snd_bin op_sub ops_sub ha hb
theorem snd_mod (ha : PE X a (tE X.K cl W ea)) (hb : PE X b (tE X.K cl W eb)) : PE X (.BinOp a .Mod b pos) (tE X.K cl W (two fMod ea eb)) := snd_bin op_mod ops_mod ha hb
theorem snd_fdv (ha : PE X a (tE X.K cl W ea)) (hb : PE X b (tE X.K cl W eb)) : PE X (.BinOp a .FloorDiv b pos) (tE X.K cl W (two fFdv ea eb)) := snd_bin op_fdivW ops_fdv ha hb
theorem snd_pow (ha : PE X a (tE X.K cl W ea)) (hb : PE X b (tE X.K cl W eb)) : PE X (.BinOp a .Pow b pos) (tE X.K cl W (two fPow ea eb)) := snd_bin op_pow ops_pow ha hb
theorem snd_neg (ha : PE X a (tE X.K cl W ea)) : PE X (.UnaryOp .USub a pos) (tE X.K cl W (one fNeg ea)) := pe_imp (pe_un un_neg ha) fun _ _ _ w => one_use uns_neg w
/-! comparisons: as values, as tests -/
theorem snd_cmp {op : CmpOp} {f : D → D → Hp → R D} {r : R2} (ho : OpR X (compareOp op) r) (o : OpS X.K cl f r) (ha : PE X a (tE X.K cl W ea)) (hb : PE X b (tE X.K cl W eb)) (hm : behindInMarks op b = false) : PE X (.Compare a [op] [b] pos) (tE X.K cl W (two f ea eb)) := pe_imp (pe_cmpR ho ha hb hm) fun _ _ _ w => two_use o w
theorem tval_use {e : E} {t : TE} (i : ∀ σV H Q, tE X.K cl W e σV H Q → t σV H Q) {σV : L2.St} {H : L2.Hp} {Q : Bool → L2.Hp → Prop} (w : tT X.K cl W (tVal e) σV H Q) : tTest t σV H Q := by
  obtain ⟨m, σ, h, H0, L, C, w⟩ := w
  refine i _ _ _ (tE.use L C w fun d h1 m1 H1 v e1 L1 C1 r1 w1 => ?_)
  cases r1 with
  | bl b => exact ⟨b, rfl, WP.ok w1 C1⟩
  | _ => exact w1.elim
theorem snt_cmp {op : CmpOp} {f : D → D → Hp → R D} {r : R2} (ho : OpR X (compareOp op) r) (o : OpS X.K cl f r) (ha : PE X a (tE X.K cl W ea)) (hb : PE X b (tE X.K cl W eb)) (hm : behindInMarks op b = false) : PT X (.Compare a [op] [b] pos) (tT X.K cl W (tVal (two f ea eb))) :=
  pt_imp (pt_cmpR ho ha hb hm) fun _ _ _ w => tval_use (fun _ _ _ w => two_use o w) w
theorem snt_val {e : Expr} {s : E} (p : PE X e (tE X.K cl W s)) (he : ∀ whole, isTrue e X.env whole = (do let v ← whole; standAt e.pos; holding [v] (truthy v)) := by intro _; rfl) : PT X e (tT X.K cl W (tVal s)) :=
  pt_imp (pt_val p he) fun _ _ _ w => tval_use (fun _ _ _ w => w) w
theorem snd_isN {j} {p : Pos} (ha : PE X a (tE X.K cl W ea)) : PE X (.Compare a [.Is] [.Constant .none j p] pos) (tE X.K cl W (one fIsN ea)) := by
  refine pe_imp (pe_cmpR op_isN ha pe_non (nomark _)) fun σV H Q w => ?_
  obtain ⟨m, σ, h, H0, L, C, w⟩ := w
  exact tE.use L C w fun d h1 m1 H1 v e1 L1 C1 r1 w1 => ⟨rfl, uns_isN _ _ _ _ _ _ _ C1 r1 w1⟩
theorem snd_notN {j} {p : Pos} (ha : PE X a (tE X.K cl W ea)) : PE X (.Compare a [.IsNot] [.Constant .none j p] pos) (tE X.K cl W (one fNotN ea)) := by
  refine pe_imp (pe_cmpR op_notN ha pe_non (nomark _)) fun σV H Q w => ?_
  obtain ⟨m, σ, h, H0, L, C, w⟩ := w
  exact tE.use L C w fun d h1 m1 H1 v e1 L1 C1 r1 w1 => ⟨rfl, uns_notN _ _ _ _ _ _ _ C1 r1 w1⟩
theorem snt_isN {j} {p : Pos} (ha : PE X a (tE X.K cl W ea)) : PT X (.Compare a [.Is] [.Constant .none j p] pos) (tT X.K cl W (tVal (one fIsN ea))) :=
  pt_imp (pt_cmpR op_isN ha pe_non (nomark _)) fun _ _ _ w => tval_use (e := one fIsN ea) (fun σV H Q w => by
    obtain ⟨m, σ, h, H0, L, C, w⟩ := w
    exact tE.use L C w fun d h1 m1 H1 v e1 L1 C1 r1 w1 => ⟨rfl, uns_isN _ _ _ _ _ _ _ C1 r1 w1⟩) w
theorem snt_notN {j} {p : Pos} (ha : PE X a (tE X.K cl W ea)) : PT X (.Compare a [.IsNot] [.Constant .none j p] pos) (tT X.K cl W (tVal (one fNotN ea))) :=
  pt_imp (pt_cmpR op_notN ha pe_non (nomark _)) fun _ _ _ w => tval_use (e := one fNotN ea) (fun σV H Q w => by
    obtain ⟨m, σ, h, H0, L, C, w⟩ := w
    exact tE.use L C w fun d h1 m1 H1 v e1 L1 C1 r1 w1 => ⟨rfl, uns_notN _ _ _ _ _ _ _ C1 r1 w1⟩) w
end
end IP

namespace IP
open PySem PySem.Spec PyProof.Rows L2
section
variable {X : Cx} {cl : Cl} {W : WX} {a b c : Expr} {ea eb ec : E} {ta tb tc : T} {pos : Pos}
/-! ### and, or, not -/
theorem snt_not (ha : PT X a (tT X.K cl W ta)) : PT X (.UnaryOp .Not a pos) (tT X.K cl W (tNot ta)) :=
  pt_imp (pt_not ha) fun σV H Q ⟨m, σ, h, H0, L, C, w⟩ => tT.use L C w fun d h1 m1 H1 e1 L1 C1 w1 => WP.ok w1 C1
theorem snw_and1 (ha : PT X a (tT X.K cl W ta)) : PW X (.BoolOp .And [a] pos) (tT X.K cl W ta) := pw_and1 ha
theorem snw_or1 (ha : PT X a (tT X.K cl W ta)) : PW X (.BoolOp .Or [a] pos) (tT X.K cl W ta) := pw_or1 ha
theorem snw_and {rest : List Expr} (ha : PT X a (tT X.K cl W ta)) (hb : PW X (.BoolOp .And (b :: rest) pos) (tT X.K cl W tb)) : PW X (.BoolOp .And (a :: b :: rest) pos) (tT X.K cl W (tAnd ta tb)) :=
  pw_imp (pw_and ha hb) fun σV H Q ⟨m, σ, h, H0, L, C, w⟩ => tT.use L C w fun d h1 m1 H1 e1 L1 C1 w1 => by
    cases d with
    | true => exact ⟨m1, σ, h1, H0, L1, C1, w1⟩
    | false => exact WP.ok (a := false) (h := h1) w1 C1
theorem snw_or {rest : List Expr} (ha : PT X a (tT X.K cl W ta)) (hb : PW X (.BoolOp .Or (b :: rest) pos) (tT X.K cl W tb)) : PW X (.BoolOp .Or (a :: b :: rest) pos) (tT X.K cl W (tOr ta tb)) :=
  pw_imp (pw_or ha hb) fun σV H Q ⟨m, σ, h, H0, L, C, w⟩ => tT.use L C w fun d h1 m1 H1 e1 L1 C1 w1 => by
    cases d with
    | false => exact ⟨m1, σ, h1, H0, L1, C1, w1⟩
    | true => exact WP.ok (a := true) (h := h1) w1 C1
theorem snd_one {op} (ha : PE X a (tE X.K cl W ea)) : PE X (.BoolOp op [a] pos) (tE X.K cl W ea) := pe_one ha
theorem snd_and {rest : List Expr} (ha : PE X a (tE X.K cl W ea)) (hb : PE X (.BoolOp .And (b :: rest) pos) (tE X.K cl W eb)) : PE X (.BoolOp .And (a :: b :: rest) pos) (tE X.K cl W (eAnd ea eb)) :=
  pe_imp (pe_and ha hb) fun σV H Q ⟨m, σ, h, H0, L, C, w⟩ => tE.use L C w fun d h1 m1 H1 v e1 L1 C1 r1 w1 => by
    cases r1 with
    | bl k =>
      refine ⟨k, rfl, ?_⟩
      cases k with
      | true => exact ⟨m1, σ, h1, H0, L1, C1, w1⟩
      | false => exact WP.ok (a := D.bl false) (h := h1) w1 C1 _ (.bl _)
    | _ => exact w1.elim
theorem snd_or {rest : List Expr} (ha : PE X a (tE X.K cl W ea)) (hb : PE X (.BoolOp .Or (b :: rest) pos) (tE X.K cl W eb)) : PE X (.BoolOp .Or (a :: b :: rest) pos) (tE X.K cl W (eOr ea eb)) :=
  pe_imp (pe_or ha hb) fun σV H Q ⟨m, σ, h, H0, L, C, w⟩ => tE.use L C w fun d h1 m1 H1 v e1 L1 C1 r1 w1 => by
    cases r1 with
    | bl k =>
      refine ⟨k, rfl, ?_⟩
      cases k with
      | false => exact ⟨m1, σ, h1, H0, L1, C1, w1⟩
      | true => exact WP.ok (a := D.bl true) (h := h1) w1 C1 _ (.bl _)
    | _ => exact w1.elim
theorem snd_not (ha : PE X a (tE X.K cl W ea)) : PE X (.UnaryOp .Not a pos) (tE X.K cl W (eNot ea)) :=
  pe_imp (pe_not ha) fun σV H Q ⟨m, σ, h, H0, L, C, w⟩ => tE.use L C w fun d h1 m1 H1 v e1 L1 C1 r1 w1 => by
    cases r1 with
    | bl k => exact ⟨k, rfl, WP.ok (a := D.bl (!k)) (h := h1) w1 C1 _ (.bl _)⟩
    | _ => exact w1.elim
theorem snd_if {c : Expr} (hc : PT X c (tT X.K cl W tc)) (ha : PE X a (tE X.K cl W ea)) (hb : PE X b (tE X.K cl W eb)) : PE X (.IfExp c a b pos) (tE X.K cl W (eIf tc ea eb)) :=
  pe_imp (pe_ifExp hc ha hb) fun σV H Q ⟨m, σ, h, H0, L, C, w⟩ => tT.use L C w fun d h1 m1 H1 e1 L1 C1 w1 => by
    cases d with
    | true => exact ⟨m1, σ, h1, H0, L1, C1, w1⟩
    | false => exact ⟨m1, σ, h1, H0, L1, C1, w1⟩
theorem chain_use {f g : D → D → Hp → R D} {r r' : R2} (o : OpS X.K cl f r) (o' : OpS X.K cl g r') {σV : L2.St} {H : L2.Hp} {Q : VK} (w : tE X.K cl W (eChain f g ea eb ec) σV H Q) : tChain r r' (tE X.K cl W ea) (tE X.K cl W eb) (tE X.K cl W ec) σV H Q := by
  obtain ⟨m, σ, h, H0, L, C, w⟩ := w
  refine tE.use L C w fun d h1 m1 H1 v e1 L1 C1 r1 w1 => tE.use L1 C1 w1 fun d2 h2 m2 H2 v2 e2 L2 C2 r2 w2 => ?_
  have w3 := WP.bnd w2
  refine o _ _ _ _ _ _ _ _ _ C2 (r1.up e2) r2 (w3.imp fun z h3 m3 H3 e3 C3 w4 vz rz => ?_)
  have L3 := L2.up e3
  cases rz with
  | bl k =>
    refine ⟨k, rfl, ?_⟩
    cases k with
    | true => exact tE.use L3 C3 w4 fun d4 h4 m4 H4 v4 e4 L4 C4 r4 w5 => o' _ _ _ _ _ _ _ _ _ C4 (r2.up (e3.trans e4)) r4 w5
    | false => exact WP.ok (a := D.bl false) (h := h3) w4 C3 _ (.bl _)
  | _ => exact w4.elim
theorem snd_chain {op op' : CmpOp} {f g : D → D → Hp → R D} {r r' : R2} (ho : OpR X (compareOp op) r) (ho' : OpR X (compareOp op') r') (o : OpS X.K cl f r) (o' : OpS X.K cl g r') (ha : PE X a (tE X.K cl W ea)) (hb : PE X b (tE X.K cl W eb)) (hc : PE X c (tE X.K cl W ec))
    (hm : lastMarks [op, op'] [b, c] = false := by with_unfolding_all rfl) : PE X (.Compare a [op, op'] [b, c] pos) (tE X.K cl W (eChain f g ea eb ec)) := pe_imp (pe_chain ho ho' ha hb hc hm) fun _ _ _ w => chain_use o o' w
theorem snt_chain {op op' : CmpOp} {f g : D → D → Hp → R D} {r r' : R2} (ho : OpR X (compareOp op) r) (ho' : OpR X (compareOp op') r') (o : OpS X.K cl f r) (o' : OpS X.K cl g r') (ha : PE X a (tE X.K cl W ea)) (hb : PE X b (tE X.K cl W eb)) (hc : PE X c (tE X.K cl W ec))
    (hm : lastMarks [op, op'] [b, c] = false := by with_unfolding_all rfl) : PT X (.Compare a [op, op'] [b, c] pos) (tT X.K cl W (tVal (eChain f g ea eb ec))) :=
  pt_imp (pt_chain ho ho' ha hb hc hm) fun _ _ _ w => tval_use (fun _ _ _ w => chain_use o o' w) w

/-! ### arguments, displays -/
variable {e : Expr} {es : List Expr} {ee : E} {ae : A}
theorem sna_nil : PA X [] (tA X.K cl W aNil) := pa_imp pa_nil fun σV H Q ⟨m, σ, h, H0, L, C, w⟩ => WP.ok (a := ([] : List D)) (h := h) w C [] .nil
theorem sna_cons (ha : PE X e (tE X.K cl W ee)) (hr : PA X es (tA X.K cl W ae)) (hs : starEach (e :: es) X.env = (false, eval e X.env) :: starEach es X.env := by rfl) : PA X (e :: es) (tA X.K cl W (aCons ee ae)) :=
  pa_imp (pa_cons ha hr hs) fun σV H Q ⟨m, σ, h, H0, L, C, w⟩ => tE.use L C w fun d h1 m1 H1 v e1 L1 C1 r1 w1 => tA.use L1 C1 w1 fun ds h2 m2 H2 vs e2 L2 C2 r2 w2 =>
    WP.ok (a := d :: ds) (h := h2) w2 C2 _ (.cons (r1.up e2) r2)
theorem snd_tup {x1} (ha : PA X es (tA X.K cl W ae)) : PE X (.Tuple es x1 pos) (tE X.K cl W (eTup ae)) :=
  pe_imp (pe_tup ha) fun σV H Q ⟨m, σ, h, H0, L, C, w⟩ => tA.use L C w fun ds h1 m1 H1 vs e1 L1 C1 r1 w1 => by
    obtain ⟨c, w1⟩ := WP.ite w1
    refine ⟨by rw [← r1.length]; exact line1 c, fun p n => ?_⟩
    have e2 : Ext m1 m1 H1 (upd H1 p (.tup vs)) := Ext.lay n
    exact w1 m1 _ e2 (C1.lay n) _ (.tup upd_same (r1.up e2))
theorem snd_lst (ha : PA X es (tA X.K cl W ae)) : PE X (.List es pos) (tE X.K cl W (eLst ae)) :=
  pe_imp (pe_fq (pe_lst ha)) fun σV H Q ⟨m, σ, h, H0, L, C, w⟩ => tA.use L C w fun ds h1 m1 H1 vs e1 L1 C1 r1 w1 => by
    obtain ⟨c, w1⟩ := WP.ite w1
    exact ⟨by rw [← r1.length]; exact line1 c, fun p n => fq_new C1 r1 w1 n⟩
theorem snd_mkl (ha : PA X es (tA X.K cl W ae)) : PE X (.List es pos) (tE X.K cl W (eMkl ae)) :=
  pe_imp (pe_lst ha) fun σV H Q ⟨m, σ, h, H0, L, C, w⟩ => tA.use L C w fun ds h1 m1 H1 vs e1 L1 C1 r1 w1 => by
    obtain ⟨c, w1⟩ := WP.ite w1
    exact ⟨by rw [← r1.length]; exact line1 c, fun p n => w_lay C1 w1 n fun m' im => ⟨vs, upd_same, r1.upI im⟩⟩
/-- {} -/
theorem snd_mkdK : PE X (.Dict [] [] pos) (tE X.K cl W (eMkd false)) :=
  pe_imp pe_dnewK fun σV H Q ⟨m, σ, h, H0, L, C, w⟩ p n => w_lay C w n fun m' im => ⟨[], upd_same, .nil⟩
theorem snd_mkdT : PE X (.Dict [] [] pos) (tE X.K cl W (eMkd true)) :=
  pe_imp pe_dnewT fun σV H Q ⟨m, σ, h, H0, L, C, w⟩ p n => w_lay C w n fun m' im => ⟨[], upd_same, .nil⟩
theorem snd_dct0K : PE X (.Dict [] [] pos) (tE X.K cl W (eDct0 false)) :=
  pe_imp (pe_fq pe_dnewK) fun σV H Q ⟨m, σ, h, H0, L, C, w⟩ p n => fq_newK (kvs := []) C .nil w n
theorem snd_dct0T : PE X (.Dict [] [] pos) (tE X.K cl W (eDct0 true)) :=
  pe_imp (pe_fq pe_dnewT) fun σV H Q ⟨m, σ, h, H0, L, C, w⟩ p n => fq_newT (kvs := []) C .nil w n
end
end IP

namespace IP
open PySem PySem.Spec PyProof.Rows L2
section
variable {K : PySem.W.Frag} {cl : Cl}
theorem RDs.intsV {m : Mp} {H : L2.Hp} : ∀ {ds : List D} {vs : List V} {is : List Int}, RDs K cl H m ds vs → intsD ds = some is → vs = is.map V.int
  | _, _, _, .nil, e => by cases e; rfl
  | _, _, is, @RDs.cons _ _ _ _ d ds v vs a r, e => by
    cases a with
    | int i =>
      unfold intsD at e
      cases q : intsD ds with
      | none => simp only [q] at e; cases e
      | some js =>
        simp only [q] at e
        cases e
        rw [r.intsV q]
        rfl
    | _ => cases e
theorem RDs.blsV {m : Mp} {H : L2.Hp} : ∀ {ds : List D} {vs : List V} {is : List Bool}, RDs K cl H m ds vs → blsD ds = some is → vs = is.map V.bl
  | _, _, _, .nil, e => by cases e; rfl
  | _, _, is, @RDs.cons _ _ _ _ d ds v vs a r, e => by
    cases a with
    | bl i =>
      unfold blsD at e
      cases q : blsD ds with
      | none => simp only [q] at e; cases e
      | some js =>
        simp only [q] at e
        cases e
        rw [r.blsV q]
        rfl
    | _ => cases e
theorem RDs.ofInts {m : Mp} {H : L2.Hp} : ∀ is : List Int, RDs K cl H m (is.map D.int) (is.map V.int)
  | [] => .nil
  | i :: is => .cons (.int i) (RDs.ofInts is)
theorem RDs.ofStrs {m : Mp} {H : L2.Hp} : ∀ is : List Str, RDs K cl H m (is.map D.str) (is.map V.str)
  | [] => .nil
  | i :: is => .cons (.str i) (RDs.ofStrs is)
/-- a built-in of one argument -/
def BiS (K : PySem.W.Frag) (cl : Cl) (f : D → Hp → R D) (r : List V → L2.Hp → VK → Prop) : Prop :=
  ∀ (x : D) (v : V) (E : XW) (m : Mp) (h : Hp) (H : L2.Hp) (Q : VK), Hc K cl m h H → RD K cl H m x v → WP K cl E m H (f x h) (Rt K cl Q) → r [v] H (FQ Q)
def BiS2 (K : PySem.W.Frag) (cl : Cl) (f : D → D → Hp → R D) (r : List V → L2.Hp → VK → Prop) : Prop :=
  ∀ (x y : D) (v u : V) (E : XW) (m : Mp) (h : Hp) (H : L2.Hp) (Q : VK), Hc K cl m h H → RD K cl H m x v → RD K cl H m y u → WP K cl E m H (f x y h) (Rt K cl Q) → r [v, u] H (FQ Q)
def rLenA (K : PySem.W.Frag) : List V → L2.Hp → VK → Prop := fun xs H Q => ((∃ p ys, xs = [.ref p] ∧ (SqL K H p ys ∨ SqT K H p ys) ∧ Q (.int ys.length) H) ∨ (∃ z, xs = [.str z] ∧ z.length ≤ sizeLine ∧ Q (.int z.length) H)) ∨ ∃ a kvs, xs = [V.ref a] ∧ Rd H a (.dK kvs) ∧ Q (.int kvs.length) H
theorem bis_len : BiS K cl fLen (rLenA K) := fun x v E m h H Q C rx w => by
  obtain ⟨n, e, w1⟩ := WP.opt w
  cases rx with
  | tup a r => cases e; exact .inl (.inl ⟨_, _, rfl, .inr (.inl (.inl a)), .inl (by rw [← r.length]; exact WP.ok w1 C _ (.int _))⟩)
  | ctp a r => cases e; exact .inl (.inl ⟨_, _, rfl, .inr (a H), .inl (by rw [← r.length]; exact WP.ok w1 C _ (.int _))⟩)
  | lst a r => cases e; exact .inl (.inl ⟨_, _, rfl, .inl (.inl (.inr ⟨_, a⟩)), .inl (by rw [← r.length]; exact WP.ok w1 C _ (.int _))⟩)
  | scr a r => cases e; exact .inl (.inl ⟨_, _, rfl, .inl a.sql, .inl (by rw [← r.length]; exact WP.ok w1 C _ (.int _))⟩)
  | str s =>
    have e : (if s.cps.size ≤ bigD then some s.cps.size else none) = some n := e
    by_cases c : s.cps.size ≤ bigD
    · rw [if_pos c] at e
      cases e
      exact .inl (.inr ⟨s, rfl, line1 c, .inl (WP.ok w1 C _ (.int _))⟩)
    · rw [if_neg c] at e
      cases e
  | dK a f r => cases e; exact .inr ⟨_, _, rfl, .inr ⟨_, a⟩, .inl (by rw [← r.length]; exact WP.ok w1 C _ (.int _))⟩
  | @ref k i a hm =>
    unfold lenOf at e
    cases q : h.get k i with
    | none => simp only [q] at e; cases e
    | some o =>
      simp only [q] at e
      have ro := C.obj k i o a q hm
      match o, e, ro with
      | .lst xs, e, ro =>
        cases e
        obtain ⟨vs, z, r⟩ := ro
        exact .inl (.inl ⟨_, _, rfl, .inl (.inl (.inl z)), .inl (by rw [← r.length]; exact WP.ok w1 C _ (.int _))⟩)
      | .dct false false rows, e, ro =>
        cases e
        obtain ⟨vs, z, r⟩ := ro
        exact .inr ⟨_, _, rfl, .inl z, .inl (by rw [← r.length]; exact WP.ok w1 C _ (.int _))⟩
      | .dct false true rows, e, ro =>
        cases e
        obtain ⟨vs, od, z, r⟩ := ro
        exact .inr ⟨_, _, rfl, .inr ⟨od, z⟩, .inl (by rw [← r.length]; exact WP.ok w1 C _ (.int _))⟩
  | _ => cases e
theorem seqOf_of {m : Mp} {H : L2.Hp} {d : D} {v : V} {xs : List D} (r : RD K cl H m d v) (e : seqOf d = some xs) : ∃ a vs, v = .ref a ∧ (SqL K H a vs ∨ SqT K H a vs) ∧ RDs K cl H m xs vs := by
  cases r with
  | tup a r => cases e; exact ⟨_, _, rfl, .inr (.inl (.inl a)), r⟩
  | ctp a r => cases e; exact ⟨_, _, rfl, .inr (a H), r⟩
  | lst a r => cases e; exact ⟨_, _, rfl, .inl (.inl (.inr ⟨_, a⟩)), r⟩
  | _ => cases e
theorem bis_list : BiS K cl fList (fun xs H Q => ∃ p ys, xs = [.ref p] ∧ (SqL K H p ys ∨ SqT K H p ys) ∧ ∀ l, H l = none → Q (.ref l) (upd H l (.lst ys))) := fun x v E m h H Q C rx w => by
  obtain ⟨ds, e, w1⟩ := WP.opt w
  obtain ⟨a, vs, rfl, s, r⟩ := seqOf_of rx e
  exact ⟨_, _, rfl, s, fun p n => fq_new C r w1 n⟩
theorem bis_tuple : BiS K cl fTuple (fun xs H Q => ∃ p ys, xs = [.ref p] ∧ ((SqL K H p ys ∧ ∀ l, H l = none → Q (.ref l) (upd H l (.tup ys))) ∨ (SqT K H p ys ∧ Q (.ref p) H))) := fun x v E m h H Q C rx w => by
  cases rx with
  | @tup a xs vs q r => exact ⟨a, vs, rfl, .inr ⟨.inl (.inl q), .inl (WP.ok (a := D.tup xs) (h := h) w C _ (.tup q r))⟩⟩
  | @ctp a xs vs q r => exact ⟨a, vs, rfl, .inr ⟨q H, .inl (WP.ok (a := D.ctp xs) (h := h) w C _ (.ctp q r))⟩⟩
  | @lst a o xs vs q r =>
    refine ⟨a, vs, rfl, .inl ⟨.inl (.inr ⟨_, q⟩), fun p n => .inl ?_⟩⟩
    have e : Ext m m H (upd H p (.tup vs)) := Ext.lay n
    exact w m _ e (C.lay n) _ (.tup upd_same (r.up e))
  | _ => exact w.elim
theorem bis_sum : BiS K cl fSum (rSum K) := fun x v E m h H Q C rx w => by
  cases rx with
  | lst a r =>
    obtain ⟨is, e, w1⟩ := WP.opt w
    have q := r.intsV e
    subst q
    exact ⟨_, is, rfl, .inl (.inr ⟨_, a⟩), .inl (WP.ok w1 C _ (.int _))⟩
  | _ => exact w.elim
theorem bis_any : BiS K cl fAny (rAny K) := fun x v E m h H Q C rx w => by
  cases rx with
  | lst a r =>
    obtain ⟨is, e, w1⟩ := WP.opt w
    have q := r.blsV e
    subst q
    exact ⟨_, is, rfl, .inl (.inr ⟨_, a⟩), .inl (WP.ok w1 C _ (.bl _))⟩
  | _ => exact w.elim
theorem bis_all : BiS K cl fAll (rAll K) := fun x v E m h H Q C rx w => by
  cases rx with
  | lst a r =>
    obtain ⟨is, e, w1⟩ := WP.opt w
    have q := r.blsV e
    subst q
    exact ⟨_, is, rfl, .inl (.inr ⟨_, a⟩), .inl (WP.ok w1 C _ (.bl _))⟩
  | _ => exact w.elim
theorem bis_int : BiS K cl fInt (fun xs H Q => (∃ i, xs = [.int i] ∧ Q (.int i) H) ∨ ∃ k, xs = [.bl k] ∧ Q (.int (if k then 1 else 0)) H) := fun x v E m h H Q C rx w => by
  cases rx with
  | int i => exact .inl ⟨i, rfl, .inl (WP.ok (a := D.int i) (h := h) w C _ (.int _))⟩
  | bl b => exact .inr ⟨b, rfl, .inl (WP.ok (a := D.int (if b then 1 else 0)) (h := h) w C _ (.int _))⟩
  | _ => exact w.elim
theorem bis_max : BiS2 K cl fMax (fun xs H Q => ∃ i j, xs = [.int i, .int j] ∧ Q (.int (if j > i then j else i)) H) := fun x y v u E m h H Q C rx ry w => by
  cases rx <;> cases ry <;> first | exact w.elim | skip
  exact ⟨_, _, rfl, .inl (WP.ok w C _ (.int _))⟩
theorem bis_min : BiS2 K cl fMin (fun xs H Q => ∃ i j, xs = [.int i, .int j] ∧ Q (.int (if j < i then j else i)) H) := fun x y v u E m h H Q C rx ry w => by
  cases rx <;> cases ry <;> first | exact w.elim | skip
  exact ⟨_, _, rfl, .inl (WP.ok w C _ (.int _))⟩
/-! isinstance -/
def tyN : Ty → String
  | .int => "int" | .bool => "bool" | .str => "str" | .tuple => "tuple" | .list => "list"
theorem kb_non : ∀ t, kitB "NoneType" (tyN t) = some (isTy t .non) := fun t => by cases t <;> decide +kernel
theorem kb_bl : ∀ t, kitB "bool" (tyN t) = some (isTy t (.bl true)) := fun t => by cases t <;> decide +kernel
theorem kb_int : ∀ t, kitB "int" (tyN t) = some (isTy t (.int 0)) := fun t => by cases t <;> decide +kernel
theorem kb_str : ∀ t, kitB "str" (tyN t) = some (isTy t (.str Str.empty)) := fun t => by cases t <;> decide +kernel
theorem kb_tup : ∀ t, kitB "tuple" (tyN t) = some (isTy t (.tup [])) := fun t => by cases t <;> decide +kernel
theorem kb_lst : ∀ t, kitB "list" (tyN t) = some (isTy t (.lst [])) := fun t => by cases t <;> decide +kernel
/-- of what built-in class it is -/
def tyOk : D → Bool
  | .non => true | .bl _ => true | .int _ => true | .str _ => true | .tup _ => true | .ctp _ => true | .lst _ => true
  | _ => false
theorem RD.ty {m : Mp} {H : L2.Hp} {d : D} {v : V} (r : RD K cl H m d v) (hn : tyOk d = true) : ∃ t, TyX K H v (.type t) ∧ ∀ t', kitB t (tyN t') = some (isTy t' d) := by
  cases r with
  | non => exact ⟨_, .base .non, kb_non⟩
  | bl b => exact ⟨_, .base (.bl b), fun t => (kb_bl t).trans (by cases t <;> rfl)⟩
  | int i => exact ⟨_, .base (.int i), fun t => (kb_int t).trans (by cases t <;> rfl)⟩
  | str s => exact ⟨_, .base (.str s), fun t => (kb_str t).trans (by cases t <;> rfl)⟩
  | tup a r => exact ⟨_, .base (.tup a), fun t => (kb_tup t).trans (by cases t <;> rfl)⟩
  | ctp a r =>
    rcases a H with (a | ⟨o, a⟩) | ⟨o, its, n, l, c, _⟩
    · exact ⟨_, .base (.tup a), fun t => (kb_tup t).trans (by cases t <;> rfl)⟩
    · exact ⟨_, .fTuple a, fun t => (kb_tup t).trans (by cases t <;> rfl)⟩
    · exact ⟨_, .kTuple l c, fun t => (kb_tup t).trans (by cases t <;> rfl)⟩
  | lst a r => exact ⟨_, .base (.frz a), fun t => (kb_lst t).trans (by cases t <;> rfl)⟩
  | _ => cases hn
/-! ### sorting -/
section
variable {α : Type} {le : α → α → Bool}
theorem insG_perm (x : α) : ∀ ys : List α, (insG le x ys).Perm (x :: ys)
  | [] => .refl _
  | y :: ys => by
    unfold insG
    cases le x y with
    | true => exact .refl _
    | false => exact ((insG_perm x ys).cons y).trans (.swap x y ys)
theorem sortG_perm : ∀ xs : List α, (sortG le xs).Perm xs
  | [] => .refl _
  | x :: xs => (insG_perm x _).trans ((sortG_perm xs).cons x)
/-- a total order -/
structure Tot (le : α → α → Bool) : Prop where
  tot : ∀ a b, le a b = false → le b a = true
  tr : ∀ a b c, le a b = true → le b c = true → le a c = true
  as : ∀ a b, le a b = true → le b a = true → a = b
theorem insG_sorted (T : Tot le) (x : α) : ∀ ys : List α, ys.Pairwise (fun a b => le a b = true) → (insG le x ys).Pairwise (fun a b => le a b = true)
  | [], _ => by simp [insG]
  | y :: ys, h => by
    unfold insG
    rw [List.pairwise_cons] at h
    cases c : le x y with
    | true =>
      rw [List.pairwise_cons, List.pairwise_cons]
      exact ⟨fun z hz => by
        rcases List.mem_cons.mp hz with rfl | hz
        · exact c
        · exact T.tr _ _ _ c (h.1 z hz), h⟩
    | false =>
      rw [List.pairwise_cons]
      refine ⟨fun z hz => ?_, insG_sorted T x ys h.2⟩
      rcases List.mem_cons.mp ((insG_perm x ys).mem_iff.mp hz) with rfl | hz
      · exact T.tot _ _ c
      · exact h.1 z hz
theorem sortG_sorted (T : Tot le) : ∀ xs : List α, (sortG le xs).Pairwise (fun a b => le a b = true)
  | [] => .nil
  | x :: xs => insG_sorted T x _ (sortG_sorted T xs)
theorem sorted_unique (T : Tot le) : ∀ {xs ys : List α}, xs.Perm ys → xs.Pairwise (fun a b => le a b = true) → ys.Pairwise (fun a b => le a b = true) → xs = ys
  | [], ys, p, _, _ => (List.nil_perm.mp p).symm
  | x :: xs, [], p, _, _ => absurd (List.perm_nil.mp p) (by simp)
  | x :: xs, y :: ys, p, h1, h2 => by
    rw [List.pairwise_cons] at h1 h2
    have e : x = y := by
      have m1 := p.mem_iff.mp (List.mem_cons_self ..)
      have m2 := p.mem_iff.mpr (List.mem_cons_self ..)
      rcases List.mem_cons.mp m1 with e | m1
      · exact e
      · rcases List.mem_cons.mp m2 with e | m2
        · exact e.symm
        · exact T.as _ _ (h1.1 y m2) (h2.1 x m1)
    subst e
    rw [sorted_unique T ((List.perm_cons x).mp p) h1.2 h2.2]
theorem sortG_is (T : Tot le) {xs ys : List α} (p : ys.Perm xs) (h : ys.Pairwise (fun a b => le a b = true)) : ys = sortG le xs :=
  sorted_unique T (p.trans (sortG_perm xs).symm) h (sortG_sorted T xs)
end
theorem totI : Tot leI := ⟨fun a b h => by unfold leI at *; simp at *; omega, fun a b c h1 h2 => by unfold leI at *; simp at *; omega, fun a b h1 h2 => by unfold leI at *; simp at *; omega⟩
theorem ltNs_eq : ∀ a b : List Nat, ltNs a b = PySem.Spec.ltCps a b
  | [], [] => rfl
  | [], _ :: _ => rfl
  | _ :: _, [] => rfl
  | a :: r, b :: t => by
    show (Nat.blt a b || (Nat.beq a b && ltNs r t)) = (decide (a < b) || (a == b && PySem.Spec.ltCps r t))
    rw [ltNs_eq r t]
    have e1 : Nat.blt a b = decide (a < b) := by rw [Bool.eq_iff_iff, Nat.blt_eq, decide_eq_true_iff]
    have e2 : Nat.beq a b = (a == b) := by rw [Bool.eq_iff_iff, Nat.beq_eq, beq_iff_eq]
    rw [e1, e2]
theorem leS_iff (a b : Str) : leS a b = true ↔ ¬ b.cps.toList < a.cps.toList := by
  unfold leS
  rw [ltNs_eq, ltCps_eq]
  simp
theorem totS : Tot leS := by
  refine ⟨fun a b h => ?_, fun a b c h1 h2 => ?_, fun a b h1 h2 => ?_⟩
  · have h' : ¬ leS a b = true := by rw [h]; simp
    rw [leS_iff] at h' ⊢
    rw [Classical.not_not] at h'
    exact fun z => List.lt_asymm h' z
  · rw [leS_iff] at *
    exact fun z => h2 (by
      rcases Classical.em (c.cps.toList < b.cps.toList) with q | q
      · exact q
      · exact absurd (List.lt_of_le_of_lt (List.not_lt.mp q) z) h1)
  · rw [leS_iff] at *
    have e : a.cps.toList = b.cps.toList := List.le_antisymm (List.not_lt.mp h1) (List.not_lt.mp h2)
    cases a
    cases b
    congr 1
    exact Array.toList_inj.mp e
theorem totP : Tot leP := by
  refine ⟨fun a b h => ?_, fun a b c h1 h2 => ?_, fun a b h1 h2 => ?_⟩
  · unfold leP at *; simp at *; omega
  · unfold leP at *; simp at *; omega
  · unfold leP at *
    simp at *
    exact Prod.ext (by omega) (by omega)
theorem sortedS_pair : ∀ {ys : List Str}, sortedS ys = true → ys.Pairwise (fun a b => leS a b = true)
  | [], _ => .nil
  | [x], _ => by simp
  | x :: y :: r, h => by
    have h' : (!PySem.Spec.ltCps y.cps.toList x.cps.toList && sortedS (y :: r)) = true := h
    rw [Bool.and_eq_true] at h'
    have ih := sortedS_pair h'.2
    have xy : leS x y = true := by
      unfold leS
      rw [ltNs_eq]
      exact h'.1
    rw [List.pairwise_cons]
    refine ⟨fun z hz => ?_, ih⟩
    rcases List.mem_cons.mp hz with rfl | hz
    · exact xy
    · exact totS.tr _ _ _ xy ((List.pairwise_cons.mp ih).1 z hz)
end
end IP

namespace IP
open PySem PySem.Spec PyProof.Rows L2
section
variable {X : Cx}
theorem call_lenF : CallR X (.builtin "len") (fun xs H Q => ∃ a kvs, xs = [V.ref a] ∧ Rd H a (.dK kvs) ∧ Q (.int kvs.length) H) := fun pins s σ H xs us Q I r h => by
  obtain ⟨a, kvs, rfl, e, q⟩ := h
  cases r with
  | cons ra rr =>
    cases rr
    obtain rfl := ra
    exact d_len I e fun t s' I' => ⟨.int kvs.length, H, I', ⟨t, rfl⟩, q⟩
theorem call_lenA : CallR X (.builtin "len") (rLenA X.K) := (call_len_seq.or call_len_str).or call_lenF
/-! ### sorted -/
def rSortA (K : PySem.W.Frag) : List V → L2.Hp → VK → Prop := fun xs H Q => ((rSortedI K xs H Q ∨ rSortedS K xs H Q) ∨ rSortedPO K xs H Q) ∨
  ((∃ (a : Addr) (kvs : List (Key × V)) (ks : List Str), xs = [.ref a] ∧ Rd H a (.dK kvs) ∧ kvs.map (·.1) = ks.map Sum.inr ∧ ks.length < 64 ∧ ∀ ys p, ys.Perm ks → sortedS ys = true → H p = none → Q (.ref p) (upd H p (.lst (ys.map V.str)))) ∨
   ∃ (a : Addr) (kvs : List (Key × V)) (ks : List Int), xs = [.ref a] ∧ Rd H a (.dK kvs) ∧ kvs.map (·.1) = ks.map Sum.inl ∧ ks.length < 64 ∧ ∀ (ys : List Int) (p : Addr), ys.Perm ks → ys.Pairwise (· ≤ ·) → H p = none → Q (.ref p) (upd H p (.lst (ys.map V.int))))
theorem call_sortA (hc : X.calm = true) : CallR X (.builtin "sorted") (rSortA X.K) := (((cr_sortedI).or cr_sortedS).or cr_sortedPO).or ((call_sortedD hc).or (call_sortedDI hc))
end
section
variable {K : PySem.W.Frag} {cl : Cl}
theorem leI_pair {ys : List Int} (h : ys.Pairwise (· ≤ ·)) : ys.Pairwise (fun a b => leI a b = true) := h.imp fun q => by unfold leI; simpa using q
theorem pairsD_of {m : Mp} {H : L2.Hp} : ∀ {ds : List D} {vs : List V} {ps : List (Int × Int)}, RDs K cl H m ds vs → pairsD ds = some ps → ds = ps.map pairD ∧ ∃ k : V → Int × Int, vs.map k = ps ∧ ∀ x ∈ vs, ∃ t, x = V.ref t ∧ H t = some (.tup [.int (k x).1, .int (k x).2]) := fun {ds vs ps} r e => by
  have one : ∀ {ds : List D} {vs : List V} {ps : List (Int × Int)}, RDs K cl H m ds vs → pairsD ds = some ps → ds = ps.map pairD ∧ ∃ bs : List Addr, vs = bs.map V.ref ∧ Paired (fun (b : Addr) (p : Int × Int) => H b = some (.tup [.int p.1, .int p.2])) bs ps := by
    intro ds
    induction ds with
    | nil => intro vs ps r e; cases r; cases e; exact ⟨rfl, [], rfl, .nil⟩
    | cons d ds ih =>
      intro vs ps r e
      cases r with
      | cons a r =>
        cases a <;> first | (cases e; done) | skip
        rename_i a xs us q rs
        cases rs with
        | nil => cases e
        | cons r1 rs =>
          cases r1 <;> first | (cases e; done) | skip
          cases rs with
          | nil => cases e
          | cons r2 rs =>
            cases r2 <;> first | (cases e; done) | skip
            cases rs with
            | cons _ _ => cases e
            | nil =>
              rename_i i j
              have e' : (match pairsD ds with
                | some rs => some ((i, j) :: rs)
                | none => none) = some ps := e
              cases z : pairsD ds with
              | none => rw [z] at e'; cases e'
              | some rs =>
                rw [z] at e'
                cases e'
                obtain ⟨e1, bs, e2, e3⟩ := ih r z
                subst e1 e2
                exact ⟨rfl, a :: bs, rfl, .cons q e3⟩
  obtain ⟨e1, bs, e2, p⟩ := one r e
  subst e2
  refine ⟨e1, fun v => match v with
    | .ref b => (match H b with
      | some (.tup [.int i, .int j]) => (i, j)
      | _ => (0, 0))
    | _ => (0, 0), ?_, ?_⟩
  · clear e1 r e
    induction p with
    | nil => rfl
    | cons a p ih =>
      simp only [List.map_cons, a]
      rw [ih]
  · clear e1 r e
    induction p with
    | nil => intro x hx; cases hx
    | cons a p ih =>
      intro x hx
      rcases List.mem_cons.mp hx with rfl | hx
      · exact ⟨_, rfl, by simp only [a]⟩
      · exact ih x hx
theorem sortK_int {xs : List D} {is : List Int} (e : intsD xs = some is) : sortK xs = some ((sortG leI is).map D.int) := by
  unfold sortK
  rw [e]
/-- keys of a dict -/
theorem RKs.keys {m : Mp} {H : L2.Hp} : ∀ {rows : List (D × D)} {kvs : List (Key × V)}, RKs K cl H m rows kvs → rows.map Prod.fst = (kvs.map (·.1)).map kD
  | _, _, .nil => rfl
  | _, _, .cons a r => by
    simp only [List.map_cons]
    rw [r.keys]
theorem intsD_keys : ∀ {ks : List Key} {is : List Int}, intsD (ks.map kD) = some is → ks = is.map Sum.inl
  | [], _, e => by cases e; rfl
  | .inl i :: ks, _, e => by
    have e' : (match intsD (ks.map kD) with
      | some is => some (i :: is)
      | none => none) = some _ := e
    cases q : intsD (ks.map kD) with
    | none => rw [q] at e'; cases e'
    | some js =>
      rw [q] at e'
      cases e'
      rw [intsD_keys q]
      rfl
  | .inr i :: ks, _, e => by cases e
theorem strsD_keys : ∀ {ks : List Key} {is : List Str}, strsD (ks.map kD) = some is → ks = is.map Sum.inr
  | [], _, e => by cases e; rfl
  | .inr i :: ks, _, e => by
    have e' : (match strsD (ks.map kD) with
      | some is => some (i :: is)
      | none => none) = some _ := e
    cases q : strsD (ks.map kD) with
    | none => rw [q] at e'; cases e'
    | some js =>
      rw [q] at e'
      cases e'
      rw [strsD_keys q]
      rfl
  | .inl i :: ks, _, e => by cases e
theorem bis_sort : BiS K cl fSorted (rSortA K) := fun x v E m h H Q C rx w => by
  have dict : ∀ p : Bool × List (D × D), dctAt x h = some p → WP K cl E m H (grd (decide (p.2.length < 64)) (match p.1 with
    | false => opt (sortK (p.2.map Prod.fst)) fun r => .ok (.lst r) h
    | true => .no)) (Rt K cl Q) → rSortA K [v] H (FQ Q) := fun p e w => by
    obtain ⟨hl, w⟩ := WP.grd w
    have hl := of_decide_eq_true hl
    obtain ⟨t, rows⟩ := p
    obtain ⟨a, rfl, ⟨rfl, kvs, z, r⟩ | ⟨rfl, kvs, z, r⟩⟩ := dctAt_of C rx e
    · obtain ⟨ds, e2, w⟩ := WP.opt w
      rw [r.keys] at e2
      unfold sortK at e2
      cases qi : intsD ((kvs.map (·.1)).map kD) with
      | some is =>
        rw [qi] at e2
        cases e2
        have ek := intsD_keys qi
        refine .inr (.inr ⟨a, kvs, is, rfl, z, ek, ?_, fun ys p pm so n => ?_⟩)
        · rw [r.length] at hl
          rw [← List.length_map (f := (Sum.inl : Int → Key)), ← ek, List.length_map]
          exact hl
        · rw [sortG_is totI pm (leI_pair so)]
          exact fq_new C (.ofInts _) w n
      | none =>
        rw [qi] at e2
        cases qs : strsD ((kvs.map (·.1)).map kD) with
        | none => rw [qs] at e2; cases e2
        | some ss =>
          rw [qs] at e2
          have e2 : (if ss.length < 64 then some ((sortG leS ss).map D.str) else none) = some ds := e2
          by_cases c : ss.length < 64
          · rw [if_pos c] at e2
            cases e2
            refine .inr (.inl ⟨a, kvs, ss, rfl, z, strsD_keys qs, c, fun ys p pm so n => ?_⟩)
            rw [sortG_is totS pm (sortedS_pair so)]
            exact fq_new C (.ofStrs _) w n
          · rw [if_neg c] at e2
            cases e2
    · exact w.elim
  cases rx with
  | @lst a o xs vs q r =>
    obtain ⟨ds, e, w⟩ := WP.opt w
    unfold sortD at e
    cases qk : sortK xs with
    | some rs =>
      rw [qk] at e
      cases e
      unfold sortK at qk
      cases qi : intsD xs with
      | some is =>
        rw [qi] at qk
        cases qk
        obtain rfl := r.intsV qi
        refine .inl (.inl (.inl ⟨a, is, rfl, .inl (.inr ⟨_, q⟩), fun ns' p pm so n => ?_⟩))
        rw [sortG_is totI pm (leI_pair so)]
        exact fq_new C (.ofInts _) w n
      | none =>
        rw [qi] at qk
        cases qs : strsD xs with
        | none => rw [qs] at qk; cases qk
        | some ss =>
          rw [qs] at qk
          have qk : (if ss.length < 64 then some ((sortG leS ss).map D.str) else none) = some ds := qk
          by_cases c : ss.length < 64
          · rw [if_pos c] at qk
            cases qk
            obtain rfl := strsD_of r qs
            refine .inl (.inl (.inr ⟨a, ss, rfl, .inl (.inr ⟨_, q⟩), c, fun ys p pm so n => ?_⟩))
            rw [sortG_is totS pm (sortedS_pair so)]
            exact fq_new C (.ofStrs _) w n
          · rw [if_neg c] at qk
            cases qk
    | none =>
      rw [qk] at e
      cases qp : pairsD xs with
      | none => rw [qp] at e; cases e
      | some ps =>
        rw [qp] at e
        cases e
        obtain ⟨e1, k, e2, hk⟩ := pairsD_of r qp
        refine .inl (.inr ⟨a, vs, k, rfl, .inl (.inr ⟨_, q⟩), hk, fun ys p so st n => ?_⟩)
        have pm : (ys.map k).Perm ps := by rw [← e2]; exact st.perm.map k
        have so' : (ys.map k).Pairwise (fun a b => leP a b = true) := by
          rw [List.pairwise_map]
          refine so.imp fun {x y} z => ?_
          have z' : ¬ ((k y).1 < (k x).1 ∨ ((k y).1 = (k x).1 ∧ (k y).2 < (k x).2)) := fun q => by
            have z2 : SrtO.lexB (k y) (k x) = false := z
            rw [SrtO.lexB_iff.mpr q] at z2
            cases z2
          unfold leP
          simp
          omega
        have ee := sortG_is totP pm so'
        rw [← ee] at w
        refine fq_new C ?_ w n
        have all : ∀ x ∈ ys, ∃ t, x = V.ref t ∧ H t = some (.tup [.int (k x).1, .int (k x).2]) := fun x hx => hk x (st.perm.mem_iff.mp hx)
        clear ee so' pm so st w e1 e2 hk qp qk r q
        induction ys with
        | nil => exact .nil
        | cons y ys ih =>
          obtain ⟨t, ey, et⟩ := all y (List.mem_cons_self ..)
          refine .cons ?_ (ih fun x hx => all x (List.mem_cons_of_mem _ hx))
          generalize k y = z at et
          subst ey
          exact .tup et (.cons (.int _) (.cons (.int _) .nil))
  | @dK a o rows kvs q f r =>
    have w' : WP K cl E m H (opt (dctAt (.dct false rows) h) fun p => grd (decide (p.2.length < 64)) (match p.1 with
      | false => opt (sortK (p.2.map Prod.fst)) fun r => .ok (.lst r) h
      | true => .no)) (Rt K cl Q) := w
    obtain ⟨p, e, w⟩ := WP.opt w'
    exact dict p e w
  | @dT a o rows kvs q f r =>
    have w' : WP K cl E m H (opt (dctAt (.dct true rows) h) fun p => grd (decide (p.2.length < 64)) (match p.1 with
      | false => opt (sortK (p.2.map Prod.fst)) fun r => .ok (.lst r) h
      | true => .no)) (Rt K cl Q) := w
    obtain ⟨p, e, w⟩ := WP.opt w'
    exact dict p e w
  | @ref k n a hm =>
    have w' : WP K cl E m H (opt (dctAt (.ref k n) h) fun p => grd (decide (p.2.length < 64)) (match p.1 with
      | false => opt (sortK (p.2.map Prod.fst)) fun r => .ok (.lst r) h
      | true => .no)) (Rt K cl Q) := w
    obtain ⟨p, e, w⟩ := WP.opt w'
    exact dict p e w
  | _ => exact w.elim
end
end IP

namespace IP
open PySem PySem.Spec PyProof.Rows L2
section
variable {X : Cx} {cl : Cl} {W : WX} {a b c e : Expr} {ea eb ec : E} {ae : A} {es : List Expr} {pos p : Pos} {x : Str}
theorem snd_b1 {id : String} {f : D → Hp → R D} {r : List V → L2.Hp → VK → Prop} (hc : CallR X (.builtin id) r) (o : BiS X.K cl f r) (hg : Gl X x) (hm : X.mg x = none) (hv : bootBuiltins x = some (.builtin id)) (ha : PE X e (tE X.K cl W ea)) (hn : x ≠ "__name__" := by decide) (hdb : (x == ("__debug__" : Str)) = false := by decide)
    (he : starEach [e] X.env = (false, eval e X.env) :: starEach [] X.env := by rfl) : PE X (.Call (.Name x p) [e] [] pos) (tE X.K cl W (one f ea)) :=
  pe_imp (pe_fq (pe_callB hc hg hm hv (pa_cons ha pa_nil he) hn hdb he rfl)) fun σV H Q ⟨m, σ, h, H0, L, C, w⟩ => tE.use L C w fun d h1 m1 H1 v e1 L1 C1 r1 w1 => o _ _ _ _ _ _ _ C1 r1 w1
theorem snd_ty1 {id : String} {f : D → Hp → R D} {r : List V → L2.Hp → VK → Prop} (hc : CallR X (.type id) r) (o : BiS X.K cl f r) (hg : Gl X x) (hm : X.mg x = none) (hv : bootBuiltins x = some (.type id)) (ha : PE X e (tE X.K cl W ea)) (hn : x ≠ "__name__" := by decide) (hdb : (x == ("__debug__" : Str)) = false := by decide)
    (he : starEach [e] X.env = (false, eval e X.env) :: starEach [] X.env := by rfl) : PE X (.Call (.Name x p) [e] [] pos) (tE X.K cl W (one f ea)) :=
  pe_imp (pe_fq (pe_callTy hc hg hm hv (pa_cons ha pa_nil he) hn hdb he rfl)) fun σV H Q ⟨m, σ, h, H0, L, C, w⟩ => tE.use L C w fun d h1 m1 H1 v e1 L1 C1 r1 w1 => o _ _ _ _ _ _ _ C1 r1 w1
theorem snd_b2 {id : String} {f : D → D → Hp → R D} {r : List V → L2.Hp → VK → Prop} (hc : CallR X (.builtin id) r) (o : BiS2 X.K cl f r) (hg : Gl X x) (hm : X.mg x = none) (hv : bootBuiltins x = some (.builtin id)) (ha : PE X a (tE X.K cl W ea)) (hb : PE X b (tE X.K cl W eb)) (hn : x ≠ "__name__" := by decide) (hdb : (x == ("__debug__" : Str)) = false := by decide)
    (he : starEach [a, b] X.env = (false, eval a X.env) :: starEach [b] X.env := by rfl) (he2 : starEach [b] X.env = (false, eval b X.env) :: starEach [] X.env := by rfl) (hpl : (backTo pos (starEach [b] X.env)).any (·.1) = false := by rfl) : PE X (.Call (.Name x p) [a, b] [] pos) (tE X.K cl W (two f ea eb)) :=
  pe_imp (pe_fq (pe_callB hc hg hm hv (pa_cons ha (pa_cons hb pa_nil he2) he) hn hdb he hpl)) fun σV H Q ⟨m, σ, h, H0, L, C, w⟩ => tE.use L C w fun d h1 m1 H1 v e1 L1 C1 r1 w1 => tE.use L1 C1 w1 fun d2 h2 m2 H2 v2 e2 L2 C2 r2 w2 => o _ _ _ _ _ _ _ _ _ C2 (r1.up e2) r2 w2
theorem boot_any : bootBuiltins "any" = some (.builtin "any") := by decide +kernel
theorem boot_all : bootBuiltins "all" = some (.builtin "all") := by decide +kernel
theorem boot_sum : bootBuiltins "sum" = some (.builtin "sum") := by decide +kernel
theorem boot_max : bootBuiltins "max" = some (.builtin "max") := by decide +kernel
theorem boot_min : bootBuiltins "min" = some (.builtin "min") := by decide +kernel
theorem boot_isi : bootBuiltins "isinstance" = some (.builtin "isinstance") := by decide +kernel
theorem boot_lst : bootBuiltins "list" = some (.type "list") := by decide +kernel
theorem boot_tup : bootBuiltins "tuple" = some (.type "tuple") := by decide +kernel
theorem boot_int1 : bootBuiltins "int" = some (.type "int") := by decide +kernel
theorem boot_len2 : bootBuiltins "len" = some (.builtin "len") := by decide +kernel
theorem boot_srt : bootBuiltins "sorted" = some (.builtin "sorted") := by decide +kernel
theorem snd_len (hc : X.calm = true) (hg : Gl X "len") (hm : X.mg "len" = none) (ha : PE X e (tE X.K cl W ea)) (he : starEach [e] X.env = (false, eval e X.env) :: starEach [] X.env := by rfl) : PE X (.Call (.Name "len" p) [e] [] pos) (tE X.K cl W (one fLen ea)) := snd_b1 call_lenA bis_len hg hm boot_len2 ha (by decide) (by decide) he
theorem snd_list (hc : X.calm = true) (hg : Gl X "list") (hm : X.mg "list" = none) (ha : PE X e (tE X.K cl W ea)) (he : starEach [e] X.env = (false, eval e X.env) :: starEach [] X.env := by rfl) : PE X (.Call (.Name "list" p) [e] [] pos) (tE X.K cl W (one fList ea)) := snd_ty1 call_list_of bis_list hg hm boot_lst ha (by decide) (by decide) he
theorem snd_tuple (hc : X.calm = true) (hg : Gl X "tuple") (hm : X.mg "tuple" = none) (ha : PE X e (tE X.K cl W ea)) (he : starEach [e] X.env = (false, eval e X.env) :: starEach [] X.env := by rfl) : PE X (.Call (.Name "tuple" p) [e] [] pos) (tE X.K cl W (one fTuple ea)) := snd_ty1 call_tuple_of bis_tuple hg hm boot_tup ha (by decide) (by decide) he
theorem snd_int_ (hc : X.calm = true) (hg : Gl X "int") (hm : X.mg "int" = none) (ha : PE X e (tE X.K cl W ea)) (he : starEach [e] X.env = (false, eval e X.env) :: starEach [] X.env := by rfl) : PE X (.Call (.Name "int" p) [e] [] pos) (tE X.K cl W (one fInt ea)) := snd_ty1 call_int1 bis_int hg hm boot_int1 ha (by decide) (by decide) he
theorem snd_sorted (hc : X.calm = true) (hg : Gl X "sorted") (hm : X.mg "sorted" = none) (ha : PE X e (tE X.K cl W ea)) (he : starEach [e] X.env = (false, eval e X.env) :: starEach [] X.env := by rfl) : PE X (.Call (.Name "sorted" p) [e] [] pos) (tE X.K cl W (one fSorted ea)) := snd_b1 (call_sortA hc) bis_sort hg hm boot_srt ha (by decide) (by decide) he
theorem snd_sum (hc : X.calm = true) (hg : Gl X "sum") (hm : X.mg "sum" = none) (ha : PE X e (tE X.K cl W ea)) (he : starEach [e] X.env = (false, eval e X.env) :: starEach [] X.env := by rfl) : PE X (.Call (.Name "sum" p) [e] [] pos) (tE X.K cl W (one fSum ea)) := snd_b1 (cr_sum hc) bis_sum hg hm boot_sum ha (by decide) (by decide) he
theorem snd_any (hc : X.calm = true) (hg : Gl X "any") (hm : X.mg "any" = none) (ha : PE X e (tE X.K cl W ea)) (he : starEach [e] X.env = (false, eval e X.env) :: starEach [] X.env := by rfl) : PE X (.Call (.Name "any" p) [e] [] pos) (tE X.K cl W (one fAny ea)) := snd_b1 (cr_any hc) bis_any hg hm boot_any ha (by decide) (by decide) he
theorem snd_all (hc : X.calm = true) (hg : Gl X "all") (hm : X.mg "all" = none) (ha : PE X e (tE X.K cl W ea)) (he : starEach [e] X.env = (false, eval e X.env) :: starEach [] X.env := by rfl) : PE X (.Call (.Name "all" p) [e] [] pos) (tE X.K cl W (one fAll ea)) := snd_b1 (cr_all hc) bis_all hg hm boot_all ha (by decide) (by decide) he
theorem snd_max (hc : X.calm = true) (hg : Gl X "max") (hm : X.mg "max" = none) (ha : PE X a (tE X.K cl W ea)) (hb : PE X b (tE X.K cl W eb))
    (he : starEach [a, b] X.env = (false, eval a X.env) :: starEach [b] X.env := by rfl) (he2 : starEach [b] X.env = (false, eval b X.env) :: starEach [] X.env := by rfl) (hpl : (backTo pos (starEach [b] X.env)).any (·.1) = false := by rfl) : PE X (.Call (.Name "max" p) [a, b] [] pos) (tE X.K cl W (two fMax ea eb)) := snd_b2 (call_max2 hc) bis_max hg hm boot_max ha hb (by decide) (by decide) he he2 hpl
theorem snd_min (hc : X.calm = true) (hg : Gl X "min") (hm : X.mg "min" = none) (ha : PE X a (tE X.K cl W ea)) (hb : PE X b (tE X.K cl W eb))
    (he : starEach [a, b] X.env = (false, eval a X.env) :: starEach [b] X.env := by rfl) (he2 : starEach [b] X.env = (false, eval b X.env) :: starEach [] X.env := by rfl) (hpl : (backTo pos (starEach [b] X.env)).any (·.1) = false := by rfl) : PE X (.Call (.Name "min" p) [a, b] [] pos) (tE X.K cl W (two fMin ea eb)) := snd_b2 (call_min2 hc) bis_min hg hm boot_min ha hb (by decide) (by decide) he he2 hpl
theorem snd_isi {t : Ty} {y : Str} {p2 : Pos} (hg : Gl X "isinstance") (hm : X.mg "isinstance" = none) (hgy : Gl X y) (hmy : X.mg y = none) (hy : bootBuiltins y = some (.type (tyN t))) (ha : PE X e (tE X.K cl W ea)) (hny : y ≠ "__name__" := by decide) (hdy : (y == ("__debug__" : Str)) = false := by decide)
    (he : starEach [e, .Name y p2] X.env = (false, eval e X.env) :: starEach [.Name y p2] X.env := by rfl) : PE X (.Call (.Name "isinstance" p) [e, .Name y p2] [] pos) (tE X.K cl W (one (fIs t) ea)) :=
  pe_imp (pe_callB call_isi hg hm boot_isi (pa_cons ha (pa_cons (pe_bltn (v := .ty (tyN t)) hgy hmy hy rfl hny hdy) pa_nil) he) (by decide) (by decide) he rfl) fun σV H Q ⟨m, σ, h, H0, L, C, w⟩ => tE.use L C w fun d h1 m1 H1 v e1 L1 C1 r1 w1 => by
    by_cases ok : tyOk d = true
    · obtain ⟨t0, h2, h3⟩ := r1.ty ok
      have w2 : WP X.K cl (wx X.K cl W σV) m1 H1 (R.ok (D.bl (isTy t d)) h1) (Rt X.K cl Q) := by
        cases d <;> first | (cases ok; done) | exact w1
      exact ⟨v, _, .type t0, .type (tyN t), isTy t d, rfl, .ty _, h2, kit_ty (h3 t), WP.ok w2 C1 _ (.bl _)⟩
    · cases d <;> first | (exact absurd rfl ok) | (exact w1.elim) | (cases t <;> exact w1.elim)
end
end IP

namespace IP
open PySem PySem.Spec PyProof.Rows L2
section
variable {X : Cx}
def rIxD : R2 := fun x y H Q => ∃ a v, x = .ref a ∧ DGet H a y (some v) ∧ Q v H
theorem ix_dict (hu : X.A.units + 1 < cLine) : IxR X rIxD := by
  intro value slice pins s σ H x y v u Q I rx ry h hs
  obtain ⟨a, z, rfl, g, q⟩ := h
  obtain rfl : v = Value.ref a := rx
  have ty := dict_typeIs I g
  rcases g with ⟨kvs, k, e, ey, l⟩ | ⟨kvs, k, b, e, ey, eb, l⟩
  · subst ey
    obtain ⟨_, hd, vs, rel, dd⟩ := dk_rd I.hok e
    obtain ⟨w', hw, rw'⟩ := RelO.some_of (v := z) (o := valueAt vs k) (by rw [l]; exact rel.val k)
    exact subscriptTail_builtinR (x := w') ty PySem.F.slot_dict_getitem.lookup (wpAny_getItem_of (Q := fun r s' => r = w' ∧ EP X pins σ Q r s') (kV_is ry) dd.mapOf hw ⟨rfl, z, H, I.tok _, rw', q⟩) hs
  · subst ey
    cases (show u = Value.ref b from ry)
    obtain ⟨_, hd, xs, rel, dd⟩ := dt_rd I.hok e
    obtain ⟨w', hw, rw'⟩ := RelO.some_of (v := z) (o := (atKey xs k).map (·.2)) (by rw [l]; exact rel.val k)
    obtain ⟨pr, hp, hp2⟩ := Option.map_eq_some_iff.mp hw
    exact subscriptTail_builtinR (x := w') ty PySem.F.slot_dict_getitem.lookup (wpAny_getItem_heap (Q := fun r s' => r = w' ∧ EP X pins σ Q r s') (tupleKind_room_in1 hu) (key_of I.hok eb) dd hp ⟨hp2, z, H, I.tok _, by rw [hp2]; exact rw', q⟩) hs
end
section
variable {K : PySem.W.Frag} {cl : Cl}
theorem ixAt_eq (n : Nat) (i : Int) {j : Nat} (h : ixAt n i = some j) (hj : j < n) : ixN n i = some j := by
  unfold ixAt at h
  unfold ixN
  by_cases c : 0 ≤ i
  · rw [if_pos c] at h ⊢
    cases h
    rw [if_pos (by omega)]
  · rw [if_neg c] at h ⊢
    by_cases c2 : -(n : Int) ≤ i
    · rw [if_pos c2] at h ⊢
      cases h
      congr 2
      omega
    · rw [if_neg c2] at h
      cases h
theorem atD_of {m : Mp} {H : L2.Hp} {ds : List D} {vs : List V} {i : Int} {d : D} (r : RDs K cl H m ds vs) (h : atD ds i = some d) : ∃ v, atI vs i = some v ∧ RD K cl H m d v := by
  unfold atD at h
  simp only [nth_eq] at h
  cases e : ixAt ds.length i with
  | none => rw [e] at h; cases h
  | some j =>
    rw [e] at h
    obtain ⟨v, h1, h2⟩ := r.get h
    refine ⟨v, ?_, h2⟩
    unfold atI
    have hj : j < ds.length := (List.getElem?_eq_some_iff.mp h).1
    rw [← r.length, ixAt_eq _ _ e hj]
    exact h1
theorem atN_of {xs : List Nat} {i : Int} {c : Nat} (h : atN xs i = some c) : atI xs i = some c := by
  unfold atN at h
  cases e : ixAt xs.length i with
  | none => rw [e] at h; cases h
  | some j =>
    rw [e] at h
    have hj : j < xs.length := (List.getElem?_eq_some_iff.mp h).1
    unfold atI
    rw [ixAt_eq _ _ e hj]
    exact h
theorem rowAt_of {m : Mp} {h : Hp} {H : L2.Hp} {d : D} {v : V} {xs : List D} (C : Hc K cl m h H) (r : RD K cl H m d v) (e : rowAt d h = some xs) : ∃ a vs, v = .ref a ∧ (SqL K H a vs ∨ SqT K H a vs) ∧ RDs K cl H m xs vs := by
  cases r with
  | tup a r => cases e; exact ⟨_, _, rfl, .inr (.inl (.inl a)), r⟩
  | ctp a r => cases e; exact ⟨_, _, rfl, .inr (a H), r⟩
  | lst a r => cases e; exact ⟨_, _, rfl, .inl (.inl (.inr ⟨_, a⟩)), r⟩
  | scr a r => cases e; exact ⟨_, _, rfl, .inl a.sql, r⟩
  | @ref k i a hm =>
    unfold rowAt at e
    cases q : h.get k i with
    | none => simp only [q] at e; cases e
    | some o =>
      simp only [q] at e
      have ro := C.obj k i o a q hm
      match o, e, ro with
      | .lst ys, e, ro =>
        cases e
        obtain ⟨vs, z, r⟩ := ro
        exact ⟨a, vs, rfl, .inl (.inl (.inl z)), r⟩
  | _ => cases e
def rIxA (K : PySem.W.Frag) : R2 := fun x y H Q => (rIxL K x y H Q ∨ rIxT K x y H Q) ∨ (rIxS x y H Q ∨ rIxD x y H Q)
theorem ops_idx : OpS K cl fIdx (rIxA K) := fun x y v u E m h H Q C rx ry w => by
  unfold fIdx at w
  cases q : rowAt x h with
  | some xs =>
    simp only [q] at w
    obtain ⟨a, vs, rfl, s, r⟩ := rowAt_of C rx q
    cases ry <;> first | (exact w.elim) | skip
    obtain ⟨d, e, w⟩ := WP.opt w
    obtain ⟨z, e2, rz⟩ := atD_of r e
    rcases s with s | s
    · exact .inl (.inl ⟨a, vs, _, z, rfl, rfl, s, e2, WP.ok w C _ rz⟩)
    · exact .inl (.inr ⟨a, vs, _, z, rfl, rfl, s, e2, WP.ok w C _ rz⟩)
  | none =>
    simp only [q] at w
    have dict : WP K cl E m H (opt (dctAt x h) fun p => grd (isKey p.1 y) (opt (look y p.2) fun d => R.ok d h)) (Rt K cl Q) → rIxA K v u H Q := fun w => by
      obtain ⟨p, e, w⟩ := WP.opt w
      obtain ⟨hk, w⟩ := WP.grd w
      obtain ⟨d, e2, w⟩ := WP.opt w
      obtain ⟨a, o, rfl, g, ⟨e3, _⟩ | ⟨d', z, e3, rfl, rz⟩⟩ := dget_of C rx ry e hk
      · rw [e2] at e3; cases e3
      · rw [e2] at e3
        cases e3
        exact .inr (.inr ⟨a, z, rfl, g, WP.ok w C _ rz⟩)
    cases rx with
    | str s =>
      cases ry <;> first | (exact dict w) | skip
      rename_i i
      obtain ⟨c, w⟩ := WP.ite w
      obtain ⟨d, e, w⟩ := WP.opt w
      exact .inr (.inl ⟨s, i, d, rfl, rfl, line1 c, atN_of e, WP.ok w C _ (.str _)⟩)
    | _ => cases ry <;> exact dict w
end
section
variable {X : Cx} {cl : Cl} {W : WX} {a b c e o k z : Expr} {ea eb ec ee eo ek ez : E} {ae : A} {es : List Expr} {pos p apos cpos : Pos} {x : Str}
theorem snd_idx (hu : X.A.units + 1 < cLine) (ha : PE X a (tE X.K cl W ea)) (hb : PE X b (tE X.K cl W eb)) (hs : PlainIx b := by exact fun _ _ => rfl) : PE X (.Subscript a b pos) (tE X.K cl W (two fIdx ea eb)) :=
  pe_imp (pe_ix ((ix_list.or ix_tup).or (ix_str.or (ix_dict hu))) ha hb hs) fun _ _ _ w => two_use ops_idx w
/-! ### d.get(k, z), d.pop(k), d.pop(k, z) -/
theorem isD_of {K : PySem.W.Frag} {m : Mp} {h : Hp} {H : L2.Hp} {d : D} {v : V} (C : Hc K cl m h H) (r : RD K cl H m d v) (q : isD d h = true) : ∃ a, v = .ref a ∧ IsD H a := by
  unfold isD at q
  obtain ⟨pr, e⟩ := Option.isSome_iff_exists.mp q
  obtain ⟨a, rfl, ⟨_, kvs, z, _⟩ | ⟨_, kvs, z, _⟩⟩ := dctAt_of (t := pr.1) (rows := pr.2) C r e
  · exact ⟨a, rfl, .inl ⟨kvs, z⟩⟩
  · exact ⟨a, rfl, .inr ⟨kvs, z⟩⟩
theorem snd_get2 (hu : X.A.units + 1 < cLine) (ho : PE X o (tE X.K cl W eo)) (hk : PE X k (tE X.K cl W ek)) (hz : PE X z (tE X.K cl W ez)) (m : M2 X o "get" apos k z cpos) : PE X (.Call (.Attribute o "get" apos) [k, z] [] cpos) (tE X.K cl W (eGet2 eo ek ez)) :=
  pe_imp (pe_dget2 hu ho hk hz m) fun σV H Q ⟨m, σ, h, H0, L, C, w⟩ => tE.use L C w fun d h1 m1 H1 v e1 L1 C1 r1 w1 => by
    obtain ⟨hd, w1⟩ := WP.grd w1
    obtain ⟨a, rfl, i⟩ := isD_of C1 r1 hd
    refine ⟨a, rfl, i, tE.use L1 C1 w1 fun d2 h2 m2 H2 v2 e2 L2' C2 r2 w2 => tE.use L2' C2 w2 fun d3 h3 m3 H3 v3 e3 L3 C3 r3 w3 => ?_⟩
    obtain ⟨pr, e, w3⟩ := WP.opt w3
    obtain ⟨hk, w3⟩ := WP.grd w3
    obtain ⟨a', o', ea, g, r⟩ := dget_of C3 (r1.up (e2.trans e3)) (r2.up e3) e hk
    cases ea
    refine ⟨o', g, ?_⟩
    rcases r with ⟨e4, rfl⟩ | ⟨d', z, e4, rfl, rz⟩
    · rw [e4] at w3
      exact WP.ok w3 C3 _ r3
    · rw [e4] at w3
      exact WP.ok w3 C3 _ rz
end
section
variable {K : PySem.W.Frag} {cl : Cl}
/-- a dict of ours that may be written -/
theorem wdAt_of {m : Mp} {h : Hp} {H : L2.Hp} {d : D} {v : V} {p : Nat × Nat × Bool × List (D × D)} (C : Hc K cl m h H) (r : RD K cl H m d v) (e : wdAt d h = some p) :
    ∃ a, v = .ref a ∧ m p.1 p.2.1 = some a ∧ h.get p.1 p.2.1 = some (.dct p.2.2.1 false p.2.2.2) ∧ ((p.2.2.1 = false ∧ ∃ kvs, H a = some (.dK kvs) ∧ RKs K cl H m p.2.2.2 kvs) ∨ (p.2.2.1 = true ∧ ∃ kvs, H a = some (.dT kvs) ∧ RTs K cl H m p.2.2.2 kvs)) := by
  cases r <;> first | (cases e; done) | skip
  rename_i k n a hm
  unfold wdAt at e
  cases q : h.get k n with
  | none => simp only [q] at e; cases e
  | some ob =>
    simp only [q] at e
    match ob, e with
    | .dct t false rows, e =>
      cases e
      have ro := C.obj k n _ a q hm
      cases t
      · obtain ⟨kvs, z, r⟩ := ro; exact ⟨a, rfl, hm, q, .inl ⟨rfl, kvs, z, r⟩⟩
      · obtain ⟨kvs, z, r⟩ := ro; exact ⟨a, rfl, hm, q, .inr ⟨rfl, kvs, z, r⟩⟩
theorem RKs.append {m : Mp} {H : L2.Hp} : ∀ {r r' : List (D × D)} {s s' : List (Key × V)}, RKs K cl H m r s → RKs K cl H m r' s' → RKs K cl H m (r ++ r') (s ++ s')
  | _, _, _, _, .nil, z => z
  | _, _, _, _, .cons a t, z => .cons a (t.append z)
theorem RTs.append {m : Mp} {H : L2.Hp} : ∀ {r r' : List (D × D)} {s s' : List (List Key × V)}, RTs K cl H m r s → RTs K cl H m r' s' → RTs K cl H m (r ++ r') (s ++ s')
  | _, _, _, _, .nil, z => z
  | _, _, _, _, .cons a t, z => .cons a (t.append z)
theorem RKs.repl {m : Mp} {H : L2.Hp} (k : Key) {d : D} {v : V} (a : RD K cl H m d v) : ∀ {r : List (D × D)} {s : List (Key × V)}, RKs K cl H m r s → RKs K cl H m (IP.repl (kD k) d r) (s.map fun kv => if kv.1 = k then (kv.1, v) else kv)
  | _, _, .nil => .nil
  | _, _, @RKs.cons _ _ _ _ k' d' r v' s b t => by
    show RKs K cl H m (if eqKey (kD k') (kD k) = true then (kD k', d) :: IP.repl (kD k) d r else (kD k', d') :: IP.repl (kD k) d r) ((if k' = k then (k', v) else (k', v')) :: _)
    rw [eqKey_k]
    by_cases e : k' = k
    · rw [if_pos e, if_pos (decide_eq_true e)]; exact .cons a (t.repl k a)
    · rw [if_neg e, if_neg (by simpa using e)]; exact .cons b (t.repl k a)
theorem RTs.repl {m : Mp} {H : L2.Hp} (k : List Key) {d : D} {v : V} (a : RD K cl H m d v) : ∀ {r : List (D × D)} {s : List (List Key × V)}, RTs K cl H m r s → RTs K cl H m (IP.repl (.tup (k.map kD)) d r) (s.map fun kv => if kv.1 = k then (kv.1, v) else kv)
  | _, _, .nil => .nil
  | _, _, @RTs.cons _ _ _ _ k' d' r v' s b t => by
    show RTs K cl H m (if eqKey (.tup (k'.map kD)) (.tup (k.map kD)) = true then (.tup (k'.map kD), d) :: IP.repl (.tup (k.map kD)) d r else (.tup (k'.map kD), d') :: IP.repl (.tup (k.map kD)) d r) ((if k' = k then (k', v) else (k', v')) :: _)
    rw [eqKey_t]
    by_cases e : k' = k
    · rw [if_pos e, if_pos (decide_eq_true e)]; exact .cons a (t.repl k a)
    · rw [if_neg e, if_neg (by simpa using e)]; exact .cons b (t.repl k a)
theorem any_valV {κ : Type} [DecidableEq κ] (s : List (κ × V)) (k : κ) : (s.any fun kv => decide (kv.1 = k)) = (valV s k).isSome := valV_any k s
theorem RKs.put {m : Mp} {H : L2.Hp} (k : Key) {d : D} {v : V} (a : RD K cl H m d v) {r : List (D × D)} {s : List (Key × V)} (t : RKs K cl H m r s) : RKs K cl H m (putR (kD k) d r) (putK s k v) := by
  unfold putR putK
  rw [(t.look k).some, valV_any k s]
  by_cases e : (valV s k).isSome = true
  · rw [if_pos e, if_pos e]; exact t.repl k a
  · rw [if_neg e, if_neg e]; exact t.append (.cons a .nil)
theorem RTs.put {m : Mp} {H : L2.Hp} (k : List Key) {d : D} {v : V} (a : RD K cl H m d v) {r : List (D × D)} {s : List (List Key × V)} (t : RTs K cl H m r s) : RTs K cl H m (putR (.tup (k.map kD)) d r) (putK s k v) := by
  unfold putR putK
  rw [(t.look k).some, valV_any k s]
  by_cases e : (valV s k).isSome = true
  · rw [if_pos e, if_pos e]; exact t.repl k a
  · rw [if_neg e, if_neg e]; exact t.append (.cons a .nil)
theorem RKs.drop {m : Mp} {H : L2.Hp} (k : Key) : ∀ {r : List (D × D)} {s : List (Key × V)}, RKs K cl H m r s → RKs K cl H m (dropR (kD k) r) (dropK s k)
  | _, _, .nil => .nil
  | _, _, @RKs.cons _ _ _ _ k' d' r v' s b t => by
    unfold dropK
    show RKs K cl H m (if eqKey (kD k') (kD k) = true then dropR (kD k) r else (kD k', d') :: dropR (kD k) r) _
    rw [eqKey_k]
    by_cases e : k' = k
    · rw [if_pos (decide_eq_true e), List.filter_cons_of_neg (by simpa using e)]
      exact t.drop k
    · rw [if_neg (by simpa using e), List.filter_cons_of_pos (by simpa using e)]
      exact .cons b (t.drop k)
end
section
variable {X : Cx} {cl : Cl} {W : WX} {a b c e o k z : Expr} {ea eb ec ee eo ek ez : E} {ae : A} {es : List Expr} {pos p apos cpos : Pos} {x : Str}
theorem snd_pop1 (ho : PE X o (tE X.K cl W eo)) (hk : PE X k (tE X.K cl W ek)) (m : M1 X o "pop" apos k cpos) : PE X (.Call (.Attribute o "pop" apos) [k] [] cpos) (tE X.K cl W (ePop1 eo ek)) :=
  pe_imp (pe_dpop1 ho hk m) fun σV H Q ⟨m, σ, h, H0, L, C, w⟩ => tE.use L C w fun d h1 m1 H1 v e1 L1 C1 r1 w1 => by
    obtain ⟨hd, w1⟩ := WP.grd w1
    obtain ⟨a, rfl, i⟩ := isD_of C1 r1 hd
    refine ⟨a, rfl, i, tE.use L1 C1 w1 fun d2 h2 m2 H2 v2 e2 L2' C2 r2 w2 => ?_⟩
    obtain ⟨pr, e, w2⟩ := WP.opt w2
    obtain ⟨hk, w2⟩ := WP.grd w2
    obtain ⟨d3, e3, w2⟩ := WP.opt w2
    rw [Bool.and_eq_true] at hk
    obtain ⟨a', ea, hm, hg, ⟨et, kvs, z, r⟩ | ⟨et, kvs, z, r⟩⟩ := wdAt_of C2 (r1.up e2) e
    · cases ea
      rw [et] at w2 hg
      obtain ⟨kk, rfl, rfl⟩ := isK_of r2 hk.2
      rcases r.look kk with ⟨e4, _⟩ | ⟨d', zv, e4, e5, rz⟩
      · rw [e3] at e4; cases e4
      · rw [e3] at e4
        cases e4
        refine ⟨kvs, kk, zv, z, rfl, e5, ?_⟩
        have ex : Ext m2 m2 H2 (upd H2 a (.dK (dropK kvs kk))) := Ext.wr hm z trivial
        exact w2 m2 _ ex (C2.put hg hm ex.imm ⟨_, upd_same, (r.drop kk).upI ex.imm⟩ ⟨_, z, trivial⟩) _ (rz.up ex)
    · rw [et] at hk
      cases hk.1
theorem snd_pop2 (ho : PE X o (tE X.K cl W eo)) (hk : PE X k (tE X.K cl W ek)) (hz : PE X z (tE X.K cl W ez)) (m : M2 X o "pop" apos k z cpos) : PE X (.Call (.Attribute o "pop" apos) [k, z] [] cpos) (tE X.K cl W (ePop2 eo ek ez)) :=
  pe_imp (pe_dpop2 ho hk hz m) fun σV H Q ⟨m, σ, h, H0, L, C, w⟩ => tE.use L C w fun d h1 m1 H1 v e1 L1 C1 r1 w1 => by
    obtain ⟨hd, w1⟩ := WP.grd w1
    obtain ⟨a, rfl, i⟩ := isD_of C1 r1 hd
    refine ⟨a, rfl, i, tE.use L1 C1 w1 fun d2 h2 m2 H2 v2 e2 L2' C2 r2 w2 => tE.use L2' C2 w2 fun d3 h3 m3 H3 v3 e3 L3 C3 r3 w3 => ?_⟩
    obtain ⟨pr, e, w3⟩ := WP.opt w3
    obtain ⟨hk, w3⟩ := WP.grd w3
    rw [Bool.and_eq_true] at hk
    obtain ⟨a', ea, hm, hg, ⟨et, kvs, z, r⟩ | ⟨et, kvs, z, r⟩⟩ := wdAt_of C3 (r1.up (e2.trans e3)) e
    · cases ea
      rw [et] at w3 hg
      obtain ⟨kk, rfl, rfl⟩ := isK_of (r2.up e3) hk.2
      have ex : Ext m3 m3 H3 (upd H3 a (.dK (dropK kvs kk))) := Ext.wr hm z trivial
      have fin : ∀ d v, RD X.K cl H3 m3 d v → WP X.K cl (wx X.K cl W σV) m3 H3 (R.ok d (h3.put pr.1 pr.2.1 (.dct false false (dropR (kD kk) pr.2.2.2)))) (Rt X.K cl Q) → Q v (upd H3 a (.dK (dropK kvs kk))) := fun d v rd w =>
        w m3 _ ex (C3.put hg hm ex.imm ⟨_, upd_same, (r.drop kk).upI ex.imm⟩ ⟨_, z, trivial⟩) _ (rd.up ex)
      refine ⟨kvs, kk, z, rfl, ?_⟩
      rcases r.look kk with ⟨e4, e5⟩ | ⟨d', zv, e4, e5, rz⟩
      · rw [e4] at w3
        refine ⟨fun v q => (by rw [e5] at q; cases q), fun _ => ?_⟩
        have q := fin _ _ r3 w3
        have same : dropK kvs kk = kvs := by
          unfold dropK
          rw [List.filter_eq_self]
          intro y hy
          have := List.find?_eq_none.mp (Option.map_eq_none_iff.mp e5) y hy
          simpa using this
        rw [same] at q
        have eH : upd H3 a (.dK kvs) = H3 := by
          funext b
          by_cases hb : b = a
          · subst hb; rw [upd_same, z]
          · rw [upd_ne hb]
        rw [eH] at q
        exact q
      · rw [e4] at w3
        exact ⟨fun v q => (by rw [e5] at q; cases q; exact fin _ _ rz w3), fun q => (by rw [e5] at q; cases q)⟩
    · rw [et] at hk
      cases hk.1
end
end IP

namespace IP
open PySem PySem.Spec PyProof.Rows L2
/-- a class of the text: its attributes are its instances' own -/
structure CF (K : PySem.W.Frag) (cl : Cl) (c : Nat) : Prop where
  cls : Cls K (cl.adr c)
  no : ∀ f ∈ cl.fld c, NoAttr K (cl.adr c) f
  nd : (cl.fld c).Nodup
  few : (cl.fld c).length < 999
section
variable {K : PySem.W.Frag} {cl : Cl}
theorem nodup_le {α : Type} [DecidableEq α] : ∀ (l D : List α), l.Nodup → (∀ x ∈ l, x ∈ D) → l.length ≤ D.length
  | [], _, _, _ => Nat.zero_le _
  | x :: l, D, nd, h => by
    rw [List.nodup_cons] at nd
    have hx := h x (List.mem_cons_self ..)
    have ih := nodup_le l (D.erase x) nd.2 fun y hy => (List.mem_erase_of_ne (a := y) (b := x) (fun (z : y = x) => nd.1 (z ▸ hy))).mpr (h y (List.mem_cons_of_mem _ hy))
    rw [List.length_erase_of_mem hx] at ih
    have := List.length_pos_of_mem hx
    rw [List.length_cons]
    omega
theorem RF.short {H : L2.Hp} {m : Mp} {c : Nat} {fs : List (Option D)} {fv : List (Str × V)} (r : RF K cl H m c fs fv) (cf : CF K cl c) : fv.length < 999 := by
  have h1 : (fv.map (·.1)).length ≤ (cl.fld c).length := nodup_le _ _ r.nd fun x hx => r.sub x hx
  rw [List.length_map] at h1
  exact Nat.lt_of_le_of_lt h1 cf.few
theorem nodup_at {l : List Str} (nd : l.Nodup) {i j : Nat} {x : Str} (a : l[i]? = some x) (b : l[j]? = some x) : i = j := nodup_ix nd a b
theorem putF_keys (f : Str) (v : V) : ∀ fs : List (Str × V), (∀ g, g ∈ (putF f v fs).map (·.1) → g = f ∨ g ∈ fs.map (·.1)) ∧ ((fs.map (·.1)).Nodup → ((putF f v fs).map (·.1)).Nodup)
  | [] => ⟨fun g h => by simp [putF] at h; exact .inl h, fun _ => by simp [putF]⟩
  | (g, x) :: r => by
    obtain ⟨h1, h2⟩ := putF_keys f v r
    show (∀ y, y ∈ (if g = f then (g, v) :: r else (g, x) :: putF f v r).map (·.1) → _) ∧ (_ → ((if g = f then (g, v) :: r else (g, x) :: putF f v r).map (·.1)).Nodup)
    by_cases e : g = f
    · rw [if_pos e]
      exact ⟨fun y hy => .inr hy, fun z => z⟩
    · rw [if_neg e]
      refine ⟨fun y hy => ?_, fun z => ?_⟩
      · rcases List.mem_cons.mp hy with rfl | hy
        · exact .inr (List.mem_cons_self ..)
        · exact (h1 y hy).imp id fun q => List.mem_cons_of_mem _ q
      · rw [List.map_cons, List.nodup_cons] at z ⊢
        exact ⟨fun q => (h1 g q).elim (fun q => e q) fun q => z.1 q, h2 z.2⟩
theorem RF.set {H : L2.Hp} {m : Mp} {c i : Nat} {x : Str} {d : D} {v : V} {fs : List (Option D)} {fv : List (Str × V)} (r : RF K cl H m c fs fv) (cf : CF K cl c) (hx : (cl.fld c)[i]? = some x) (a : RD K cl H m d v) : RF K cl H m c (fs.set i (some d)) (putF x v fv) := by
  refine ⟨by rw [List.length_set]; exact r.len, (putF_keys x v fv).2 r.nd, fun y hy => ?_, fun j y e h1 h2 => ?_⟩
  · rcases (putF_keys x v fv).1 y hy with rfl | hy
    · exact List.mem_of_getElem? hx
    · exact r.sub y hy
  · rw [lookup_putF]
    rcases set_at h2 with ⟨rfl, _, e1⟩ | ⟨hj, h2⟩
    · cases e1
      rw [hx] at h1
      cases h1
      rw [if_pos rfl]
      exact ⟨v, rfl, a⟩
    · have ne : ¬ y = x := fun z => hj (nodup_at cf.nd hx (z ▸ h1))
      rw [if_neg ne]
      exact r.val j y e h1 h2
theorem fldAt_of {m : Mp} {h : Hp} {H : L2.Hp} {d z : D} {v : V} {cs : List Nat} {i : Nat} {x : Str} (C : Hc K cl m h H) (r : RD K cl H m d v) (e : fldAt cs i d h = some z) (hf : ∀ c ∈ cs, (cl.fld c)[i]? = some x) :
    ∃ a c dx fv u, v = .ref a ∧ c ∈ cs ∧ H a = some (.ins (cl.adr c) dx fv) ∧ fv.lookup x = some u ∧ RD K cl H m z u := by
  cases r <;> first | (cases e; done) | skip
  rename_i k n a hm
  unfold fldAt at e
  simp only [nth_eq] at e
  cases q : h.get k n with
  | none => simp only [q] at e; cases e
  | some ob =>
    simp only [q] at e
    match ob, e with
    | .ins c fs, e =>
      have e : (if cs.contains c = true then (match fs[i]? with
        | some (some d) => some d
        | _ => none) else none) = some z := e
      by_cases hc : cs.contains c = true
      · rw [if_pos hc] at e
        obtain ⟨dx, fv, hH, rf⟩ := C.obj k n _ a q hm
        have hc' : c ∈ cs := List.contains_iff_mem.mp hc
        cases e2 : fs[i]? with
        | none => rw [e2] at e; cases e
        | some o =>
          cases o with
          | none => rw [e2] at e; cases e
          | some d =>
            rw [e2] at e
            cases e
            obtain ⟨u, h1, h2⟩ := rf.val i x _ (hf c hc') e2
            exact ⟨a, c, dx, fv, u, rfl, hc', hH, h1, h2⟩
      · rw [if_neg hc] at e
        cases e
end
section
variable {X : Cx} {cl : Cl} {W : WX} {a b c e o k z value : Expr} {ea eb ec ee eo ek ez : E} {ae : A} {es : List Expr} {pos pos' tpos p apos cpos : Pos} {x f : Str} {cs : List Nat} {i : Nat}
/-- o.f -/
theorem snd_fld (cf : ∀ c ∈ cs, CF X.K cl c) (hf : ∀ c ∈ cs, (cl.fld c)[i]? = some f) (ho : PE X o (tE X.K cl W eo)) (hb : attributeBase o f X.env (eval o X.env) = eval o X.env := by rfl) : PE X (.Attribute o f pos) (tE X.K cl W (one (fFld cs i) eo)) :=
  pe_imp (pe_fld ho hb) fun σV H Q ⟨m, σ, h, H0, L, C, w⟩ => tE.use L C w fun d h1 m1 H1 v e1 L1 C1 r1 w1 => by
    obtain ⟨z, e, w1⟩ := WP.opt w1
    obtain ⟨a, c, dx, fv, u, rfl, hc, hH, hl, rz⟩ := fldAt_of C1 r1 e hf
    exact ⟨a, _, dx, fv, u, rfl, hH, (cf c hc).cls, (cf c hc).no f (List.mem_of_getElem? (hf c hc)), hl, WP.ok w1 C1 _ rz⟩
end
/-! ### defs -/
/-- what a def of ours promises: what f says -/
def spI (K : PySem.W.Frag) (cl : Cl) (np : Nat) (f : Fn) : Sp := fun vs H Q E => ∃ m h ds, Hc K cl m h H ∧ RDs K cl H m ds vs ∧ vs.length = np ∧ WP K cl (xE K cl E) m H (f ds h) (Rt K cl Q)
/-- the wish is the same at all slots -/
def Flat (W : WX) : Prop := ∀ c d σ σ' H, W c d σ H → W c d σ' H
theorem flat_passes {X : Cx} {W : WX} (tk : Takes X W) (fl : Flat W) : Passes (L2.CX X.prog X.w) X (fun c d H => W c d [] H) := fun pins σ H s e s' I c => by
  refine passAt tk σ pins H s e s' I ?_
  obtain ⟨a, B, H', cls, d, h1, h2, h3, h4, h5, h6, h7, h8⟩ := c
  exact ⟨a, B, H', cls, d, h1, h2, h3, h4, h5, h6, h7, fl _ _ _ _ _ h8⟩
theorem xE_imp {K : PySem.W.Frag} {cl : Cl} {E E' : XK} (i : ∀ c d H, E c d H → E' c d H) {c : Nat} {p : Option D} {m : Mp} {H : L2.Hp} (h : xE K cl E c p m H) : xE K cl E' c p m H := by
  cases p with
  | none => exact i _ _ _ h
  | some d => exact fun dx v h1 h2 => i _ _ _ (h dx v h1 h2)
theorem WP.xi {α : Type} {K : PySem.W.Frag} {cl : Cl} {X X' : XW} {m : Mp} {H : L2.Hp} {r : R α} {post : α → Hp → Mp → L2.Hp → Prop} (w : WP K cl X m H r post) (i : ∀ c p m H, X c p m H → X' c p m H) : WP K cl X' m H r post := by
  cases r with
  | ok a h => exact w
  | exc c p h => exact fun m' H' e C => i _ _ _ _ (w m' H' e C)
  | no => exact w
section
variable {X : Cx} {cl : Cl} {W : WX} {e o : Expr} {eo : E} {ae ak : A} {es : List Expr} {kws : List Keyword} {pos p apos : Pos} {x mt : Str}
theorem snd_call {k np : Nat} {f : Fn} {fa : Addr} {fd : FuncData} {ps : List Str} (F : FnOk X.prog X.w X.K X.mg X.base (L2.CX X.prog X.w) k fa fd ps (spI X.K cl np f)) (hr : Room k X.A) (tk : Takes X W) (hg : Gl X x) (hm : X.mg x = some (.ref fa)) (hk : PySem.W.keepIn X.K (.ref fa) = true) (hb : Binds X.K fd ps [])
    (ha : PA X (e :: es) (tA X.K cl W ae)) (hdb : (x == ("__debug__" : Str)) = false := by decide) (he : starEach (e :: es) X.env = (false, eval e X.env) :: starEach es X.env := by rfl) (hpl : (backTo pos (starEach es X.env)).any (·.1) = false := by rfl) :
    PE X (.Call (.Name x p) (e :: es) [] pos) (tE X.K cl W (eCall np f ae)) :=
  pe_imp (pe_callS F hr hg hm hk hb (fun σ => passAt tk σ) ha hdb he hpl) fun σV H Q ⟨m, σ, h, H0, L, C, w⟩ => tA.use L C w fun ds h1 m1 H1 vs e1 L1 C1 r1 w1 => by
    obtain ⟨c, w1⟩ := WP.grd w1
    exact ⟨m1, h1, ds, C1, r1, by rw [← r1.length]; exact eq_of_beq c, w1⟩
theorem clsAt_of {K : PySem.W.Frag} {m : Mp} {h : Hp} {H : L2.Hp} {d : D} {v : V} {c : Nat} (C : Hc K cl m h H) (r : RD K cl H m d v) (e : clsAt d h = some c) : ∃ a dx fs fv, v = .ref a ∧ H a = some (.ins (cl.adr c) dx fv) ∧ RF K cl H m c fs fv := by
  cases r <;> first | (cases e; done) | skip
  rename_i k n a hm
  unfold clsAt at e
  cases q : h.get k n with
  | none => simp only [q] at e; cases e
  | some ob =>
    simp only [q] at e
    match ob, e with
    | .ins c fs, e =>
      cases e
      obtain ⟨dx, fv, hH, rf⟩ := C.obj k n _ a q hm
      exact ⟨a, dx, fs, fv, rfl, hH, rf⟩
theorem RF.noM {K : PySem.W.Frag} {H : L2.Hp} {m : Mp} {c : Nat} {fs : List (Option D)} {fv : List (Str × V)} (r : RF K cl H m c fs fv) {x : Str} (n : x ∉ cl.fld c) : fv.lookup x = none := by
  rw [List.lookup_eq_none_iff]
  intro p hp
  have : p.1 ∈ cl.fld c := r.sub _ (List.mem_map.mpr ⟨p, hp, rfl⟩)
  simp
  rintro rfl
  exact n this
/-- o.m(e, ..) -/
theorem snd_meth {k np c : Nat} {f : Fn} {fa : Addr} {fd : FuncData} {ps : List Str} {pl : Sem Bool} (F : FnOk X.prog X.w X.K X.mg X.base (L2.CX X.prog X.w) k fa fd ps (spI X.K cl np f)) (hr : Room k X.A) (tk : Takes X W) (fl : Flat W) (cf : CF X.K cl c) (hM : Meth X.K (cl.adr c) mt fa) (hn : mt ∉ cl.fld c) (hb : Binds X.K fd ps [])
    (ho : PE X o (tE X.K cl W eo)) (ha : PA X (e :: es) (tA X.K cl W ae))
    (hst : starEach (e :: es) X.env = (false, eval e X.env) :: starEach es X.env := by rfl) (hpl : (backTo pos (starEach es X.env)).any (·.1) = false := by rfl)
    (ht : eval (.Call (.Attribute o mt apos) (e :: es) [] pos) X.env = (do
      let ov ← eval o X.env
      standAt apos.atName
      let (f, first) ← holding [ov] (getMethod ov mt pl)
      callWith pos f first (backTo pos (starEach (e :: es) X.env)) (backToKw pos (keywordEach [] X.env))) := by rfl) :
    PE X (.Call (.Attribute o mt apos) (e :: es) [] pos) (tE X.K cl W (eMeth [c] np f eo ae)) :=
  pe_imp (pe_meth ho cf.cls hM F hr hb .nil (flat_passes tk fl) ha hst hpl ht) fun σV H Q ⟨m, σ, h, H0, L, C, w⟩ => tE.use L C w fun d h1 m1 H1 v e1 L1 C1 r1 w1 => by
    obtain ⟨c', e, w1a⟩ := WP.opt w1
    obtain ⟨hc, w1b⟩ := WP.grd w1a
    clear w1 w1a
    obtain rfl : c' = c := by simpa using hc
    obtain ⟨a, dx, fs, fv, rfl, hH, rf⟩ := clsAt_of C1 r1 e
    refine ⟨a, dx, fv, rfl, hH, rf.noM hn, tA.use L1 C1 w1b fun ds h2 m2 H2 vs e2 L2' C2 r2 w2 => ?_⟩
    obtain ⟨hl, w2⟩ := WP.grd w2
    rw [List.append_nil]
    exact ⟨m2, h2, d :: ds, C2, .cons (r1.up e2) r2, by rw [List.length_cons, ← r2.length]; simpa using hl, w2.xi fun c p m H q => xE_imp (fun c d H z => fl _ _ _ _ _ z) q⟩
/-- o.m() -/
theorem snd_meth0 {k np c : Nat} {f : Fn} {fa : Addr} {fd : FuncData} {ps : List Str} {pl : Sem Bool} (F : FnOk X.prog X.w X.K X.mg X.base (L2.CX X.prog X.w) k fa fd ps (spI X.K cl np f)) (hr : Room k X.A) (tk : Takes X W) (fl : Flat W) (cf : CF X.K cl c) (hM : Meth X.K (cl.adr c) mt fa) (hn : mt ∉ cl.fld c) (hb : Binds X.K fd ps [])
    (ho : PE X o (tE X.K cl W eo))
    (ht : eval (.Call (.Attribute o mt apos) [] [] pos) X.env = (do
      let ov ← eval o X.env
      standAt apos.atName
      let (f, first) ← holding [ov] (getMethod ov mt pl)
      callWith pos f first (backTo pos (starEach [] X.env)) (backToKw pos (keywordEach [] X.env))) := by rfl) :
    PE X (.Call (.Attribute o mt apos) [] [] pos) (tE X.K cl W (eMeth [c] np f eo aNil)) :=
  pe_imp (pe_meth0 ho cf.cls hM F hr hb .nil (flat_passes tk fl) ht) fun σV H Q ⟨m, σ, h, H0, L, C, w⟩ => tE.use L C w fun d h1 m1 H1 v e1 L1 C1 r1 w1 => by
    obtain ⟨c', e, w1a⟩ := WP.opt w1
    obtain ⟨hc, w1b⟩ := WP.grd w1a
    clear w1 w1a
    obtain rfl : c' = c := by simpa using hc
    obtain ⟨a, dx, fs, fv, rfl, hH, rf⟩ := clsAt_of C1 r1 e
    refine ⟨a, dx, fv, rfl, hH, rf.noM hn, ?_⟩
    have w2 : WP X.K cl (wx X.K cl W σV) m1 H1 (grd ([d].length == np) (f [d] h1)) (Rt X.K cl Q) := w1b
    obtain ⟨hl, w2⟩ := WP.grd w2
    exact ⟨m1, h1, [d], C1, .cons r1 .nil, by simpa using hl, w2.xi fun c p m H q => xE_imp (fun c d H z => fl _ _ _ _ _ z) q⟩
end
end IP

namespace IP
open PySem PySem.Spec PyProof.Rows L2
section
variable {X : Cx} {cl : Cl} {W : WX} {e o : Expr} {eo : E} {ae ak : A} {es : List Expr} {kws : List Keyword} {pos p apos : Pos} {x mt : Str}
theorem make_use {K : PySem.W.Frag} {k c nf np : Nat} {f : Fn} {E : XK} {m : Mp} {h : Hp} {H : L2.Hp} {Q : VK} {ds : List D} {vs : List V} (cf : CF K cl c) (hnf : nf = (cl.fld c).length) (C : Hc K cl m h H) (r : RDs K cl H m ds vs)
    (w : WP K cl (xE K cl E) m H ((lay k (.ins c (List.replicate nf none)) h).bnd fun x h => grd ((x :: ds).length == np) ((f (x :: ds) h).bnd fun d h => match d with
      | .non => .ok x h
      | _ => .no)) (Rt K cl Q)) {a dx : Addr} (na : H a = none) (nd : H dx = none) (ne : dx ≠ a) :
    spI K cl np f (.ref a :: vs) (upd (upd H dx (.own a)) a (.ins (cl.adr c) dx [])) (fun v H2 => v = .non ∧ Q (.ref a) H2) E := by
  by_cases hk : k < h.length
  · have e1 : lay k (.ins c (List.replicate nf none)) h = .ok (.ref k (h.len k)) (h.new k (.ins c (List.replicate nf none))) := if_pos hk
    rw [e1] at w
    have na' : (upd H dx (.own a)) a = none := by rw [upd_ne (fun z => ne z.symm)]; exact na
    have hm : m k (h.len k) = none := Classical.byContradiction fun z => (C.dom k (h.len k)).mp z get_len
    have x1 : Ext m m H (upd H dx (.own a)) := Ext.lay nd
    have x2 : Ext m (m.add k (h.len k) a) (upd H dx (.own a)) (upd (upd H dx (.own a)) a (.ins (cl.adr c) dx [])) := Ext.add na' hm
    have ex := x1.trans x2
    have C2 : Hc K cl (m.add k (h.len k) a) (h.new k (.ins c (List.replicate nf none))) (upd (upd H dx (.own a)) a (.ins (cl.adr c) dx [])) :=
      (C.lay nd).add hk na' ⟨dx, [], upd_same, ⟨by rw [List.length_replicate]; exact hnf, List.nodup_nil, fun y hy => (by cases hy), fun i y d _ h2 => (by
        rw [List.getElem?_replicate] at h2
        split at h2 <;> cases h2)⟩⟩
    have w2 := WP.up w ex
    obtain ⟨hl, w3⟩ := WP.grd (r := (f (D.ref k (h.len k) :: ds) _).bnd _) w2
    have here : (m.add k (h.len k) a) k (h.len k) = some a := if_pos ⟨rfl, rfl⟩
    refine ⟨m.add k (h.len k) a, _, .ref k (h.len k) :: ds, C2, .cons (.ref here) (r.up ex), by rw [List.length_cons, ← r.length]; simpa using hl, w3.bnd.imp fun d h3 m3 H3 e3 C3 w4 v rv => ?_⟩
    cases rv with
    | non => exact ⟨rfl, WP.ok (a := D.ref k (h.len k)) (h := h3) w4 C3 _ (.ref (e3.pre _ _ _ here))⟩
    | _ => exact w4.elim
  · have e1 : lay k (.ins c (List.replicate nf none)) h = .no := if_neg hk
    rw [e1] at w
    exact w.elim
/-- C(e, ..) -/
theorem snd_make {k kd c nf np : Nat} {f : Fn} {fa : Addr} {fd : FuncData} {ps : List Str} (M : Mk X.K (cl.adr c) fa) (F : FnOk X.prog X.w X.K X.mg X.base (L2.CX X.prog X.w) k fa fd ps (spI X.K cl np f)) (hr : Room (k + 1) X.A) (tk : Takes X W) (fl : Flat W) (cf : CF X.K cl c) (hnf : nf = (cl.fld c).length) (hg : Gl X x) (hm : X.mg x = some (.ref (cl.adr c))) (hb : Binds X.K fd ps [])
    (ha : PA X (e :: es) (tA X.K cl W ae)) (hdb : (x == ("__debug__" : Str)) = false := by decide) (he : starEach (e :: es) X.env = (false, eval e X.env) :: starEach es X.env := by rfl) (hpl : (backTo pos (starEach es X.env)).any (·.1) = false := by rfl) :
    PE X (.Call (.Name x p) (e :: es) [] pos) (tE X.K cl W (eMake kd c nf np f ae)) :=
  pe_imp (pe_make M F hr hg hm hb .nil (flat_passes tk fl) ha hdb he hpl) fun σV H Q ⟨m, σ, h, H0, L, C, w⟩ => tA.use L C w fun ds h1 m1 H1 vs e1 L1 C1 r1 w1 a dx na nd ne => by
    rw [List.append_nil]
    exact make_use cf hnf C1 r1 (w1.xi fun c p m H q => xE_imp (fun c d H z => fl _ _ _ _ _ z) q) na nd ne
theorem snd_make0 {k kd c nf np : Nat} {f : Fn} {fa : Addr} {fd : FuncData} {ps : List Str} (M : Mk X.K (cl.adr c) fa) (F : FnOk X.prog X.w X.K X.mg X.base (L2.CX X.prog X.w) k fa fd ps (spI X.K cl np f)) (hr : Room (k + 1) X.A) (tk : Takes X W) (fl : Flat W) (cf : CF X.K cl c) (hnf : nf = (cl.fld c).length) (hg : Gl X x) (hm : X.mg x = some (.ref (cl.adr c))) (hb : Binds X.K fd ps [])
    (hdb : (x == ("__debug__" : Str)) = false := by decide) :
    PE X (.Call (.Name x p) [] [] pos) (tE X.K cl W (eMake kd c nf np f aNil)) :=
  pe_imp (pe_make0 M F hr hg hm hb .nil (flat_passes tk fl) hdb) fun σV H Q ⟨m, σ, h, H0, L, C, w⟩ a dx na nd ne => by
    exact make_use (ds := []) (vs := []) cf hnf C .nil (WP.xi (r := (lay kd (.ins c (List.replicate nf none)) h).bnd _) w fun c p m H q => xE_imp (fun c d H z => fl _ _ _ _ _ z) q) na nd ne
/-! ### keywords, defaults -/
theorem Vals.pickV {xs : List V} {us : List Value} (r : Vals xs us) : ∀ ix : List Nat, Vals (pick ix xs) (pick ix us)
  | [] => .nil
  | i :: ix => by
    unfold pick
    cases e : xs[i]? with
    | none =>
      rw [r.none_of e]
      exact Vals.pickV r ix
    | some v =>
      obtain ⟨u, e2, ru⟩ := r.get e
      rw [e2]
      exact .cons ru (Vals.pickV r ix)
theorem RDs.pickD {K : PySem.W.Frag} {m : Mp} {H : L2.Hp} {xs : List D} {us : List V} (r : RDs K cl H m xs us) : ∀ ix : List Nat, RDs K cl H m (pick ix xs) (pick ix us)
  | [] => .nil
  | i :: ix => by
    unfold pick
    cases e : xs[i]? with
    | none =>
      have : us[i]? = none := by
        rw [List.getElem?_eq_none_iff] at e ⊢
        rw [← r.length]
        exact e
      rw [this]
      exact RDs.pickD r ix
    | some v =>
      obtain ⟨u, e2, ru⟩ := r.get e
      rw [e2]
      exact .cons ru (RDs.pickD r ix)
/-- how a call binds: n positional values, keywords ks, the defaults dv that fill up, all put in their order by ix -/
def BindX (K : PySem.W.Frag) (fd : FuncData) (ps : List Str) (n : Nat) (ks : List Str) (dv : List V) (ix : List Nat) : Prop :=
  ∃ mv : List Value, Vals dv mv ∧ ∀ (s : Shared) (us ws : List Value), K.In s.heap → us.length = n → ws.length = ks.length → BindsTo s fd ⟨us, ks.zip ws⟩ (ps.zip (pick ix (us ++ (mv ++ ws))))
theorem BindX.kbn {K : PySem.W.Frag} {fd : FuncData} {ps : List Str} {n : Nat} {ks : List Str} {dv : List V} {ix : List Nat} (b : BindX K fd ps n ks dv ix) : ∃ g, KBn K fd ps n ks g (fun vs zs => pick ix (vs ++ (dv ++ zs))) := by
  obtain ⟨mv, r, h⟩ := b
  exact ⟨fun us ws => pick ix (us ++ (mv ++ ws)), h, fun r1 r2 => Vals.pickV (r1.append (r.append r2)) ix⟩
section
variable {K : PySem.W.Frag} {qual y : Str} {params : Arguments} {body : List Stmt} {scope : Scope} {dvs : List V} {kwd : List (Str × V)} {f : Addr} {fd : FuncData} {ps : List Str}
/-- keyword-only defaults alone; ms: those that lack -/
theorem bindX0 (F : FunD K y qual params body scope [] kwd f fd) (n : Nat) (ks : List Str) (ms : List (Str × V)) (ix : List Nat) (hk : kwd ≠ []) (hms : ∀ q ∈ ms, q ∈ kwd)
    (h : ∀ (D : Addr) (doc pm : Value) (an : Option Addr) (cdv ct : Value) (us mv ws : List Value), us.length = n → mv.length = ms.length → ws.length = ks.length →
      KwChain D ((ms.map (·.1)).zip mv) (bindArgs (PySem.W.fnOf y qual params body scope .none (.ref D) doc pm an cdv ct) ⟨us, ks.zip ws⟩) (ps.zip (pick ix (us ++ (mv ++ ws))))) : BindX K fd ps n ks (ms.map (·.2)) ix := by
  obtain ⟨oc, od, dV, kV, doc, pm, an, cdv, ct, osl, rfl, lk, hcd, hD, hK⟩ := F.ex
  rcases hD with ⟨_, rfl⟩ | ⟨e, _⟩
  · rcases hK with e | ⟨D, rfl, hq⟩
    · exact absurd e hk
    · obtain ⟨mv, hl, rk, hks⟩ := kwd_vals (ms := ms) fun q hm => hq q (hms q hm)
      exact ⟨mv, rk, fun s us ws X l1 l2 => BindsTo.of_looks fun M => KwChain.looks X hks (h D doc pm an cdv ct us mv ws l1 hl l2)⟩
  · exact absurd rfl e
/-- defaults of positional parameters alone -/
theorem bindX1 (F : FunD K y qual params body scope dvs [] f fd) (n : Nat) (ks : List Str) (ix : List Nat) (hd : dvs ≠ [])
    (h : ∀ (T : Addr) (kV doc pm : Value) (an : Option Addr) (cdv ct : Value) (us its ws : List Value), us.length = n → its.length = dvs.length → ws.length = ks.length →
      ∃ k, bindArgs (PySem.W.fnOf y qual params body scope (.ref T) kV doc pm an cdv ct) ⟨us, ks.zip ws⟩ = seqItems? (.ref T) >>= k ∧ k (some its.toArray) = pure (ps.zip (pick ix (us ++ (its ++ ws))))) : BindX K fd ps n ks dvs ix := by
  obtain ⟨oc, od, dV, kV, doc, pm, an, cdv, ct, osl, rfl, lk, hcd, hD, hK⟩ := F.ex
  rcases hD with ⟨e, _⟩ | ⟨_, T, ob, its, m, rfl, lT, oT, rT⟩
  · exact absurd e hd
  · refine ⟨its, rT, fun s us ws X l1 l2 => ?_⟩
    obtain ⟨k, e1, e2⟩ := h T kV doc pm an cdv ct us its ws l1 rT.length.symm l2
    refine BindsTo.of_looks fun M => ?_
    rw [e1]
    exact looks_items X lT oT (.of_pure e2)
end
/-- keywords' values -/
def Pk (X : Cx) (cl : Cl) (W : WX) (kws : List Keyword) (ak : A) : Prop := PK X kws (tA X.K cl W ak)
theorem snk_nil : PK X [] (tA X.K cl W aNil) := pk_imp pk_nil fun σV H Q ⟨m, σ, h, H0, L, C, w⟩ => WP.ok (a := ([] : List D)) (h := h) w C [] .nil
theorem snk_cons {nm : Option Str} {kpos : Pos} {ee : E} (ha : PE X e (tE X.K cl W ee)) (hr : PK X kws (tA X.K cl W ak)) : PK X (⟨nm, e, kpos⟩ :: kws) (tA X.K cl W (aCons ee ak)) :=
  pk_imp (pk_cons ha hr) fun σV H Q ⟨m, σ, h, H0, L, C, w⟩ => tE.use L C w fun d h1 m1 H1 v e1 L1 C1 r1 w1 => tA.use L1 C1 w1 fun ds h2 m2 H2 vs e2 L2 C2 r2 w2 =>
    WP.ok (a := d :: ds) (h := h2) w2 C2 _ (.cons (r1.up e2) r2)
def tMethK (C : Addr) (m : Str) (n nk : Nat) (sp : Sp) (gV : List V → List V → List V) (E : XK) (ta : TE) (t tk : TA) : TE := fun σ H Q => ta σ H fun x H1 => ∃ a dx fs, x = .ref a ∧ H1 a = some (.ins C dx fs) ∧ fs.lookup m = none ∧
  t σ H1 fun vs H2 => tk σ H2 fun zs H3 => (x :: vs).length = n ∧ zs.length = nk ∧ sp (gV (x :: vs) zs) H3 Q E
section
variable {CX : CXT} {k n : Nat} {C f : Addr} {fd : FuncData} {ps ks : List Str} {sp : Sp} {E : XK} {m : Str} {ta : TE} {t tk : TA} {g : List Value → List Value → List Value} {gV : List V → List V → List V} {pl : Sem Bool}
/-- o.m(e, .., k = v, ..) -/
theorem pe_methK (he : PE X o ta) (c : Cls X.K C) (hm : Meth X.K C m f)
    (F : FnOk X.prog X.w X.K X.mg X.base CX k f fd ps sp) (hr : Room k X.A) (hb : KBn X.K fd ps n ks g gV) (hx : Passes CX X E) (ha : PA X (e :: es) t) (hkw : PK X kws tk)
    (hall : (backToKw pos (keywordEach kws X.env)).all (·.1.isSome) = true := by rfl) (hks : (backToKw pos (keywordEach kws X.env)).filterMap (·.1) = ks := by rfl)
    (hpl : ((backTo pos (starEach (e :: es) X.env)).any (·.1) || (backToKw pos (keywordEach kws X.env)).any (·.1.isNone)) = false := by rfl)
    (hes : starEach (e :: es) X.env = (false, eval e X.env) :: starEach es X.env := by rfl)
    (ht : eval (.Call (.Attribute o m apos) (e :: es) kws pos) X.env = (do
      let ov ← eval o X.env
      standAt apos.atName
      let (f, first) ← holding [ov] (getMethod ov m pl)
      callWith pos f first (backTo pos (starEach (e :: es) X.env)) (backToKw pos (keywordEach kws X.env))) := by rfl) :
    PE X (.Call (.Attribute o m apos) (e :: es) kws pos) (tMethK C m n ks.length sp gV E ta t tk) := by
  refine ⟨fun pins s σ H Q I h => ?_⟩
  refine PySem.W.methodCall_KW (pl := pl) (thn (he.run pins s σ H _ I h) fun u s1 ⟨x, H1, I1, rx, a, dx, fs, ex, ea, l, q⟩ => ?_) ht
  subst ex
  obtain rfl : u = Value.ref a := rx
  refine getmeth_ok I1 ea c hm l ?_
  refine PySem.W.callWith_KW (first := [.ref a]) (h₀ := X.base) I1.ok.mod.kin hm.kp hall (thn (ha.run pos pins s1 σ H1 _ I1 q) fun us s2 ⟨vs, H2, I2, r, q2⟩ => ?_) hpl hes
  refine thn (hkw.run pos pins s2 σ H2 _ I2 q2) fun ws s3 ⟨zs, H3, I3, rz, l1, l2, q3⟩ => ⟨I3.kIn, ?_⟩
  rw [hks]
  exact run_fnN (us := .ref a :: us) (vs := .ref a :: vs) F hr hb hx I3 (.cons rfl r) rz l1 l2 q3
/-- o.m(k = v, ..) -/
theorem pe_methK0 (he : PE X o ta) (c : Cls X.K C) (hm : Meth X.K C m f)
    (F : FnOk X.prog X.w X.K X.mg X.base CX k f fd ps sp) (hr : Room k X.A) (hb : KBn X.K fd ps n ks g gV) (hx : Passes CX X E) (hkw : PK X kws tk)
    (hall : (backToKw pos (keywordEach kws X.env)).all (·.1.isSome) = true := by rfl) (hks : (backToKw pos (keywordEach kws X.env)).filterMap (·.1) = ks := by rfl)
    (hpl : ((backTo pos (starEach [] X.env)).any (·.1) || (backToKw pos (keywordEach kws X.env)).any (·.1.isNone)) = false := by rfl)
    (ht : eval (.Call (.Attribute o m apos) [] kws pos) X.env = (do
      let ov ← eval o X.env
      standAt apos.atName
      let (f, first) ← holding [ov] (getMethod ov m pl)
      callWith pos f first (backTo pos (starEach [] X.env)) (backToKw pos (keywordEach kws X.env))) := by rfl) :
    PE X (.Call (.Attribute o m apos) [] kws pos) (tMethK C m n ks.length sp gV E ta tNil tk) := by
  refine ⟨fun pins s σ H Q I h => ?_⟩
  refine PySem.W.methodCall_KW (pl := pl) (thn (he.run pins s σ H _ I h) fun u s1 ⟨x, H1, I1, rx, a, dx, fs, ex, ea, l, q⟩ => ?_) ht
  subst ex
  obtain rfl : u = Value.ref a := rx
  refine getmeth_ok I1 ea c hm l ?_
  refine PySem.W.callWith_KW0 (first := [.ref a]) (h₀ := X.base) I1.ok.mod.kin hm.kp hall ?_ hpl
  refine thn (hkw.run pos pins s1 σ H1 _ I1 q) fun ws s3 ⟨zs, H3, I3, rz, l1, l2, q3⟩ => ⟨I3.kIn, ?_⟩
  rw [hks]
  exact run_fnN (us := [.ref a]) (vs := [.ref a]) F hr hb hx I3 (.cons rfl .nil) rz l1 l2 q3
end
/-- what the reading of such a call asks is what eMethK gives -/
theorem methK_use {np c k n nk : Nat} {f : Fn} {dfl : List D} {dv : List V} {ix : List Nat} (fl : Flat W) (cf : CF X.K cl c) (hn : mt ∉ cl.fld c) (hnp : ∀ l : List V, l.length = n + (dv.length + nk) → (pick ix l).length = np) (hd : ∀ H m, RDs X.K cl H m dfl dv)
    {t : TA} (ht : ∀ σV H m σ h H0 (Q : List V → L2.Hp → Prop) (kk : List D → Hp → R D) post, Lc X.K cl m H0 H σ σV → Hc X.K cl m h H → WP X.K cl (wx X.K cl W σV) m H ((ae σ h).bnd kk) post →
      (∀ d h1 m1 H1 v, Ext m m1 H H1 → Lc X.K cl m1 H0 H1 σ σV → Hc X.K cl m1 h1 H1 → RDs X.K cl H1 m1 d v → WP X.K cl (wx X.K cl W σV) m1 H1 (kk d h1) post → Q v H1) → t σV H Q)
    {σV : L2.St} {H : L2.Hp} {Q : VK} (w : tE X.K cl W (eMethK [c] n nk dfl ix f eo ae ak) σV H Q) :
    tMethK (cl.adr c) mt n nk (spI X.K cl np f) (fun vs zs => pick ix (vs ++ (dv ++ zs))) (fun c d H => W c d [] H) (tE X.K cl W eo) t (tA X.K cl W ak) σV H Q := by
  obtain ⟨m, σ, h, H0, L, C, w⟩ := w
  refine tE.use L C w fun d h1 m1 H1 v e1 L1 C1 r1 w1 => ?_
  obtain ⟨c', e, w1a⟩ := WP.opt w1
  obtain ⟨hc, w1b⟩ := WP.grd w1a
  clear w1 w1a
  obtain rfl : c' = c := by simpa using hc
  obtain ⟨a, dx, fs, fv, rfl, hH, rf⟩ := clsAt_of C1 r1 e
  refine ⟨a, dx, fv, rfl, hH, rf.noM hn, ht _ _ _ _ _ _ _ _ _ L1 C1 w1b fun ds h2 m2 H2 vs e2 L2' C2 r2 w2 => tA.use L2' C2 w2 fun ys h3 m3 H3 zs e3 L3 C3 r3 w3 => ?_⟩
  obtain ⟨hl, w3⟩ := WP.grd w3
  rw [Bool.and_eq_true] at hl
  have l1 : (V.ref a :: vs).length = n := by rw [List.length_cons, ← r2.length]; simpa using hl.1
  have l2 : zs.length = nk := by rw [← r3.length]; simpa using hl.2
  refine ⟨l1, l2, m3, h3, _, C3, RDs.pickD ((RDs.cons (r1.up (e2.trans e3)) (r2.up e3)).append ((hd H3 m3).append r3)) ix, hnp _ (by rw [List.length_append, List.length_append, l1, l2]), w3.xi fun c p m H q => xE_imp (fun c d H z => fl _ _ _ _ _ z) q⟩
theorem snd_methK {np c k n nk : Nat} {f : Fn} {fa : Addr} {fd : FuncData} {ps ks : List Str} {dfl : List D} {dv : List V} {ix : List Nat} {pl : Sem Bool} (F : FnOk X.prog X.w X.K X.mg X.base (L2.CX X.prog X.w) k fa fd ps (spI X.K cl np f)) (hr : Room k X.A) (tk : Takes X W) (fl : Flat W) (cf : CF X.K cl c) (hM : Meth X.K (cl.adr c) mt fa) (hn : mt ∉ cl.fld c)
    (hb : BindX X.K fd ps n ks dv ix) (hnp : ∀ l : List V, l.length = n + (dv.length + nk) → (pick ix l).length = np) (hd : ∀ H m, RDs X.K cl H m dfl dv) (hnk : ks.length = nk)
    (ho : PE X o (tE X.K cl W eo)) (ha : PA X (e :: es) (tA X.K cl W ae)) (hkw : PK X kws (tA X.K cl W ak))
    (hall : (backToKw pos (keywordEach kws X.env)).all (·.1.isSome) = true := by rfl) (hks : (backToKw pos (keywordEach kws X.env)).filterMap (·.1) = ks := by rfl)
    (hpl : ((backTo pos (starEach (e :: es) X.env)).any (·.1) || (backToKw pos (keywordEach kws X.env)).any (·.1.isNone)) = false := by rfl)
    (hes : starEach (e :: es) X.env = (false, eval e X.env) :: starEach es X.env := by rfl)
    (ht : eval (.Call (.Attribute o mt apos) (e :: es) kws pos) X.env = (do
      let ov ← eval o X.env
      standAt apos.atName
      let (f, first) ← holding [ov] (getMethod ov mt pl)
      callWith pos f first (backTo pos (starEach (e :: es) X.env)) (backToKw pos (keywordEach kws X.env))) := by rfl) :
    PE X (.Call (.Attribute o mt apos) (e :: es) kws pos) (tE X.K cl W (eMethK [c] n nk dfl ix f eo ae ak)) := by
  subst hnk
  obtain ⟨g, hg⟩ := hb.kbn
  exact pe_imp (pe_methK ho cf.cls hM F hr hg (flat_passes tk fl) ha hkw hall hks hpl hes ht) fun σV H Q w => methK_use (k := k) fl cf hn hnp hd (fun σV H m σ h H0 Q kk post L C w q => tA.use L C w q) w
theorem snd_methK0 {np c k n nk : Nat} {f : Fn} {fa : Addr} {fd : FuncData} {ps ks : List Str} {dfl : List D} {dv : List V} {ix : List Nat} {pl : Sem Bool} (F : FnOk X.prog X.w X.K X.mg X.base (L2.CX X.prog X.w) k fa fd ps (spI X.K cl np f)) (hr : Room k X.A) (tk : Takes X W) (fl : Flat W) (cf : CF X.K cl c) (hM : Meth X.K (cl.adr c) mt fa) (hn : mt ∉ cl.fld c)
    (hb : BindX X.K fd ps n ks dv ix) (hnp : ∀ l : List V, l.length = n + (dv.length + nk) → (pick ix l).length = np) (hd : ∀ H m, RDs X.K cl H m dfl dv) (hnk : ks.length = nk)
    (ho : PE X o (tE X.K cl W eo)) (hkw : PK X kws (tA X.K cl W ak))
    (hall : (backToKw pos (keywordEach kws X.env)).all (·.1.isSome) = true := by rfl) (hks : (backToKw pos (keywordEach kws X.env)).filterMap (·.1) = ks := by rfl)
    (hpl : ((backTo pos (starEach [] X.env)).any (·.1) || (backToKw pos (keywordEach kws X.env)).any (·.1.isNone)) = false := by rfl)
    (ht : eval (.Call (.Attribute o mt apos) [] kws pos) X.env = (do
      let ov ← eval o X.env
      standAt apos.atName
      let (f, first) ← holding [ov] (getMethod ov mt pl)
      callWith pos f first (backTo pos (starEach [] X.env)) (backToKw pos (keywordEach kws X.env))) := by rfl) :
    PE X (.Call (.Attribute o mt apos) [] kws pos) (tE X.K cl W (eMethK [c] n nk dfl ix f eo aNil ak)) := by
  subst hnk
  obtain ⟨g, hg⟩ := hb.kbn
  exact pe_imp (pe_methK0 ho cf.cls hM F hr hg (flat_passes tk fl) hkw hall hks hpl ht) fun σV H Q w => methK_use (k := k) (ae := aNil) fl cf hn hnp hd (fun σV H m σ h H0 Q kk post L C w q => q [] h m H [] Ext.refl L C .nil w) w
end
end IP

namespace IP
open PySem PySem.Spec PyProof.Rows L2
/-! ### which slots a target touches -/
/-- alike but at these slots -/
def Sm (ws : List Nat) (σ σ' : L2.St) : Prop := σ'.length = σ.length ∧ ∀ i, i ∉ ws → σ'[i]? = σ[i]?
theorem Sm.refl {ws : List Nat} {σ : L2.St} : Sm ws σ σ := ⟨rfl, fun _ _ => rfl⟩
theorem Sm.trans {ws : List Nat} {σ σ1 σ2 : L2.St} (a : Sm ws σ σ1) (b : Sm ws σ1 σ2) : Sm ws σ σ2 := ⟨b.1.trans a.1, fun i h => (b.2 i h).trans (a.2 i h)⟩
theorem Sm.wide {ws us : List Nat} {σ σ1 : L2.St} (a : Sm ws σ σ1) (h : ∀ i ∈ ws, i ∈ us) : Sm us σ σ1 := ⟨a.1, fun i hi => a.2 i fun z => hi (h i z)⟩
theorem wipe_at {σ : L2.St} : ∀ {ws : List Nat} {i : Nat}, (L2.wipe σ ws)[i]? = if i ∈ ws then (if i < σ.length then some none else none) else σ[i]?
  | [], i => by simp [L2.wipe]
  | v :: ws, i => by
    show ((L2.wipe σ ws).set v none)[i]? = _
    by_cases h : v = i
    · subst h
      by_cases hl : v < σ.length
      · rw [List.getElem?_set_self (by rw [L2.wipe_length]; exact hl)]
        simp [hl]
      · rw [List.getElem?_eq_none (by rw [List.length_set, L2.wipe_length]; omega)]
        simp [hl]
    · rw [List.getElem?_set_ne h, wipe_at]
      have e : (i ∈ v :: ws) = (i ∈ ws) := by simp [Ne.symm h]
      simp only [e]
theorem Sm.wipe {ws : List Nat} {σ σ' : L2.St} (h : Sm ws σ σ') : L2.wipe σ' ws = L2.wipe σ ws := by
  apply List.ext_getElem?
  intro i
  rw [wipe_at, wipe_at, h.1]
  by_cases hi : i ∈ ws
  · rw [if_pos hi, if_pos hi]
  · rw [if_neg hi, if_neg hi, h.2 i hi]
theorem Sm.set {i : Nat} {σ : L2.St} {o : Option V} : Sm [i] σ (σ.set i o) := ⟨by simp, fun j h => by
  have ne : i ≠ j := fun z => h (by simp [z])
  rw [List.getElem?_set_ne ne]⟩
/-- nothing is raised -/
abbrev F0 : XW := fun _ _ _ _ => False
abbrev W0 : WX := fun _ _ _ _ => False
theorem flat0 : Flat W0 := fun _ _ _ _ _ h => h
section
variable (K : PySem.W.Frag) (cl : Cl)
def tH (ws : List Nat) (g : G) : TG := fun v σV H Q => ∃ m d σ h H0, Lc K cl m H0 H σ σV ∧ Hc K cl m h H ∧ RD K cl H m d v ∧ WP K cl F0 m H (g d σ h) fun σ' h' m' H' => ∀ σV', Lc K cl m' H0 H' σ' σV' → Sm ws σV σV' → Q σV' H'
def tHs (ws : List Nat) (g : List D → Lo → Hp → R Lo) : TGs := fun vs σV H Q => ∃ m ds σ h H0, Lc K cl m H0 H σ σV ∧ Hc K cl m h H ∧ RDs K cl H m ds vs ∧ WP K cl F0 m H (g ds σ h) fun σ' h' m' H' => ∀ σV', Lc K cl m' H0 H' σ' σV' → Sm ws σV σV' → Q σV' H'
end
theorem WP.of0 {α : Type} {K : PySem.W.Frag} {cl : Cl} {X : XW} {m : Mp} {H : L2.Hp} {r : R α} {post : α → Hp → Mp → L2.Hp → Prop} (w : WP K cl F0 m H r post) : WP K cl X m H r post := w.xi fun _ _ _ _ q => q.elim
section
variable {X : Cx} {cl : Cl} {pos : Pos} {o i : Expr} {eo ei : E} {f : Str} {cs : List Nat} {fi : Nat}
theorem sng_name {i : Nat} {x : Str} (hN : X.N.Nodup) (hi : X.N[i]? = some x) (hx : Loc X.env.scope x) (hf : X.fn x = true ∨ X.env.scope.names.lookup x = some .local := by first | exact .inl rfl | exact .inr rfl | assumption) : PG X (.Name x pos) (tH X.K cl [i] (gLoc i)) :=
  pg_imp (pg_name hN hi hx hf) fun v σV H Q ⟨m, d, σ, h, H0, L, C, r, w⟩ => WP.ok (a := σ.set i (some d)) (h := h) w C _ (L.set r) Sm.set
theorem sngs_nil : PGs X [] (tHs X.K cl [] gNil) :=
  pgs_imp pgs_nil fun vs σV H Q ⟨m, ds, σ, h, H0, L, C, r, w⟩ => by
    cases r with
    | nil => exact ⟨rfl, WP.ok (a := σ) (h := h) w C _ L Sm.refl⟩
    | cons a r => exact w.elim
theorem sngs_cons {ws us : List Nat} {e : Expr} {es : List Expr} {g : G} {r : List D → Lo → Hp → R Lo} (h1 : PG X e (tH X.K cl ws g)) (h2 : PGs X es (tHs X.K cl us r))
    (hs : (assignEach (e :: es) X.env).map (·.2) = assign e X.env :: (assignEach es X.env).map (·.2) := by rfl) : PGs X (e :: es) (tHs X.K cl (ws ++ us) (gCons g r)) :=
  pgs_imp (pgs_cons h1 h2 hs) fun vs σV H Q ⟨m, ds, σ, h, H0, L, C, rs, w⟩ => by
    cases rs with
    | nil => exact w.elim
    | @cons d ds v vs a rs =>
      refine ⟨v, vs, rfl, m, d, σ, h, H0, L, C, a, (WP.bnd w).imp fun σ1 h1 m1 H1 e1 C1 w1 σV1 L1 s1 => ?_⟩
      refine ⟨m1, ds, σ1, h1, H0, L1, C1, rs.up e1, w1.imp fun σ2 h2 m2 H2 e2 C2 q σV2 L2 s2 => q σV2 L2 ((s1.wide fun i hi => List.mem_append_left _ hi).trans (s2.wide fun i hi => List.mem_append_right _ hi))⟩
theorem sng_tup {ws : List Nat} {es : List Expr} {k n : Nat} {r : List D → Lo → Hp → R Lo} (hc : X.calm = true) (hp : PGs X es (tHs X.K cl ws r))
    (hn : (assignEach es X.env).length = n := by rfl) (hst : (assignEach es X.env).findIdx? (·.1) = none := by rfl) : PG X (.Tuple es k pos) (tH X.K cl ws (gTup n r)) :=
  pg_imp (pg_tup hc hp hn hst) fun v σV H Q ⟨m, d, σ, h, H0, L, C, rd, w⟩ => by
    cases rd with
    | @tup a xs vs q rs =>
      obtain ⟨c, w⟩ := WP.grd w
      exact ⟨_, vs, rfl, .inl (.inl q), by rw [← rs.length]; simpa using c, m, xs, σ, h, H0, L, C, rs, w⟩
    | @ctp a xs vs q rs =>
      obtain ⟨c, w⟩ := WP.grd w
      exact ⟨_, vs, rfl, q H, by rw [← rs.length]; simpa using c, m, xs, σ, h, H0, L, C, rs, w⟩
    | _ => exact w.elim
/-- o.f as a target -/
def tgF (K : PySem.W.Frag) (ta : TE) (f : Str) : TG := fun v σ H Q => ta σ H fun x H2 => ∃ a C dx fs, x = .ref a ∧ H2 a = some (.ins C dx fs) ∧ Cls K C ∧ NoAttr K C f ∧ fs.length < 1000 ∧ Q σ (upd H2 a (.ins C dx (putF f v fs)))
theorem pg_fld {ta : TE} (ha : PE X o ta) : PG X (.Attribute o f pos) (tgF X.K ta f) := by
  refine ⟨fun pins s σ H v u Q I r h => ?_⟩
  rw [arm_assign_Attribute]
  refine wpAny_bind (wpAny_holding (thn (ha.run pins s σ H _ I h) fun ov s1 ⟨x, H1, I1, rx, a, C, dx, fs, ex, ea, c, n, l, q⟩ => ?_))
  subst ex
  obtain rfl : ov = Value.ref a := rx
  refine wpAny_bind (wpAny_standAt (wpAny_bind (wpAny_holding (setattr_ok I1 ea c n l r fun s2 I2 => ?_))))
  exact wpAny_release ⟨σ, _, I2, q⟩
theorem setF_of {K : PySem.W.Frag} {m : Mp} {h : Hp} {H : L2.Hp} {x d : D} {v u : V} {E : XW} {post : D → Hp → Mp → L2.Hp → Prop} (cf : ∀ c ∈ cs, CF K cl c) (hf : ∀ c ∈ cs, (cl.fld c)[fi]? = some f) (C : Hc K cl m h H) (r : RD K cl H m x v) (rd : RD K cl H m d u) (w : WP K cl E m H (fSetF cs fi x d h) post) :
    ∃ a c dx fs h', v = .ref a ∧ H a = some (.ins (cl.adr c) dx fs) ∧ c ∈ cs ∧ fs.length < 1000 ∧ Ext m m H (upd H a (.ins (cl.adr c) dx (putF f u fs))) ∧ Hc K cl m h' (upd H a (.ins (cl.adr c) dx (putF f u fs))) ∧ post .non h' m (upd H a (.ins (cl.adr c) dx (putF f u fs))) := by
  cases r <;> first | (exact w.elim) | skip
  rename_i k n a hm
  unfold fSetF at w
  cases q : h.get k n with
  | none => simp only [q] at w; exact w.elim
  | some ob =>
    simp only [q] at w
    match ob, w with
    | .ins c fs, w =>
      obtain ⟨hc, w⟩ := WP.grd w
      rw [Bool.and_eq_true] at hc
      have hc' : c ∈ cs := List.contains_iff_mem.mp hc.1
      obtain ⟨dx, fv, hH, rf⟩ := C.obj k n _ a q hm
      have ex : Ext m m H (upd H a (.ins (cl.adr c) dx (putF f u fv))) := Ext.wr hm hH trivial
      have C2 := C.put (ob := .ins c (fs.set fi (some d))) q hm ex.imm ⟨dx, _, upd_same, (rf.set (cf c hc') (hf c hc') rd).upI ex.imm⟩ ⟨_, hH, trivial⟩
      exact ⟨a, c, dx, fv, _, rfl, hH, hc', Nat.lt_succ_of_lt (rf.short (cf c hc')), ex, C2, w m _ ex C2⟩
theorem sng_fld (cf : ∀ c ∈ cs, CF X.K cl c) (hf : ∀ c ∈ cs, (cl.fld c)[fi]? = some f) (ho : PE X o (tE X.K cl W0 eo)) : PG X (.Attribute o f pos) (tH X.K cl [] (gFld cs fi eo)) :=
  pg_imp (pg_fld ho) fun v σV H Q ⟨m, d, σ, h, H0, L, C, rd, w⟩ => by
    have w0 : WP X.K cl (wx X.K cl W0 σV) m H (gFld cs fi eo d σ h) _ := w.of0
    exact tE.use L C w0 fun x h1 m1 H1 v1 e1 L1 C1 r1 w1 => by
      obtain ⟨a, c, dx, fs, h', rfl, hH, hc, hl, ex, C2, w2⟩ := setF_of cf hf C1 r1 (rd.up e1) w1.bnd
      exact ⟨a, _, dx, fs, rfl, hH, (cf c hc).cls, (cf c hc).no f (List.mem_of_getElem? (hf c hc)), hl, WP.ok (a := σ) (h := h') w2 C2 σV (L1.up ex) Sm.refl⟩
/-- o[i] as a target, a dict -/
def stD : TSet := fun x y v H Q => ∃ a H4, x = .ref a ∧ DPut H a y v H4 ∧ Q H4
theorem set_dict (hu : X.A.units + 1 < cLine) : PSet X stD := fun pins s σ H o i v ov iv u Q I ro ri rv h => by
  obtain ⟨a, H4, rfl, g, q⟩ := h
  obtain rfl : ov = Value.ref a := ro
  exact d_setItem hu I g ri rv fun s4 I4 => ⟨H4, I4, q⟩
theorem put_of {K : PySem.W.Frag} {m : Mp} {h : Hp} {H : L2.Hp} {x k d : D} {v u zv : V} {E : XW} {post : D → Hp → Mp → L2.Hp → Prop} (C : Hc K cl m h H) (r : RD K cl H m x v) (rk : RD K cl H m k u) (rd : RD K cl H m d zv) (w : WP K cl E m H (fPut x k d h) post) :
    ∃ a H' h', v = .ref a ∧ DPut H a u zv H' ∧ Ext m m H H' ∧ Hc K cl m h' H' ∧ post .non h' m H' := by
  obtain ⟨p, e, w⟩ := WP.opt w
  obtain ⟨hk, w⟩ := WP.grd w
  rw [Bool.and_eq_true] at hk
  obtain ⟨a, rfl, hm, hg, ⟨et, kvs, z, rr⟩ | ⟨et, kvs, z, rr⟩⟩ := wdAt_of C r e
  · rw [et] at hk w hg
    obtain ⟨k', rfl, rfl⟩ := isK_of rk hk.1
    have hl : kvs.length < sizeLine := by rw [← rr.length]; exact line2 (of_decide_eq_true hk.2)
    have ex : Ext m m H (upd H a (.dK (putK kvs k' zv))) := Ext.wr hm z trivial
    have C2 := C.put (ob := .dct false false (putR (kD k') d p.2.2.2)) hg hm ex.imm ⟨_, upd_same, (rr.put k' rd).upI ex.imm⟩ ⟨_, z, trivial⟩
    exact ⟨a, _, _, rfl, .k z hl, ex, C2, w m _ ex C2⟩
  · rw [et] at hk w hg
    obtain ⟨ks, b, rfl, rfl, eb⟩ := isT_of rk hk.1
    have hl : kvs.length < sizeLine := by rw [← rr.length]; exact line2 (of_decide_eq_true hk.2)
    have ex : Ext m m H (upd H a (.dT (putK kvs ks zv))) := Ext.wr hm z trivial
    have C2 := C.put (ob := .dct true false (putR (.tup (ks.map kD)) d p.2.2.2)) hg hm ex.imm ⟨_, upd_same, (rr.put ks rd).upI ex.imm⟩ ⟨_, z, trivial⟩
    exact ⟨a, _, _, rfl, .t z eb hl, ex, C2, w m _ ex C2⟩
theorem sng_sub (hu : X.A.units + 1 < cLine) (ho : PE X o (tE X.K cl W0 eo)) (hi : PE X i (tE X.K cl W0 ei))
    (ha : ∀ v, assign (.Subscript o i pos) X.env v = (do
      let ov ← holding [v] (eval o X.env)
      let iv ← holding [v, ov] (eval i X.env)
      standAt pos
      holding [v, ov, iv] (setItem ov iv v)
      release [v, ov, iv] []) := by intro _; rfl) : PG X (.Subscript o i pos) (tH X.K cl [] (IP.gSub eo ei)) :=
  pg_imp (pg_sub ho hi (set_dict hu) ha) fun v σV H Q ⟨m, d, σ, h, H0, L, C, rd, w⟩ => by
    have w0 : WP X.K cl (wx X.K cl W0 σV) m H (IP.gSub eo ei d σ h) _ := w.of0
    exact tE.use L C w0 fun x h1 m1 H1 v1 e1 L1 C1 r1 w1 => tE.use L1 C1 w1 fun y h2 m2 H2 v2 e2 L2' C2 r2 w2 => by
      obtain ⟨a, H', h', rfl, g, ex, C3, w3⟩ := put_of C2 (r1.up e2) r2 ((rd.up e1).up e2) w2.bnd
      exact ⟨a, H', rfl, g, WP.ok (a := σ) (h := h') w3 C3 σV (L2'.up ex) Sm.refl⟩
end
end IP

namespace IP
open PySem PySem.Spec PyProof.Rows L2
/-! ### what is walked -/
/-- the iterator hands out these -/
def Wk (K : PySem.W.Frag) (cl : Cl) (J : It) (m : Mp) (xs : List D) (H0 : L2.Hp) : Prop := ∀ (i : Nat) (m' : Mp) (H : L2.Hp), Ex2 m m' H0 H →
  (∀ x, xs[i]? = some x → J.go i H ∧ ∀ v H', J.yld i H v H' → Ext m' m' H H' ∧ (∀ h, Hc K cl m' h H → Hc K cl m' h H') ∧ RD K cl H' m' x v) ∧ (i = xs.length → J.stop i H)
def tI (K : PySem.W.Frag) (cl : Cl) (W : WX) (i : A) : TI := fun σV H R => ∃ m σ h H0, Lc K cl m H0 H σ σV ∧ Hc K cl m h H ∧ WP K cl (wx K cl W σV) m H (i σ h) fun xs h' m' H' => ∀ J, Wk K cl J m' xs H' → R J H'
section
variable {K : PySem.W.Frag} {cl : Cl} {m : Mp} {H : L2.Hp} {xs ys : List D} {vs us : List V} {a b : Addr}
theorem RDs.upE {m' : Mp} {H' : L2.Hp} (r : RDs K cl H m xs vs) (e : Ex2 m m' H H') : RDs K cl H' m' xs vs := r.upI e.imm
/-- a walk by items that stand -/
theorem wk_at {J : It} {n : Nat} {G : L2.Hp → Prop} {Y : Nat → L2.Hp → V → L2.Hp → Prop} (w : Walk J n G Y) (hn : xs.length = n) (hG : ∀ m' H', Ex2 m m' H H' → G H')
    (hY : ∀ i x m' H1 v H', Ex2 m m' H H1 → xs[i]? = some x → Y i H1 v H' → Ext m' m' H1 H' ∧ (∀ h, Hc K cl m' h H1 → Hc K cl m' h H') ∧ RD K cl H' m' x v) : Wk K cl J m xs H := fun i m' H' e => by
  refine ⟨fun x hx => ?_, fun hi => ?_⟩
  · have hl : i < n := hn ▸ (List.getElem?_eq_some_iff.mp hx).1
    exact ⟨w.goes i H' hl (hG m' H' e), fun v H2 y => hY i x m' H' v H2 e hx (w.yields i H' v H2 hl (hG m' H' e) y)⟩
  · rw [hi, hn]
    exact w.stops H' (hG m' H' e)
theorem wk_same {J : It} {G : L2.Hp → Prop} (w : Walk J vs.length G (YAt vs)) (r : RDs K cl H m xs vs) (hG : ∀ m' H', Ex2 m m' H H' → G H') : Wk K cl J m xs H :=
  wk_at w r.length hG fun i x m' H1 v H' e hx y => by
    obtain ⟨rfl, hv⟩ := y
    obtain ⟨u, hu, ru⟩ := (r.upE e).get hx
    rw [hv] at hu
    cases hu
    exact ⟨Ext.refl, fun _ c => c, ru⟩
theorem wk_list {o : Obj} (q : H a = some (.frz o (.lst vs))) (r : RDs K cl H m xs vs) : Wk K cl (Itl K a) m xs H := wk_same walk_list r fun m' H' e => .inl (.inr ⟨o, e.frz _ _ _ q⟩)
theorem wk_tup (q : H a = some (.tup vs)) (r : RDs K cl H m xs vs) : Wk K cl (Itt K a) m xs H := wk_same walk_tup r fun m' H' e => .inl (.inl (e.tup _ _ q))
theorem wk_ctp (q : ∀ H, SqT K H a vs) (r : RDs K cl H m xs vs) : Wk K cl (Itt K a) m xs H := wk_same walk_tup r fun m' H' e => q H'
theorem wk_keys {o : Obj} {rows : List (D × D)} {kvs : List (Key × V)} (q : H a = some (.frz o (.dK kvs))) (r : RKs K cl H m rows kvs) : Wk K cl (Itk a o kvs) m (rows.map Prod.fst) H :=
  wk_at walk_keys (by rw [List.length_map]; exact r.length) (fun m' H' e => e.frz _ _ _ q) fun i x m' H1 v H' e hx y => by
    obtain ⟨rfl, k, u, e1, rfl⟩ := y
    rw [r.keys, List.map_map, List.getElem?_map, e1] at hx
    cases hx
    refine ⟨Ext.refl, fun _ c => c, ?_⟩
    cases k
    · exact .int _
    · exact .str _
theorem RTs.keyAt {rows : List (D × D)} {kvs : List (List Key × V)} (r : RTs K cl H m rows kvs) : ∀ {i : Nat} {k : List Key} {v : V} {x : D}, kvs[i]? = some (k, v) → (rows.map Prod.fst)[i]? = some x → x = .tup (k.map kD) := by
  induction rows generalizing kvs with
  | nil => intro i k v x _ h; simp at h
  | cons p rows ih =>
    intro i k v x h1 h2
    cases r with
    | cons a r =>
      cases i with
      | zero => simp at h1 h2; rw [← h2, h1.1]
      | succ i => exact ih r (by simpa using h1) (by simpa using h2)
theorem RDs.ofKeys {m' : Mp} {H' : L2.Hp} : ∀ ks : List Key, RDs K cl H' m' (ks.map kD) (ks.map kV)
  | [] => .nil
  | .inl i :: ks => .cons (.int i) (RDs.ofKeys ks)
  | .inr i :: ks => .cons (.str i) (RDs.ofKeys ks)
theorem wk_keysT {o : Obj} {rows : List (D × D)} {kvs : List (List Key × V)} (q : H a = some (.frz o (.dT kvs))) (r : RTs K cl H m rows kvs) : Wk K cl (Itkt a o kvs) m (rows.map Prod.fst) H :=
  wk_at walk_keysT (by rw [List.length_map]; exact r.length) (fun m' H' e => e.frz _ _ _ q) fun i x m' H1 v H' e hx y => by
    obtain ⟨rfl, k, u, b, e1, rfl, e2⟩ := y
    obtain rfl := r.keyAt e1 hx
    exact ⟨Ext.refl, fun _ c => c, .tup e2 (.ofKeys k)⟩
theorem wk_vals {o : Obj} {rows : List (D × D)} {kvs : List (Key × V)} (q : H a = some (.frz o (.dK kvs))) (r : RKs K cl H m rows kvs) : Wk K cl (Itd a o kvs) m (rows.map Prod.snd) H :=
  wk_at walk_values (by rw [List.length_map]; exact r.length) (fun m' H' e => e.frz _ _ _ q) fun i x m' H1 v H' e hx y => by
    obtain ⟨rfl, k, e1⟩ := y
    refine ⟨Ext.refl, fun _ c => c, ?_⟩
    have key : ∀ {rows : List (D × D)} {kvs : List (Key × V)} {i : Nat}, RKs K cl H m rows kvs → kvs[i]? = some (k, v) → (rows.map Prod.snd)[i]? = some x → RD K cl H m x v := by
      intro rows
      induction rows with
      | nil => intro kvs i _ _ h; simp at h
      | cons p rows ih =>
        intro kvs i r h1 h2
        cases r with
        | cons a r =>
          cases i with
          | zero =>
            simp at h1 h2
            obtain ⟨_, rfl⟩ := h1
            subst h2
            exact a
          | succ i => exact ih r (by simpa using h1) (by simpa using h2)
    exact (key r e1 hx).upI e.imm
theorem wk_str {s : Str} : Wk K cl (Its s) m (s.cps.toList.map fun c => D.str ⟨#[c]⟩) H :=
  wk_at walk_str (by simp) (fun _ _ _ => trivial) fun i x m' H1 v H' e hx y => by
    obtain ⟨rfl, c, e1, rfl⟩ := y
    rw [List.getElem?_map] at hx
    have e2 : s.cps.toList[i]? = some c := by simpa using e1
    rw [e2] at hx
    cases hx
    exact ⟨Ext.refl, fun _ c => c, .str _⟩
theorem rng_at : ∀ (n : Nat) (lo : Int) (i : Nat), (rng lo n)[i]? = if i < n then some (D.int (lo + i)) else none
  | 0, lo, i => by simp [rng]
  | n + 1, lo, 0 => by simp [rng]
  | n + 1, lo, i + 1 => by
    show (rng (lo + 1) n)[i]? = _
    rw [rng_at n (lo + 1) i]
    by_cases h : i < n
    · rw [if_pos h, if_pos (by omega)]
      congr 2
      omega
    · rw [if_neg h, if_neg (by omega)]
theorem rng_len (n : Nat) (lo : Int) : (rng lo n).length = n := by
  induction n generalizing lo with
  | zero => rfl
  | succ n ih => show (rng (lo + 1) n).length + 1 = n + 1; rw [ih]
theorem wk_rng {lo : Int} {n : Nat} : Wk K cl (Itr lo n) m (rng lo n) H :=
  wk_at walk_range (rng_len n lo) (fun _ _ _ => trivial) fun i x m' H1 v H' e hx y => by
    obtain ⟨rfl, rfl⟩ := y
    rw [rng_at] at hx
    by_cases h : i < n
    · rw [if_pos h] at hx
      cases hx
      exact ⟨Ext.refl, fun _ c => c, .int _⟩
    · rw [if_neg h] at hx
      cases hx
theorem wk_revR {n : Nat} : Wk K cl (Itc ((0 : Int) + (n : Int) - 1) (-1) n) m (rng 0 n).reverse H :=
  wk_at walk_rangeC (by rw [List.length_reverse, rng_len]) (fun _ _ _ => trivial) fun i x m' H1 v H' e hx y => by
    obtain ⟨rfl, rfl⟩ := y
    have hi : i < n := by
      have := (List.getElem?_eq_some_iff.mp hx).1
      rwa [List.length_reverse, rng_len] at this
    rw [List.getElem?_reverse (by rw [rng_len]; exact hi), rng_len, rng_at, if_pos (by omega)] at hx
    cases hx
    have e1 : (0 : Int) + ((n - 1 - i : Nat) : Int) = (0 : Int) + (n : Int) - 1 + (i : Int) * -1 := by omega
    rw [e1]
    exact ⟨Ext.refl, fun _ c => c, .int _⟩
theorem wk_rev {o : Obj} (q : H a = some (.frz o (.lst vs))) (r : RDs K cl H m xs vs) : Wk K cl (Itv K a vs.length) m xs.reverse H :=
  wk_at walk_rev (by rw [List.length_reverse]; exact r.length) (fun m' H' e => .inl (.inr ⟨o, e.frz _ _ _ q⟩)) fun i x m' H1 v H' e hx y => by
    obtain ⟨rfl, hv⟩ := y
    have hi : i < xs.length := by
      have := (List.getElem?_eq_some_iff.mp hx).1
      rwa [List.length_reverse] at this
    rw [List.getElem?_reverse hi] at hx
    obtain ⟨u, hu, ru⟩ := (r.upE e).get hx
    rw [r.length, hv] at hu
    cases hu
    exact ⟨Ext.refl, fun _ c => c, ru⟩
theorem zip_at : ∀ (xs ys : List D) (i : Nat) (z : D), (zipD xs ys)[i]? = some z → ∃ x y, xs[i]? = some x ∧ ys[i]? = some y ∧ z = .tup [x, y]
  | [], _, i, z, h => by simp [zipD] at h
  | _ :: _, [], i, z, h => by simp [zipD] at h
  | x :: xs, y :: ys, 0, z, h => by
    have e : D.tup [x, y] = z := by simpa [zipD] using h
    exact ⟨x, y, rfl, rfl, e.symm⟩
  | x :: xs, y :: ys, i + 1, z, h => by
    obtain ⟨u, w, h1, h2, h3⟩ := zip_at xs ys i z (by simpa [zipD] using h)
    exact ⟨u, w, by simpa using h1, by simpa using h2, h3⟩
theorem zip_len : ∀ (xs ys : List D), (zipD xs ys).length = min xs.length ys.length
  | [], ys => by simp [zipD]
  | x :: xs, [] => by simp [zipD]
  | x :: xs, y :: ys => by
    show (zipD xs ys).length + 1 = min (xs.length + 1) (ys.length + 1)
    rw [zip_len xs ys]
    omega
theorem wk_zip {o p : Obj} (q : H a = some (.frz o (.lst vs))) (r : RDs K cl H m xs vs) (q2 : H b = some (.frz p (.lst us))) (r2 : RDs K cl H m ys us) : Wk K cl (Itz K a b) m (zipD xs ys) H :=
  wk_at (walk_zip (n := min vs.length us.length) rfl) (by rw [zip_len, r.length, r2.length]) (fun m' H' e => ⟨.inl (.inr ⟨o, e.frz _ _ _ q⟩), .inl (.inr ⟨p, e.frz _ _ _ q2⟩)⟩) fun i z m' H1 v H' e hz y => by
    obtain ⟨x1, y1, hx, hy, rfl⟩ := zip_at _ _ _ _ hz
    obtain ⟨T, vx, vy, rfl, n, rfl, f1, f2⟩ := y
    obtain ⟨u1, h1, r1'⟩ := (r.upE e).get hx
    obtain ⟨u2, h2, r2'⟩ := (r2.upE e).get hy
    have f1' : vs[i]? = some vx := f1
    have f2' : us[i]? = some vy := f2
    rw [h1] at f1'
    rw [h2] at f2'
    cases f1'
    cases f2'
    have ex : Ext m' m' H1 (upd H1 T (.tup [vx, vy])) := Ext.lay n
    exact ⟨ex, fun h c => c.lay n, .tup upd_same (.cons (r1'.up ex) (.cons (r2'.up ex) .nil))⟩
theorem enm_at : ∀ (xs : List D) (k i : Nat) (z : D), (enmD k xs)[i]? = some z → ∃ x, xs[i]? = some x ∧ z = .tup [.int ((k + i : Nat) : Int), x]
  | [], k, i, z, h => by simp [enmD] at h
  | x :: xs, k, 0, z, h => by
    have e : D.tup [.int (k : Int), x] = z := by simpa [enmD] using h
    exact ⟨x, rfl, e.symm⟩
  | x :: xs, k, i + 1, z, h => by
    obtain ⟨u, h1, h2⟩ := enm_at xs (k + 1) i z (by simpa [enmD] using h)
    exact ⟨u, by simpa using h1, by rw [h2]; congr 4; omega⟩
theorem enm_len : ∀ (xs : List D) (k : Nat), (enmD k xs).length = xs.length
  | [], _ => rfl
  | x :: xs, k => congrArg Nat.succ (enm_len xs (k + 1))
theorem wk_enm {o : Obj} (q : H a = some (.frz o (.lst vs))) (r : RDs K cl H m xs vs) : Wk K cl (Ite K a) m (enmD 0 xs) H :=
  wk_at (walk_enum (xs := vs)) (by rw [enm_len, r.length]) (fun m' H' e => .inl (.inr ⟨o, e.frz _ _ _ q⟩)) fun i z m' H1 v H' e hz y => by
    obtain ⟨x1, hx, rfl⟩ := enm_at _ _ _ _ hz
    obtain ⟨T, vx, vy, rfl, n, rfl, f1, f2⟩ := y
    obtain ⟨u2, h2, r2'⟩ := (r.upE e).get hx
    have f1' : some (V.int (i : Nat)) = some vx := f1
    have f2' : vs[i]? = some vy := f2
    rw [h2] at f2'
    cases f1'
    cases f2'
    have ex : Ext m' m' H1 (upd H1 T (.tup [.int (i : Nat), vy])) := Ext.lay n
    refine ⟨ex, fun h c => c.lay n, .tup upd_same (.cons ?_ (.cons (r2'.up ex) .nil))⟩
    rw [Nat.zero_add]
    exact .int _
end
section
variable {X : Cx} {cl : Cl} {W : WX} {tg e a b : Expr} {ea eb : E} {pos p apos cpos : Pos}
/-- a list, a tuple, a frozen dict, a text, walked -/
theorem pi_case {t1 t2 t3 t4 : TI} (h1 : PI X tg e t1) (h2 : PI X tg e t2) (h3 : PI X tg e t3) (h4 : PI X tg e t4) : PI X tg e (fun σ H R => (t1 σ H R ∨ t2 σ H R) ∨ (t3 σ H R ∨ t4 σ H R)) := ⟨fun pins s σ H R I q => by
  rcases q with (q | q) | (q | q)
  · exact h1.run pins s σ H R I q
  · exact h2.run pins s σ H R I q
  · exact h3.run pins s σ H R I q
  · exact h4.run pins s σ H R I q⟩
def iTupA (K : PySem.W.Frag) (te : TE) : TI := fun σ H R => te σ H fun v H1 => ∃ a vs, v = .ref a ∧ SqT K H1 a vs ∧ R (Itt K a) H1
def iLstA (K : PySem.W.Frag) (te : TE) : TI := fun σ H R => te σ H fun v H1 => ∃ a vs, v = .ref a ∧ SqL K H1 a vs ∧ R (Itl K a) H1
theorem pi_tupA {te : TE} (ha : PE X e te) : PI X tg e (iTupA X.K te) := ⟨fun pins s σV H Rj I w => by
  refine thn (ha.run pins s σV H _ I w) fun u s1 ⟨v, H1, I1, rv, a, vs, ev, q, qr⟩ => ?_
  subst ev
  cases rv
  obtain ⟨us, r0, it, _⟩ := I1.tuple q
  refine wpAny_pyIter_tuple (show s1.heap.IsTuple a us.toArray from it) ?_
  refine ⟨s1.heap.objs.size, [s1.heap.objs.size], _, _, H1, rfl, I1.kept (t' := s1.toks) fun b o z => Heap.get?_push_of_some _ z, turn_tuple a _, ⟨_, Heap.get?_push_size _ rfl, rfl, rfl⟩, fun b hb => ?_, qr⟩
  have z : b = s1.heap.objs.size := List.mem_singleton.mp hb
  rw [z]
  exact I1.fpOk (Nat.le_refl _) I1.fresh⟩
theorem pi_lstA {te : TE} (ha : PE X e te) : PI X tg e (iLstA X.K te) := ⟨fun pins s σV H Rj I w => by
  refine thn (ha.run pins s σV H _ I w) fun u s1 ⟨v, H1, I1, rv, a, vs, ev, q, qr⟩ => ?_
  subst ev
  cases rv
  obtain ⟨us, r0, it, _⟩ := I1.list q
  refine wpAny_pyIter_list it.isList ?_
  refine ⟨s1.heap.objs.size, [s1.heap.objs.size], _, _, H1, rfl, I1.kept (t' := s1.toks) fun b o z => Heap.get?_push_of_some _ z, turn_list a _, ⟨_, Heap.get?_push_size _ rfl, rfl, rfl⟩, fun b hb => ?_, qr⟩
  have z : b = s1.heap.objs.size := List.mem_singleton.mp hb
  rw [z]
  exact I1.fpOk (Nat.le_refl _) I1.fresh⟩
theorem WP.bndE {α β : Type} {K : PySem.W.Frag} {Y : XW} {m : Mp} {H : L2.Hp} {post : α → Hp → Mp → L2.Hp → Prop} {r : R β} {f : β → Hp → R α} (w : WP K cl Y m H (r.bnd f) post) : WP K cl Y m H r fun a h m' H' => r = .ok a h ∧ WP K cl Y m' H' (f a h) post := by
  cases r with
  | ok a h => exact fun m' H' e c => ⟨rfl, WP.up w e⟩
  | exc c p h => exact w
  | no => exact w
theorem tE.useE {α : Type} {K : PySem.W.Frag} {σV : L2.St} {H H0 : L2.Hp} {m : Mp} {σ : Lo} {h : Hp} {e : E} {k : D → Hp → R α} {post : α → Hp → Mp → L2.Hp → Prop} {Q : VK} (L : Lc K cl m H0 H σ σV) (C : Hc K cl m h H) (w : WP K cl (wx K cl W σV) m H ((e σ h).bnd k) post)
    (q : ∀ d h1 m1 H1 v, e σ h = .ok d h1 → Ext m m1 H H1 → Lc K cl m1 H0 H1 σ σV → Hc K cl m1 h1 H1 → RD K cl H1 m1 d v → WP K cl (wx K cl W σV) m1 H1 (k d h1) post → Q v H1) : tE K cl W e σV H Q :=
  ⟨m, σ, h, H0, L, C, (WP.bndE w).imp fun d h1 m1 H1 e1 C1 w1 v r => q d h1 m1 H1 v w1.1 e1 (L.up e1) C1 r w1.2⟩
/-- of what form it is -/
def isTupD : D → Bool
  | .tup _ => true
  | .ctp _ => true
  | _ => false
def isLstD : D → Bool
  | .lst _ => true
  | _ => false
def isDctD : D → Bool
  | .dct _ _ => true
  | _ => false
theorem sni_seq (ha : PE X e (tE X.K cl W ea)) : PI X tg e (tI X.K cl W (iSeq ea)) :=
  pi_imp (pi_case (pi_tupA ha) (pi_lstA ha) (pi_keys ha) (pi_str ha)) fun σV H Rj ⟨m, σ, h, H0, L, C, w⟩ => by
    cases q : ea σ h with
    | ok d h1 =>
      by_cases c1 : isTupD d = true
      · refine .inl (.inl (tE.useE L C w fun d2 h2 m1 H1 v eq e1 L1 C1 r1 w1 => ?_))
        rw [q] at eq
        cases eq
        obtain ⟨xs, ex, w1⟩ := WP.opt w1
        cases r1 <;> first | (cases c1; done) | skip
        · rename_i a ys vs qa r
          cases ex
          exact ⟨a, vs, rfl, .inl (.inl qa), WP.ok w1 C1 _ (wk_tup qa r)⟩
        · rename_i a ys vs qa r
          cases ex
          exact ⟨a, vs, rfl, qa H1, WP.ok w1 C1 _ (wk_ctp qa r)⟩
      by_cases c2 : isLstD d = true
      · refine .inl (.inr (tE.useE L C w fun d2 h2 m1 H1 v eq e1 L1 C1 r1 w1 => ?_))
        rw [q] at eq
        cases eq
        obtain ⟨xs, ex, w1⟩ := WP.opt w1
        cases r1 <;> first | (cases c2; done) | skip
        rename_i a o ys vs qa r
        cases ex
        exact ⟨a, vs, rfl, .inl (.inr ⟨o, qa⟩), WP.ok w1 C1 _ (wk_list qa r)⟩
      by_cases c3 : isDctD d = true
      · refine .inr (.inl (tE.useE L C w fun d2 h2 m1 H1 v eq e1 L1 C1 r1 w1 => ?_))
        rw [q] at eq
        cases eq
        obtain ⟨xs, ex, w1⟩ := WP.opt w1
        cases r1 <;> first | (cases c3; done) | skip
        · rename_i a o rows kvs qa f r
          cases ex
          exact ⟨a, o, rfl, .inl ⟨kvs, qa, WP.ok w1 C1 _ (wk_keys qa r)⟩⟩
        · rename_i a o rows kvs qa f r
          cases ex
          exact ⟨a, o, rfl, .inr ⟨kvs, qa, WP.ok w1 C1 _ (wk_keysT qa r)⟩⟩
      · refine .inr (.inr (tE.useE L C w fun d2 h2 m1 H1 v eq e1 L1 C1 r1 w1 => ?_))
        rw [q] at eq
        cases eq
        obtain ⟨xs, ex, w1⟩ := WP.opt w1
        cases r1 <;> first | (cases ex; done) | (exact absurd rfl c1) | (exact absurd rfl c2) | (exact absurd rfl c3) | skip
        rename_i s
        cases ex
        exact ⟨s, rfl, WP.ok w1 C1 _ wk_str⟩
    | exc c p h1 =>
      refine .inl (.inl (tE.useE L C w fun d2 h2 m1 H1 v eq e1 L1 C1 r1 w1 => ?_))
      rw [q] at eq
      cases eq
    | no =>
      refine .inl (.inl (tE.useE L C w fun d2 h2 m1 H1 v eq e1 L1 C1 r1 w1 => ?_))
      rw [q] at eq
      cases eq
theorem okRng_of {j : Int} (h : okRng j = true) : -1000000 ≤ j ∧ j ≤ 1000000 := by
  unfold okRng at h
  simpa only [Bool.and_eq_true, decide_eq_true_eq] using h
theorem sni_rng (hg : Gl X "range") (hm : X.mg "range" = none) (ha : PE X e (tE X.K cl W ea)) (he : starEach [e] X.env = (false, eval e X.env) :: starEach [] X.env := by rfl) : PI X tg (.Call (.Name "range" p) [e] [] pos) (tI X.K cl W (iRng ea)) :=
  pi_imp (pi_range1 hg hm (pa_cons ha pa_nil he) he) fun σV H Rj ⟨m, σ, h, H0, L, C, w⟩ => tE.use L C w fun d h1 m1 H1 v e1 L1 C1 r1 w1 => by
    cases r1 with
    | int j =>
      obtain ⟨c, w2⟩ := WP.grd w1
      have c := okRng_of c
      exact ⟨j, rfl, by omega, by omega, WP.ok w2 C1 _ wk_rng⟩
    | _ => exact w1.elim
theorem sni_rng2 (hg : Gl X "range") (hm : X.mg "range" = none) (ha : PE X a (tE X.K cl W ea)) (hb : PE X b (tE X.K cl W eb)) (he : starEach [a, b] X.env = (false, eval a X.env) :: starEach [b] X.env := by rfl) (he2 : starEach [b] X.env = (false, eval b X.env) :: starEach [] X.env := by rfl)
    (hs : starEach [a, b] X.env = [(false, eval a X.env), (false, eval b X.env)] := by rfl) (hs2 : starEach [b] X.env = [(false, eval b X.env)] := by rfl) : PI X tg (.Call (.Name "range" p) [a, b] [] pos) (tI X.K cl W (iRng2 ea eb)) :=
  pi_imp (pi_range2 hg hm (pa_cons ha (pa_cons hb pa_nil he2) he) hs hs2) fun σV H Rj ⟨m, σ, h, H0, L, C, w⟩ => tE.use L C w fun d h1 m1 H1 v e1 L1 C1 r1 w1 => tE.use L1 C1 w1 fun d2 h2 m2 H2 v2 e2 L2 C2 r2 w2 => by
    cases r1 with
    | int i =>
      cases r2 with
      | int j =>
        obtain ⟨c, w3⟩ := WP.grd w2
        rw [Bool.and_eq_true] at c
        have c1 := okRng_of c.1
        have c2 := okRng_of c.2
        refine ⟨i, j, rfl, ⟨by omega, by omega, by omega, by omega⟩, WP.ok w3 C2 _ wk_rng⟩
      | _ => exact w2.elim
    | _ => exact w2.elim
theorem sni_zip {elts : List Expr} {kk : Nat} {tpos : Pos} (hg : Gl X "zip") (hm : X.mg "zip" = none) (ha : PE X a (tE X.K cl W ea)) (hb : PE X b (tE X.K cl W eb))
    (he : starEach [a, b] X.env = (false, eval a X.env) :: starEach [b] X.env := by rfl) (he2 : starEach [b] X.env = (false, eval b X.env) :: starEach [] X.env := by rfl) (hpl : (backTo pos (starEach [b] X.env)).any (·.1) = false := by rfl) : PI X (.Tuple elts kk tpos) (.Call (.Name "zip" p) [a, b] [] pos) (tI X.K cl W (IP.iZip ea eb)) :=
  pi_imp (pi_zip hg hm (pa_cons ha (pa_cons hb pa_nil he2) he) he hpl) fun σV H Rj ⟨m, σ, h, H0, L, C, w⟩ => tE.use L C w fun d h1 m1 H1 v e1 L1 C1 r1 w1 => tE.use L1 C1 w1 fun d2 h2 m2 H2 v2 e2 L2 C2 r2 w2 => by
    have r3 := r1.up e2
    cases r3 with
    | lst q r =>
      cases r2 with
      | lst q2 rr => exact ⟨_, _, _, _, rfl, .inl (.inr ⟨_, q⟩), .inl (.inr ⟨_, q2⟩), WP.ok w2 C2 _ (wk_zip q r q2 rr)⟩
      | _ => exact w2.elim
    | _ => exact w2.elim
theorem sni_enm {elts : List Expr} {kk : Nat} {tpos : Pos} (hg : Gl X "enumerate") (hm : X.mg "enumerate" = none) (ha : PE X a (tE X.K cl W ea)) (he : starEach [a] X.env = (false, eval a X.env) :: starEach [] X.env := by rfl) : PI X (.Tuple elts kk tpos) (.Call (.Name "enumerate" p) [a] [] pos) (tI X.K cl W (iEnm ea)) :=
  pi_imp (pi_enum hg hm (pa_cons ha pa_nil he) he) fun σV H Rj ⟨m, σ, h, H0, L, C, w⟩ => tE.use L C w fun d h1 m1 H1 v e1 L1 C1 r1 w1 => by
    cases r1 with
    | lst q r => exact ⟨_, _, rfl, .inl (.inr ⟨_, q⟩), WP.ok w1 C1 _ (wk_enm q r)⟩
    | _ => exact w1.elim
theorem sni_rev (hg : Gl X "reversed") (hm : X.mg "reversed" = none) (ha : PE X a (tE X.K cl W ea)) (he : starEach [a] X.env = (false, eval a X.env) :: starEach [] X.env := by rfl) : PI X tg (.Call (.Name "reversed" p) [a] [] pos) (tI X.K cl W (IP.iRev ea)) :=
  pi_imp (pi_reversed hg hm (pa_cons ha pa_nil he) he) fun σV H Rj ⟨m, σ, h, H0, L, C, w⟩ => tE.use L C w fun d h1 m1 H1 v e1 L1 C1 r1 w1 => by
    cases r1 with
    | lst q r => exact ⟨_, _, rfl, .inl (.inr ⟨_, q⟩), WP.ok w1 C1 _ (wk_rev q r)⟩
    | _ => exact w1.elim
end
end IP

namespace IP
open PySem PySem.Spec PyProof.Rows L2
section
variable {X : Cx} {cl : Cl} {W : WX} {pos : Pos}
theorem pts_imp {ifs : List Expr} {t t' : TT} (p : PTs X ifs t) (i : ∀ σ H Q, t' σ H Q → t σ H Q) : PTs X ifs t' := ⟨fun pins s σ H Q I q => p.run pins s σ H Q I (i σ H Q q)⟩
theorem snts_nil : PTs X [] (tT X.K cl W0 IP.tYes) := pts_imp pts_nil fun σV H Q ⟨m, σ, h, H0, L, C, w⟩ => WP.ok (a := true) (h := h) w C
theorem snts_one {c : Expr} {tc : T} (hc : PT X c (tT X.K cl W0 tc)) : PTs X [c] (tT X.K cl W0 tc) := pts_one hc
theorem wipe_wipe {σ : L2.St} {vs : List Nat} : L2.wipe (L2.wipe σ vs) vs = L2.wipe σ vs :=
  Sm.wipe (ws := vs) ⟨L2.wipe_length _ _, fun i hi => by rw [wipe_at, if_neg hi]⟩
theorem calm_ok {α β : Type} {r : R α} {f : α → Hp → R β} {K : PySem.W.Frag} {Y : XW} {m : Mp} {H : L2.Hp} {post : β → Hp → Mp → L2.Hp → Prop} (w : WP K cl Y m H (r.calm.bnd f) post) : ∃ a h, r = .ok a h := by
  cases r with
  | ok a h => exact ⟨a, h, rfl⟩
  | exc c p h => exact w.elim
  | no => exact w.elim
/-- a run that comes through says so anywhere -/
theorem WP.known {α : Type} {K : PySem.W.Frag} {Y : XW} {m : Mp} {H : L2.Hp} {r : R α} {a : α} {h : Hp} (e : r = .ok a h) : WP K cl Y m H r (fun a' h' m' H' => a' = a ∧ h' = h ∧ Ext m m' H H' ∧ Hc K cl m' h H') := by
  rw [e]
  exact fun m' H' e c => ⟨rfl, rfl, e, c⟩
/-- what stands aside stays aside -/
theorem Ext.aside {m m' : Mp} {H H' : L2.Hp} {p : Addr} {u : HO} (e : Ext m m' H H') (f : Free m p) (q : H p = some u) (no : NTb u := by exact fun ps z => by cases z) : Free m' p ∧ H' p = some u := ⟨e.free f (not_emp q no), e.frm p u f no q⟩
/-- [elt for tg in iter if ..] -/
theorem lc_use {ws vs : List Nat} {g : G} {i : A} {t : T} {e : E} (hws : ∀ k ∈ ws, k ∈ vs) {σV : L2.St} {H : L2.Hp} {Q Q' : VK} (hq : ∀ v H, FQ Q v H → Q' v H) (w : tE X.K cl W (eLc vs g i t e) σV H Q) :
    tLc (tI X.K cl W i) (tH X.K cl ws g) (tT X.K cl W0 t) (tE X.K cl W0 e) vs σV H Q' := by
  obtain ⟨m, σ, h, H0, L, C, w⟩ := w
  refine ⟨m, σ, h, H0, L, C, w.bnd.imp fun xs h1 m1 H1 e1 C1 w1 J wk Da nD => ?_⟩
  have nm : Free m1 Da := fun k n z => C1.old k n Da z nD
  refine ⟨fun k n H2 => n = xs.length - k ∧ k ≤ xs.length ∧ ∃ m2 h2 acc accV, Ext m1 m2 H1 H2 ∧ Hc X.K cl m2 h2 H2 ∧ H2 Da = some (.lst accV) ∧ RDs X.K cl H2 m2 acc accV ∧ Free m2 Da ∧
    WP X.K cl (wx X.K cl W σV) m1 H1 ((lcGo g t e (IP.wipe σ vs) (xs.drop k) acc h2).bnd fun ys h => R.ok (D.lst ys) h) (Rt X.K cl Q),
    ⟨xs.length, by simp, Nat.zero_le _, m1, h1, [], [], Ext.lay nD, C1.lay nD, upd_same, .nil, nm, w1⟩, ?_⟩
  rintro k n H2 ⟨rfl, hk, m2, h2, acc, accV, e2, C2, hD, rA, nm2, w2⟩
  have L2' : Lc X.K cl m2 H0 H2 σ σV := (L.up e1).up e2
  by_cases hlt : k < xs.length
  · obtain ⟨wk1, _⟩ := wk k m2 H2 e2.ex2
    obtain ⟨go, yld⟩ := wk1 xs[k] (List.getElem?_eq_getElem hlt)
    have ed : xs.drop k = xs[k] :: xs.drop (k + 1) := List.drop_eq_getElem_cons hlt
    rw [ed] at w2
    refine .inr ⟨go, fun H3 => k + 1 ≤ xs.length ∧ ∃ m2 h2 acc accV, Ext m1 m2 H1 H3 ∧ Hc X.K cl m2 h2 H3 ∧ H3 Da = some (.lst accV) ∧ RDs X.K cl H3 m2 acc accV ∧ Free m2 Da ∧
      WP X.K cl (wx X.K cl W σV) m1 H1 ((lcGo g t e (IP.wipe σ vs) (xs.drop (k + 1)) acc h2).bnd fun ys h => R.ok (D.lst ys) h) (Rt X.K cl Q),
      fun H3 q => ⟨xs.length - (k + 1), by omega, rfl, q.1, q.2⟩, fun x H3 hy => ?_⟩
    obtain ⟨e3, c3, rx⟩ := yld x H3 hy
    obtain ⟨_, hD3⟩ := e3.aside nm2 hD
    have key : ∃ o h3, lcTurn g t e (IP.wipe σ vs) xs[k] h2 = R.ok o h3 := calm_ok (WP.bnd w2)
    obtain ⟨o, h3, key⟩ := key
    have w3 : WP X.K cl (wx X.K cl W σV) m1 H1 ((lcThen (lcGo g t e (IP.wipe σ vs) (xs.drop (k + 1))) acc o h3).bnd fun ys h => R.ok (D.lst ys) h) (Rt X.K cl Q) := by
      have z : lcGo g t e (IP.wipe σ vs) (xs[k] :: xs.drop (k + 1)) acc h2 = lcThen (lcGo g t e (IP.wipe σ vs) (xs.drop (k + 1))) acc o h3 := by
        show (lcTurn g t e (IP.wipe σ vs) xs[k] h2).calm.bnd _ = _
        rw [key]
        rfl
      rw [z] at w2
      exact w2
    have wT := WP.known (cl := cl) (K := X.K) (Y := F0) (m := m2) (H := H3) key
    refine ⟨m2, xs[k], IP.wipe σ vs, h2, H0, (L2'.up e3).wipe vs, c3 h2 C2, rx, wT.bnd.imp fun σ1 h4 m4 H4 e4 C4 w4 σV1 L4 s4 => ⟨(s4.wide hws).wipe.trans wipe_wipe, ?_⟩⟩
    refine ⟨m4, σ1, h4, H0, L4, C4, (w4.bnd).of0.imp fun b h5 m5 H5 e5 C5 w5 => ?_⟩
    have e25 : Ext m2 m5 H3 H5 := e4.trans e5
    cases b with
    | true =>
      refine ⟨m5, σ1, h5, H0, L4.up e5, C5, (WP.bnd w5).of0.imp fun d h6 m6 H6 e6 C6 w6 v r6 => ?_⟩
      obtain ⟨eo, eh, e7, C7⟩ := WP.ok (a := some d) (h := h6) w6 C6
      subst eo eh
      obtain ⟨nm6, hD6⟩ := e7.aside nm2 hD3
      have rA6 : RDs X.K cl H6 m6 acc accV := (rA.up e3).up e7
      obtain ⟨c, w3'⟩ := WP.ite (r := lcGo g t e (IP.wipe σ vs) (xs.drop (k + 1)) (acc ++ [d]) h6) (c := acc.length < bigD) (post := fun ys h m' H' => WP X.K cl (wx X.K cl W σV) m' H' (R.ok (D.lst ys) h) (Rt X.K cl Q)) (WP.bnd w3)
      refine ⟨accV, hD6, by rw [← rA.length]; exact line2 c, hlt, m6, h6, acc ++ [d], accV ++ [v], ((e2.trans e3).trans e7).side nD, C7.side nm6 hD6 trivial, upd_same, (rA6.append (.cons r6 .nil)).upI (Imm.wr hD6 trivial), nm6, ?_⟩
      have back : lcThen (lcGo g t e (IP.wipe σ vs) (xs.drop (k + 1))) acc (some d) h6 = lcGo g t e (IP.wipe σ vs) (xs.drop (k + 1)) (acc ++ [d]) h6 := if_pos c
      rw [back] at w3
      exact w3
    | false =>
      obtain ⟨eo, eh, e7, C7⟩ := WP.ok (a := (none : Option D)) (h := h5) w5 C5
      subst eo eh
      obtain ⟨nm5, hD5⟩ := e7.aside nm2 hD3
      exact ⟨hlt, m5, h5, acc, accV, (e2.trans e3).trans e7, C7, hD5, (rA.up e3).up e7, nm5, w3⟩
  · have hk' : k = xs.length := by omega
    obtain ⟨_, wk2⟩ := wk k m2 H2 e2.ex2
    refine .inl ⟨wk2 hk', hq _ _ (.inr ⟨Da, .lst accV, rfl, hD, trivial, fun ob => ?_⟩)⟩
    rw [List.drop_eq_nil_of_le (by omega)] at w2
    have e5 : Ext m1 m2 H1 (upd H2 Da (.frz ob (.lst accV))) := e2.side nD
    exact w2 m2 _ e5 (C2.side nm2 hD trivial) _ (.lst upd_same (rA.upI (Imm.wr hD trivial)))
theorem snd_lc {ws : List Nat} {g : G} {i : A} {t : T} {e : E} {elt tg iter : Expr} {ifs : List Expr} {scope : Scope} {own : List (Str × Nat)} (hc : X.calm = true) (hN : X.N.Nodup) (hi : PI X tg iter (tI X.K cl W i)) (ok : BlkOk X.N X.env.scope scope own) (hws : ∀ k ∈ ws, k ∈ own.map (·.2))
    (hg : ∀ (s : Shared) (H : L2.Hp) (C : Addr) (cl' : List (Str × Addr)) (fp : List Addr), PG (X.blk s H scope (compEnvC scope cl' C X.env) fp) tg (tH X.K cl ws g)) (ht : ∀ (s : Shared) (H : L2.Hp) (C : Addr) (cl' : List (Str × Addr)) (fp : List Addr), PTs (X.blk s H scope (compEnvC scope cl' C X.env) fp) ifs (tT X.K cl W0 t))
    (he : ∀ (s : Shared) (H : L2.Hp) (C : Addr) (cl' : List (Str × Addr)) (fp : List Addr), PE (X.blk s H scope (compEnvC scope cl' C X.env) fp) elt (tE X.K cl W0 e)) (hs : ∀ x, foldedSetIterable iter X.env x = pure x := by intro _; rfl) :
    PE X (.ListComp elt [⟨tg, iter, ifs, 0⟩] scope pos) (tE X.K cl W (eLc (own.map (·.2)) g i t e)) :=
  pe_imp (pe_fq (pe_lc hc hN hi ok hg ht he hs)) fun _ _ _ w => lc_use hws (fun _ _ z => z) w
end
end IP

namespace IP
open PySem PySem.Spec PyProof.Rows L2
section
variable {X : Cx} {cl : Cl} {W : WX} {pos : Pos}
/-- how a comprehension's dict is handed on -/
def DEnd (K : PySem.W.Frag) (cl : Cl) (kk : List (D × D) → Hp → R D) : Prop := ∀ (Y : XW) (m1 m2 : Mp) (h2 : Hp) (H1 H2 : L2.Hp) (Da : Addr) (ys : List (D × D)) (kvs : List (Key × V)) (Q : VK), H1 Da = none → Free m2 Da → Ext m1 m2 H1 H2 → Hc K cl m2 h2 H2 → H2 Da = some (.dK kvs) → RKs K cl H2 m2 ys kvs → WP K cl Y m1 H1 (kk ys h2) (Rt K cl Q) → FQ Q (.ref Da) H2
theorem dend_val {K : PySem.W.Frag} : DEnd K cl fun ys h => .ok (.dct false ys) h := fun Y m1 m2 h2 H1 H2 Da ys kvs Q n f e C q r w => by
  refine .inr ⟨Da, .dK kvs, rfl, q, trivial, fun ob => ?_⟩
  have ex : Ext m1 m2 H1 (upd H2 Da (.frz ob (.dK kvs))) := e.side n
  exact w m2 _ ex (C.side f q trivial) _ (.dK upd_same f (r.upI (Imm.wr q trivial)))
theorem dend_ref {K : PySem.W.Frag} : DEnd K cl fun ys h => lay 1 (.dct false false ys) h := fun Y m1 m2 h2 H1 H2 Da ys kvs Q n f e C q r w => by
  obtain ⟨hk, w⟩ := WP.ite w
  have hm : m2 1 (h2.len 1) = none := Classical.byContradiction fun z => (C.dom 1 (h2.len 1)).mp z get_len
  have im : Imm m2 (m2.add 1 (h2.len 1) Da) H2 H2 := Imm.adopt q trivial hm
  refine .inl (w _ _ (e.adopt n hm) (C.adopt hk f q trivial ⟨kvs, q, r.upI im⟩) _ (.ref ?_))
  exact if_pos ⟨rfl, rfl⟩
theorem dc_use {ws vs : List Nat} {g : G} {i : A} {t : T} {ek ev : E} {kk : List (D × D) → Hp → R D} (hK : DEnd X.K cl kk) (hws : ∀ k ∈ ws, k ∈ vs) {σV : L2.St} {H : L2.Hp} {Q Q' : VK} (hq : ∀ v H, FQ Q v H → Q' v H)
    (w : tE X.K cl W (fun σ h => (i σ h).bnd fun xs h => (dcGo false g t ek ev (IP.wipe σ vs) xs [] h).bnd kk) σV H Q) :
    tDc (tI X.K cl W i) (tH X.K cl ws g) (tT X.K cl W0 t) (tE X.K cl W0 ek) (tE X.K cl W0 ev) vs σV H Q' := by
  obtain ⟨m, σ, h, H0, L, C, w⟩ := w
  refine ⟨m, σ, h, H0, L, C, w.bnd.imp fun xs h1 m1 H1 e1 C1 w1 J wk Da nD => ?_⟩
  have nm : Free m1 Da := fun k n z => C1.old k n Da z nD
  refine ⟨fun k n H2 => n = xs.length - k ∧ k ≤ xs.length ∧ ∃ m2 h2 acc accV, Ext m1 m2 H1 H2 ∧ Hc X.K cl m2 h2 H2 ∧ H2 Da = some (.dK accV) ∧ RKs X.K cl H2 m2 acc accV ∧ Free m2 Da ∧
    WP X.K cl (wx X.K cl W σV) m1 H1 ((dcGo false g t ek ev (IP.wipe σ vs) (xs.drop k) acc h2).bnd kk) (Rt X.K cl Q),
    ⟨xs.length, by simp, Nat.zero_le _, m1, h1, [], [], Ext.lay nD, C1.lay nD, upd_same, .nil, nm, w1⟩, ?_⟩
  rintro k n H2 ⟨rfl, hk, m2, h2, acc, accV, e2, C2, hD, rA, nm2, w2⟩
  have L2' : Lc X.K cl m2 H0 H2 σ σV := (L.up e1).up e2
  by_cases hlt : k < xs.length
  · obtain ⟨wk1, _⟩ := wk k m2 H2 e2.ex2
    obtain ⟨go, yld⟩ := wk1 xs[k] (List.getElem?_eq_getElem hlt)
    have ed : xs.drop k = xs[k] :: xs.drop (k + 1) := List.drop_eq_getElem_cons hlt
    rw [ed] at w2
    refine .inr ⟨go, fun H3 => k + 1 ≤ xs.length ∧ ∃ m2 h2 acc accV, Ext m1 m2 H1 H3 ∧ Hc X.K cl m2 h2 H3 ∧ H3 Da = some (.dK accV) ∧ RKs X.K cl H3 m2 acc accV ∧ Free m2 Da ∧
      WP X.K cl (wx X.K cl W σV) m1 H1 ((dcGo false g t ek ev (IP.wipe σ vs) (xs.drop (k + 1)) acc h2).bnd kk) (Rt X.K cl Q),
      fun H3 q => ⟨xs.length - (k + 1), by omega, rfl, q.1, q.2⟩, fun x H3 hy => ?_⟩
    obtain ⟨e3, c3, rx⟩ := yld x H3 hy
    obtain ⟨_, hD3⟩ := e3.aside nm2 hD
    obtain ⟨o, h3, key⟩ : ∃ o h3, dcTurn g t ek ev (IP.wipe σ vs) xs[k] h2 = R.ok o h3 := calm_ok (WP.bnd w2)
    have w3 : WP X.K cl (wx X.K cl W σV) m1 H1 ((dcThen false (dcGo false g t ek ev (IP.wipe σ vs) (xs.drop (k + 1))) acc o h3).bnd kk) (Rt X.K cl Q) := by
      have z : dcGo false g t ek ev (IP.wipe σ vs) (xs[k] :: xs.drop (k + 1)) acc h2 = dcThen false (dcGo false g t ek ev (IP.wipe σ vs) (xs.drop (k + 1))) acc o h3 := by
        show (dcTurn g t ek ev (IP.wipe σ vs) xs[k] h2).calm.bnd _ = _
        rw [key]
        rfl
      rw [z] at w2
      exact w2
    have wT := WP.known (cl := cl) (K := X.K) (Y := F0) (m := m2) (H := H3) key
    refine ⟨m2, xs[k], IP.wipe σ vs, h2, H0, (L2'.up e3).wipe vs, c3 h2 C2, rx, wT.bnd.imp fun σ1 h4 m4 H4 e4 C4 w4 σV1 L4 s4 => ⟨(s4.wide hws).wipe.trans wipe_wipe, ?_⟩⟩
    refine ⟨m4, σ1, h4, H0, L4, C4, (w4.bnd).of0.imp fun b h5 m5 H5 e5 C5 w5 => ?_⟩
    have e25 : Ext m2 m5 H3 H5 := e4.trans e5
    cases b with
    | true =>
      refine ⟨m5, σ1, h5, H0, L4.up e5, C5, (WP.bnd w5).of0.imp fun a h6 m6 H6 e6 C6 w6 va ra => ?_⟩
      refine ⟨m6, σ1, h6, H0, (L4.up e5).up e6, C6, (WP.bnd w6).of0.imp fun d h7 m7 H7 e7 C7 w7 vd rd => ?_⟩
      obtain ⟨eo, eh, e8, C8⟩ := WP.ok (a := some (a, d)) (h := h7) w7 C7
      subst eo eh
      obtain ⟨nm7, hD7⟩ := e8.aside nm2 hD3
      have rA7 : RKs X.K cl H7 m7 acc accV := (rA.upI e3.imm).upI e8.imm
      have w3' : WP X.K cl (wx X.K cl W σV) m1 H1 (grd (isKey false a && decide (acc.length < bigD)) (dcGo false g t ek ev (IP.wipe σ vs) (xs.drop (k + 1)) (putR a d acc) h7)) (fun ys h m' H' => WP X.K cl (wx X.K cl W σV) m' H' (kk ys h) (Rt X.K cl Q)) := WP.bnd w3
      obtain ⟨c, _⟩ := WP.grd w3'
      have back : dcThen false (dcGo false g t ek ev (IP.wipe σ vs) (xs.drop (k + 1))) acc (some (a, d)) h7 = dcGo false g t ek ev (IP.wipe σ vs) (xs.drop (k + 1)) (putR a d acc) h7 := by
        show grd (isKey false a && decide (acc.length < bigD)) _ = _
        rw [c]
        rfl
      rw [back] at w3
      rw [Bool.and_eq_true] at c
      obtain ⟨k', rfl, rfl⟩ := isK_of (ra.up e7) c.1
      exact ⟨accV, k', rfl, hD7, by rw [← rA7.length]; exact line2 (of_decide_eq_true c.2), hlt, m7, h7, _, _, ((e2.trans e3).trans e8).side nD, C8.side nm7 hD7 trivial, upd_same, (rA7.put k' rd).upI (Imm.wr hD7 trivial), nm7, w3⟩
    | false =>
      obtain ⟨eo, eh, e7, C7⟩ := WP.ok (a := (none : Option (D × D))) (h := h5) w5 C5
      subst eo eh
      obtain ⟨nm5, hD5⟩ := e7.aside nm2 hD3
      exact ⟨hlt, m5, h5, acc, accV, (e2.trans e3).trans e7, C7, hD5, (rA.upI e3.imm).upI e7.imm, nm5, w3⟩
  · have hk' : k = xs.length := by omega
    obtain ⟨_, wk2⟩ := wk k m2 H2 e2.ex2
    rw [List.drop_eq_nil_of_le (by omega)] at w2
    exact .inl ⟨wk2 hk', hq _ _ (hK _ m1 m2 h2 H1 H2 Da acc accV Q nD nm2 e2 C2 hD rA w2)⟩
theorem snd_dcK {ws : List Nat} {g : G} {i : A} {t : T} {ek ev : E} {kx vx tg iter : Expr} {ifs : List Expr} {scope : Scope} {own : List (Str × Nat)} {kk : List (D × D) → Hp → R D} (hK : DEnd X.K cl kk) (hc : X.calm = true) (hN : X.N.Nodup) (hi : PI X tg iter (tI X.K cl W i)) (ok : BlkOk X.N X.env.scope scope own) (hws : ∀ k ∈ ws, k ∈ own.map (·.2))
    (hg : ∀ (s : Shared) (H : L2.Hp) (C : Addr) (cl' : List (Str × Addr)) (fp : List Addr), PG (X.blk s H scope (compEnvC scope cl' C X.env) fp) tg (tH X.K cl ws g)) (ht : ∀ (s : Shared) (H : L2.Hp) (C : Addr) (cl' : List (Str × Addr)) (fp : List Addr), PTs (X.blk s H scope (compEnvC scope cl' C X.env) fp) ifs (tT X.K cl W0 t))
    (hk : ∀ (s : Shared) (H : L2.Hp) (C : Addr) (cl' : List (Str × Addr)) (fp : List Addr), PE (X.blk s H scope (compEnvC scope cl' C X.env) fp) kx (tE X.K cl W0 ek))
    (he : ∀ (s : Shared) (H : L2.Hp) (C : Addr) (cl' : List (Str × Addr)) (fp : List Addr), PE (X.blk s H scope (compEnvC scope cl' C X.env) fp) vx (tE X.K cl W0 ev)) (hs : ∀ x, foldedSetIterable iter X.env x = pure x := by intro _; rfl) :
    PE X (.DictComp kx vx [⟨tg, iter, ifs, 0⟩] scope pos) (tE X.K cl W (fun σ h => (i σ h).bnd fun xs h => (dcGo false g t ek ev (IP.wipe σ (own.map (·.2))) xs [] h).bnd kk)) :=
  pe_imp (pe_fq (pe_dc hc hN hi ok hg ht hk he hs)) fun _ _ _ w => dc_use hK hws (fun _ _ z => z) w
/-! ### a dict of ours, walked -/
/-- under the lock -/
theorem lk_on {K : PySem.W.Frag} {m : Mp} {h h' : Hp} {H : L2.Hp} {d : D} {v : V} (C : Hc K cl m h H) (r : RD K cl H m d v) (e : setLk true d h = some h') :
    ∃ k n a u t rows, d = .ref k n ∧ v = .ref a ∧ m k n = some a ∧ H a = some u ∧ Mut (some u) ∧ h.get k n = some (.dct t false rows) ∧ ((t = false ∧ ∃ kvs, u = .dK kvs ∧ RKs K cl H m rows kvs) ∨ (t = true ∧ ∃ kvs, u = .dT kvs ∧ RTs K cl H m rows kvs)) ∧
      ∀ od, Ext m m H (upd H a (.frz od u)) ∧ Hc K cl m h' (upd H a (.frz od u)) ∧ h'.get k n = some (.dct t true rows) := by
  cases r <;> first | (cases e; done) | skip
  rename_i k n a hm
  unfold setLk at e
  cases q : h.get k n with
  | none => simp only [q] at e; cases e
  | some ob =>
    simp only [q] at e
    match ob, e, q with
    | .dct t false rows, e, q =>
      have e : some (h.put k n (.dct t true rows)) = some h' := e
      cases e
      have g2 : (h.put k n (.dct t true rows)).get k n = some (.dct t true rows) := by rw [get_put q, if_pos ⟨rfl, rfl⟩]
      have ro := C.obj k n _ a q hm
      cases t
      · obtain ⟨kvs, z, rr⟩ := ro
        refine ⟨k, n, a, .dK kvs, false, rows, rfl, rfl, hm, z, trivial, q, .inl ⟨rfl, kvs, rfl, rr⟩, fun od => ?_⟩
        have ex : Ext m m H (upd H a (.frz od (.dK kvs))) := Ext.wr hm z trivial
        exact ⟨ex, C.put q hm ex.imm ⟨kvs, od, upd_same, rr.upI ex.imm⟩ ⟨_, z, trivial⟩, g2⟩
      · obtain ⟨kvs, z, rr⟩ := ro
        refine ⟨k, n, a, .dT kvs, true, rows, rfl, rfl, hm, z, trivial, q, .inr ⟨rfl, kvs, rfl, rr⟩, fun od => ?_⟩
        have ex : Ext m m H (upd H a (.frz od (.dT kvs))) := Ext.wr hm z trivial
        exact ⟨ex, C.put q hm ex.imm ⟨kvs, od, upd_same, rr.upI ex.imm⟩ ⟨_, z, trivial⟩, g2⟩
    | .dct t true rows, e, q => cases e
theorem lk_off {K : PySem.W.Frag} {m : Mp} {h h' : Hp} {H : L2.Hp} {k n : Nat} {a : Addr} {od : Obj} {u : HO} (C : Hc K cl m h H) (hm : m k n = some a) (hH : H a = some (.frz od u)) (nl : ∀ vs, u ≠ .lst vs) (e : setLk false (.ref k n) h = some h') :
    Imm m m H (upd H a u) ∧ Hc K cl m h' (upd H a u) := by
  have im : Imm m m H (upd H a u) := Imm.unlock hH hm nl
  unfold setLk at e
  cases q : h.get k n with
  | none => simp only [q] at e; cases e
  | some ob =>
    simp only [q] at e
    match ob, e, q with
    | .dct t true rows, e, q =>
      have e : some (h.put k n (.dct t false rows)) = some h' := e
      cases e
      have ro := C.obj k n _ a q hm
      have nt : NTb u := by
        cases t <;> (obtain ⟨kvs, od', z, rr⟩ := ro; rw [hH] at z; cases z; exact fun ps z => by cases z)
      refine ⟨im, C.put q hm im ?_ ⟨_, hH, trivial⟩ nt⟩
      cases t
      · obtain ⟨kvs, od', z, rr⟩ := ro
        rw [hH] at z
        cases z
        exact ⟨kvs, upd_same, rr.upI im⟩
      · obtain ⟨kvs, od', z, rr⟩ := ro
        rw [hH] at z
        cases z
        exact ⟨kvs, upd_same, rr.upI im⟩
    | .dct t false rows, e, q => cases e
/-- .. seen from ahead of the lock -/
theorem Ext.unlock {m m' : Mp} {H H' : L2.Hp} {k n : Nat} {a : Addr} {od : Obj} {u : HO} (hm : m k n = some a) (h0 : H a = some u) (w : Wr u) (e : Ext m m' (upd H a (.frz od u)) H') (hH : H' a = some (.frz od u)) : Ext m m' H (upd H' a u) := by
  have ne : ∀ b x, H b = some x → (∀ v, x ≠ v ∨ ¬ Wr v) → True := fun _ _ _ _ => trivial
  refine ⟨e.pre, fun i j b q => (e.new i j b q).imp id fun z => ?_, fun b xs q => ?_, fun b o x q => ?_, fun b o f nt q => ?_, fun b q => ?_⟩
  · by_cases c : b = a
    · subst c; exact absurd z (not_emp upd_same fun ps z => by cases z)
    · unfold Emp at z; rw [upd_ne c] at z; exact z
  · have c : b ≠ a := ne_of q h0 (by intro z; subst z; exact w)
    rw [upd_ne c]
    exact e.tup b xs (by rw [upd_ne c]; exact q)
  · have c : b ≠ a := ne_of q h0 (by intro z; subst z; exact w)
    rw [upd_ne c]
    exact e.frz b o x (by rw [upd_ne c]; exact q)
  · have c : b ≠ a := fun z => f k n (z ▸ hm)
    rw [upd_ne c]
    exact e.frm b o f nt (by rw [upd_ne c]; exact q)
  · by_cases c : b = a
    · subst c; exact not_emp upd_same w.nt.tb
    · unfold Emp; rw [upd_ne c]
      exact e.old b (by unfold Emp; rw [upd_ne c]; exact q)
/-- reads only -/
def PureE (K : PySem.W.Frag) (cl : Cl) (e : E) : Prop := ∀ (σV : L2.St) (H H0 : L2.Hp) (m : Mp) (σ : Lo) (h : Hp) (d : D) (h' : Hp), Lc K cl m H0 H σ σV → Hc K cl m h H → e σ h = .ok d h' → h' = h ∧ ∃ v, RD K cl H m d v
theorem pure_loc {K : PySem.W.Frag} {i : Nat} : PureE K cl (eLoc i) := fun σV H H0 m σ h d h' L C e => by
  unfold eLoc at e
  rw [nth_eq] at e
  cases q : σ[i]? with
  | none => simp only [q] at e; cases e
  | some o =>
    cases o with
    | none => simp only [q] at e; cases e
    | some d0 =>
      obtain ⟨v, h1, r⟩ := L.loc i d0 q
      by_cases od : isOwn d0 = true
      · cases d0 <;> first | (cases od; done) | (simp only [q] at e; cases e)
      · have od' : isOwn d0 = false := by cases z : isOwn d0 <;> simp_all
        have e' : R.ok d0 h = R.ok d h' := by
          cases d0 <;> first | (cases od'; done) | (simp only [q] at e; exact e)
        cases e'
        exact ⟨rfl, v, r.rd od'⟩
theorem pure_fld {K : PySem.W.Frag} {e : E} {cs : List Nat} {i : Nat} {x : Str} (hf : ∀ c ∈ cs, (cl.fld c)[i]? = some x) (p : PureE K cl e) : PureE K cl (one (fFld cs i) e) := fun σV H H0 m σ h d h' L C q => by
  have q' : (e σ h).bnd (fFld cs i) = .ok d h' := q
  cases z : e σ h with
  | ok d0 h0 =>
    obtain ⟨rfl, v, r⟩ := p _ _ _ _ _ _ _ _ L C z
    rw [z] at q'
    have q2 : opt (fldAt cs i d0 h0) (fun d => R.ok d h0) = .ok d h' := q'
    cases e1 : fldAt cs i d0 h0 with
    | none => rw [e1] at q2; cases q2
    | some d1 =>
      rw [e1] at q2
      have q2 : R.ok d1 h0 = R.ok d h' := q2
      cases q2
      obtain ⟨a, c, dx, fv, u, _, _, _, _, rz⟩ := fldAt_of C r e1 hf
      exact ⟨rfl, u, rz⟩
  | exc c p h0 => rw [z] at q'; cases q'
  | no => rw [z] at q'; cases q'
/-- e reads a dict of ours while it is walked; eo says which -/
theorem snd_lk {e : Expr} {ee eo : E} (p : PE X e (tE X.K cl W ee)) (po : PureE X.K cl eo) : PE X e (tE X.K cl W (eLk eo ee)) :=
  pe_imp (pe_lock p) fun σV H Q ⟨m, σ, h, H0, L, C, w⟩ => by
    have w' : WP X.K cl (wx X.K cl W σV) m H ((eo σ h).calm.bnd fun x h => opt (setLk true x h) fun h => (ee σ h).calm.bnd fun d h => opt (setLk false x h) fun h => .ok d h) (Rt X.K cl Q) := w
    cases q : eo σ h with
    | ok x hx =>
      obtain ⟨rfl, v, rv⟩ := po _ _ _ _ _ _ _ _ L C q
      rw [q] at w'
      have w' : WP X.K cl (wx X.K cl W σV) m H (opt (setLk true x hx) fun h => (ee σ h).calm.bnd fun d h => opt (setLk false x h) fun h => .ok d h) (Rt X.K cl Q) := w'
      obtain ⟨h1, e1, w1⟩ := WP.opt w'
      obtain ⟨k, n, a, u, t, rows, rfl, rfl, hm, hH, mu, hg, ht, on⟩ := lk_on C rv e1
      refine ⟨a, u, hH, mu, fun od => ?_⟩
      obtain ⟨ex, C1, g1⟩ := on od
      have wu : Wr u := by rcases ht with ⟨_, kvs, rfl, _⟩ | ⟨_, kvs, rfl, _⟩ <;> trivial
      have nl : ∀ vs, u ≠ .lst vs := by rcases ht with ⟨_, kvs, rfl, _⟩ | ⟨_, kvs, rfl, _⟩ <;> (intro vs z; cases z)
      cases qe : ee σ h1 with
      | ok d h2 =>
        refine ⟨m, σ, h1, H0, L.up ex, C1, ?_⟩
        rw [qe]
        intro m2 H2 e2 C2 v2 r2
        have hH2 : H2 a = some (.frz od u) := e2.frz a od u upd_same
        refine ⟨hH2, ?_⟩
        rw [qe] at w1
        have w1 : WP X.K cl (wx X.K cl W σV) m H (opt (setLk false (.ref k n) h2) fun h => .ok d h) (Rt X.K cl Q) := w1
        obtain ⟨h3, e3, w2⟩ := WP.opt w1
        obtain ⟨im, C3⟩ := lk_off C2 (e2.pre _ _ _ hm) hH2 nl e3
        exact w2 m2 _ (Ext.unlock hm hH wu e2 hH2) C3 v2 (r2.upI im)
      | exc c p h2 => rw [qe] at w1; exact w1.elim
      | no => rw [qe] at w1; exact w1.elim
    | exc c p hx => rw [q] at w'; exact w'.elim
    | no => rw [q] at w'; exact w'.elim
theorem lkd_of {K : PySem.W.Frag} {m : Mp} {h : Hp} {H : L2.Hp} {k n : Nat} {a : Addr} {t : Bool} {rows : List (D × D)} (C : Hc K cl m h H) (hm : m k n = some a) (q : h.get k n = some (.dct t true rows)) :
    ∃ od, (t = false ∧ ∃ kvs, H a = some (.frz od (.dK kvs)) ∧ RKs K cl H m rows kvs) ∨ (t = true ∧ ∃ kvs, H a = some (.frz od (.dT kvs)) ∧ RTs K cl H m rows kvs) := by
  have ro := C.obj k n _ a q hm
  cases t
  · obtain ⟨kvs, od, z, r⟩ := ro; exact ⟨od, .inl ⟨rfl, kvs, z, r⟩⟩
  · obtain ⟨kvs, od, z, r⟩ := ro; exact ⟨od, .inr ⟨rfl, kvs, z, r⟩⟩
/-- its keys -/
theorem sni_lk {tg e : Expr} {ee : E} (ha : PE X e (tE X.K cl W ee)) : PI X tg e (tI X.K cl W (iLk false ee)) :=
  pi_imp (pi_keys ha) fun σV H Rj ⟨m, σ, h, H0, L, C, w⟩ => tE.use L C w fun d h1 m1 H1 v e1 L1 C1 r1 w1 => by
    cases r1 <;> first | (exact w1.elim) | skip
    rename_i k n a hm
    have w1 : WP X.K cl (wx X.K cl W σV) m1 H1 (match h1.get k n with
      | some (.dct _ true rows) => .ok (if false then rows.map Prod.snd else rows.map Prod.fst) h1
      | _ => .no) _ := w1
    cases q : h1.get k n with
    | none => rw [q] at w1; exact w1.elim
    | some ob =>
      rw [q] at w1
      match ob, q, w1 with
      | .dct t true rows, q, w1 =>
        obtain ⟨od, ⟨rfl, kvs, z, r⟩ | ⟨rfl, kvs, z, r⟩⟩ := lkd_of C1 hm q
        · exact ⟨a, od, rfl, .inl ⟨kvs, z, WP.ok w1 C1 _ (wk_keys z r)⟩⟩
        · exact ⟨a, od, rfl, .inr ⟨kvs, z, WP.ok w1 C1 _ (wk_keysT z r)⟩⟩
/-- y = [elt for tg in iter if ..], y a local -/
theorem ps_fq {st : Stmt} {t : TS} (p : PS X st t) : PS X st (fun D σ H => t { D with nx := fun σ H => D.nx σ H ∨ ∃ a u, H a = some u ∧ Mut (some u) ∧ ∀ o, D.nx σ (upd H a (.frz o u)) } σ H) := ⟨fun pins s σ H D I h => by
  refine thn (p.run pins s σ H _ I h) fun f s1 q => ?_
  cases f with
  | next =>
    obtain ⟨σ', H', I', q1⟩ := q
    rcases q1 with q1 | ⟨a, xs, e2, mu, q1⟩
    · exact ⟨σ', H', I', q1⟩
    · obtain ⟨o, I2⟩ := I'.lock e2 mu
      exact ⟨σ', _, I2, q1 o⟩
  | brk => exact q
  | cont => exact q
  | ret u => exact q⟩
end
end IP

/-! {k: v for a in x for b in y}: two clauses, no tests. -/
namespace IP
open PySem PySem.Spec PyProof.Rows L2
/-- raises nothing -/
abbrev Nf {α : Type} (pg : Program) (wd : World) (A : Around) (t : Sem α) (Q : α → Shared → Prop) (s : Shared) : Prop := wpAny (model pg wd) A t Q (fun _ _ => False) s
abbrev dcx (kx vx ta ia tb ib : Expr) (sc : Scope) (po : Pos) : Expr := .DictComp kx vx [⟨ta, ia, [], 0⟩, ⟨tb, ib, [], 0⟩] sc po
section
variable {kx vx ta ia tb ib : Expr} {sc : Scope} {po : Pos} {it ac : Value} {en : Env}
theorem dc2_eqA : compTurn (dcx kx vx ta ia tb ib sc po) 0 it ac en = (do
      standAt ia.pos
      match ← pyNext it with
      | none => pure (.done .next)
      | some v => (do
        letOwnedTupleGo ta it v
        assign ta en v
        let y ← eval ib en
        standAt ib.pos
        let y ← foldedSetIterable ib en y
        let _ ← runOwn (.compStart (dcx kx vx ta ia tb ib sc po) 1 (← holding [y] (pyIter y)) ac en) en
        again (.compLoop (dcx kx vx ta ia tb ib sc po) 0 it ac en))) := rfl
theorem dc2_eqB {Da : Addr} : compTurn (dcx kx vx ta ia tb ib sc po) 1 it (.ref Da) en = (do
      standAt ib.pos
      match ← pyNext it with
      | none => pure (.done .next)
      | some v => (do
        letOwnedTupleGo tb it v
        assign tb en v
        (do let kv ← eval kx en
            let vv ← holding [kv] (eval vx en)
            standAt { kx.pos with endLine := vx.pos.endLine, endCol := vx.pos.endCol }
            holding [kv, vv] (dictSet Da kv vv) : Sem Unit)
        again (.compLoop (dcx kx vx ta ia tb ib sc po) 1 it (.ref Da) en))) := rfl
variable {pg : Program} {wd : World} {A : Around} {R : Result → Shared → Prop} {s : Shared}
theorem dc2_lpA (hf : ∀ y, foldedSetIterable ib en y = pure y) (P : Nat → Shared → Prop)
    (tn : ∀ n s, P n s → Nf pg wd A (pyNext it) (fun r s => match r with
      | none => R (.ok .next) s
      | some v => Nf pg wd A (letOwnedTupleGo ta it v) (fun _ s => Nf pg wd A (assign ta en v) (fun _ s => Nf pg wd A (eval ib en) (fun y s => Nf pg wd A (pyIter y) (fun j s =>
          codeAny (model pg wd) A (.compStart (dcx kx vx ta ia tb ib sc po) 1 j ac en) (fun r s => match r with
            | .ok _ => ∃ m, m < n ∧ P m s
            | .error _ => False) s) s) s) s) s) s)
    (n : Nat) (p : P n s) : codeAny (model pg wd) A (.compLoop (dcx kx vx ta ia tb ib sc po) 0 it ac en) R s := by
  refine codeAny_loop rfl P (fun n s p => ?_) n p
  show wpAny _ A ((compTurn (dcx kx vx ta ia tb ib sc po) 0 it ac en).onRaise fun x => do noteFrame x en; theTreesLotGoes x) _ _ s
  refine wpAny_noted ?_
  rw [dc2_eqA]
  refine wpAny_bind (wpAny_standAt (wpAny_bind (thnF (tn n s p) fun r s a => ?_)))
  cases r with
  | none => exact wpAny_pure a
  | some v =>
    refine wpAny_bind (thnF a fun _ s a => wpAny_bind (thnF a fun _ s a => wpAny_bind (thnF a fun y s a => ?_)))
    refine wpAny_bind (wpAny_standAt (wpAny_bind (wpAny_of_eq (hf y) (wpAny_bind (wpAny_holding (thnF a fun j s a => ?_))))))
    refine wpAny_bind (wpAny_runOwn ?_)
    rw [Around.mark_none]
    refine codeAny_mono a fun r s a => ?_
    cases r with
    | error e => exact a.elim
    | ok f =>
      first
        | (exact wpAny_pure ⟨rfl, a⟩)
        | (exact wpAny_bind (wpAny_pure (wpAny_pure ⟨rfl, a⟩)))
theorem dc2_lpB {Da : Addr} (P : Nat → Shared → Prop)
    (tn : ∀ n s, P n s → Nf pg wd A (pyNext it) (fun r s => match r with
      | none => R (.ok .next) s
      | some v => Nf pg wd A (letOwnedTupleGo tb it v) (fun _ s => Nf pg wd A (assign tb en v) (fun _ s => Nf pg wd A (eval kx en) (fun kv s => Nf pg wd A (eval vx en) (fun vv s =>
          Nf pg wd A (dictSet Da kv vv) (fun _ s => ∃ m, m < n ∧ P m s) s) s) s) s) s) s)
    (n : Nat) (p : P n s) : codeAny (model pg wd) A (.compLoop (dcx kx vx ta ia tb ib sc po) 1 it (.ref Da) en) R s := by
  refine codeAny_loop rfl P (fun n s p => ?_) n p
  show wpAny _ A ((compTurn (dcx kx vx ta ia tb ib sc po) 1 it (.ref Da) en).onRaise fun x => do noteFrame x en; theTreesLotGoes x) _ _ s
  refine wpAny_noted ?_
  rw [dc2_eqB]
  refine wpAny_bind (wpAny_standAt (wpAny_bind (thnF (tn n s p) fun r s a => ?_)))
  cases r with
  | none => exact wpAny_pure a
  | some v =>
    refine wpAny_bind (thnF a fun _ s a => wpAny_bind (thnF a fun _ s a => wpAny_bind (wpAny_bind (thnF a fun kv s a => ?_))))
    exact wpAny_bind (wpAny_holding (thnF a fun vv s a => wpAny_bind (wpAny_standAt (wpAny_holding (thnF a fun _ s a => wpAny_pure ⟨rfl, a⟩)))))
theorem dc2_st (p : codeAny (model pg wd) A (.compLoop (dcx kx vx ta ia tb ib sc po) 1 it ac en) R s)
    (q : wpAny (model pg wd) A (pyIter it) (fun j s => codeAny (model pg wd) A (.compLoop (dcx kx vx ta ia tb ib sc po) 1 j ac en) R s) (notedBy (model pg wd) A en fun x s' => R (.error x) s') s) :
    codeAny (model pg wd) A (.compStart (dcx kx vx ta ia tb ib sc po) 1 it ac en) R s := by
  refine codeAny_of_tree ?_
  show wpAny _ _ ((compStart (dcx kx vx ta ia tb ib sc po) 1 it ac en).onRaise fun x => do noteFrame x en; standAt theWindowsPlace) _ _ s
  refine wpAny_notedAt ?_
  unfold compStart
  show wpAny _ _ (ask >>= _) _ _ s
  refine wpAny_bind (wpAny_askSetting (wpAny_ite ?_))
  split
  · first
      | (exact wpAny_bind (wpAny_pure (wpAny_pure ⟨rfl, p⟩)))
      | (exact wpAny_pure ⟨rfl, p⟩)
  · refine wpAny_bind (wpAny_rule ?_)
    first
      | (exact wpAny_bind (wpAny_standAt (wpAny_bind (wpAny_mono q (fun j s a => wpAny_pure ⟨rfl, a⟩) fun _ _ z => z))))
      | (show wpAny _ _ (standAt ib.pos >>= _) _ _ s; exact wpAny_bind (wpAny_standAt (wpAny_bind (wpAny_mono q (fun j s a => wpAny_pure ⟨rfl, a⟩) fun _ _ z => z))))
end
section
variable {X : Cx}
/-- a loop over J: W holds ahead of each turn, Fi is reached; tu: what a turn does, up to the wish Nx -/
def Lp (J : It) (W : Nat → Nat → L2.Hp → Prop) (Fi : L2.Hp → Prop) (tu : V → L2.Hp → (L2.Hp → Prop) → Prop) : Prop := ∀ i m H, W i m H →
  (J.stop i H ∧ Fi H) ∨ (J.go i H ∧ ∃ Nx : L2.Hp → Prop, (∀ H', Nx H' → ∃ m', m' < m ∧ W (i + 1) m' H') ∧ ∀ x H', J.yld i H x H' → tu x H' Nx)
def tDc2 (wi : TI) (g : TG) (wj : TI) (gj : TG) (tk tv : TE) (vs vj : List Nat) : TE := fun σ H Q => wi σ H fun J H1 => ∀ Da, H1 Da = none → ∃ W : Nat → Nat → L2.Hp → Prop, (∃ m, W 0 m (upd H1 Da (.dK []))) ∧
  Lp J W (Q (.ref Da)) fun x H' Nx => g x (L2.wipe σ vs) H' fun σ2 H2 => L2.wipe σ2 vs = L2.wipe σ vs ∧ wj σ2 H2 fun Jj H3 => ∃ Wj : Nat → Nat → L2.Hp → Prop, (∃ m, Wj 0 m H3) ∧
    Lp Jj Wj Nx fun x H' Ny => gj x (L2.wipe σ2 vj) H' fun σ3 H4 => L2.wipe σ3 vj = L2.wipe σ2 vj ∧ tk σ3 H4 fun y H5 => tv σ3 H5 fun z H6 => ∃ kvs k, y = kV k ∧ H6 Da = some (.dK kvs) ∧ kvs.length < sizeLine ∧ Ny (upd H6 Da (.dK (putK kvs k z)))
theorem wipe_keeps {σ : L2.St} {i : Nat} : ∀ {vs : List Nat}, i ∉ vs → (L2.wipe σ vs)[i]? = σ[i]? := fun h => wipe_out h
/-- the objects of a walk, at a later heap -/
theorem stat_of {B : Cx} {ps : List (Addr × Obj)} {fp : List Addr} {H : L2.Hp} (q : ∀ b ∈ fp, FpOk B ps H b) {H' : L2.Hp} (n : ∀ b ∈ fp, H' b = none) : ∀ b ∈ fp, FpOk B ps H' b := fun b hb => ⟨n b hb, (q b hb).2⟩
/-- a turn's end: the pins of the walk are let go -/
theorem turn_end {B : Cx} {ps : List (Addr × Obj)} {tg : Expr} {J : It} {fp : List Addr} {it : Addr} {tn : Nat → Heap → Prop} {P : Program} {wd : World} (T : Turn P wd B.K tg J fp it tn) {i : Nat} {s0 s1 : Shared} {σ σ0 : L2.St} {H : L2.Hp} (st : tn i s0.heap)
    (I : Inv B (ps ++ pinsAt fp s0.heap) σ H s1) (hl : σ0.length = σ.length) (hk : ∀ (j : Nat) v, σ0[j]? = some (some v) → σ[j]? = some (some v)) : Inv B ps σ0 H s1 ∧ tn i s1.heap ∧ ∀ b ∈ fp, H b = none := by
  have pin : ∀ b ∈ fp, ∀ o, s0.heap.get? b = some o → s1.heap.get? b = some o ∧ H b = none := fun b hb o e => by
    obtain ⟨a, c, _⟩ := I.pin (b, o) (List.mem_append_right _ (List.mem_append_right _ (mem_pinsAt hb e)))
    exact ⟨a, c⟩
  exact ⟨(I.unpinned (pins := ps)).weak hl hk, T.keep _ _ _ st fun b hb o e => (pin b hb o e).1, fun b hb => let ⟨o, e, _⟩ := T.obj _ _ st b hb; (pin b hb o e).2⟩
theorem pe_dc2 {kx vx ta ia tb ib : Expr} {sc : Scope} {own : List (Str × Nat)} {vj : List Nat} {po : Pos} {wi wj : TI} {g gj : TG} {tk tv : TE} (hc : X.calm = true) (hN : X.N.Nodup) (hi : PI X ta ia wi) (ok : BlkOk X.N X.env.scope sc own) (hv : ∀ i ∈ vj, i ∈ own.map (·.2))
    (hg : ∀ (s : Shared) (H : L2.Hp) (C : Addr) (cl' : List (Str × Addr)) (fp : List Addr), PG (X.blk s H sc (compEnvC sc cl' C X.env) fp) ta g)
    (hj : ∀ (s : Shared) (H : L2.Hp) (C : Addr) (cl' : List (Str × Addr)) (fp : List Addr), PI (X.blk s H sc (compEnvC sc cl' C X.env) fp) tb ib wj)
    (hgj : ∀ (s : Shared) (H : L2.Hp) (C : Addr) (cl' : List (Str × Addr)) (fp : List Addr), PG (X.blk s H sc (compEnvC sc cl' C X.env) fp) tb gj)
    (hk : ∀ (s : Shared) (H : L2.Hp) (C : Addr) (cl' : List (Str × Addr)) (fp : List Addr), PE (X.blk s H sc (compEnvC sc cl' C X.env) fp) kx tk)
    (he : ∀ (s : Shared) (H : L2.Hp) (C : Addr) (cl' : List (Str × Addr)) (fp : List Addr), PE (X.blk s H sc (compEnvC sc cl' C X.env) fp) vx tv)
    (hs : ∀ x, foldedSetIterable ia X.env x = pure x := by intro _; rfl) (hsj : ∀ env x, foldedSetIterable ib env x = pure x := by intro _ _; rfl) :
    PE X (dcx kx vx ta ia tb ib sc po) (tDc2 wi g wj gj tk tv (own.map (·.2)) vj) := by
  refine ⟨fun ps s σ H Q I w => ?_⟩
  rw [show eval (dcx kx vx ta ia tb ib sc po) X.env = _ from arm_eval_DictComp ..]
  have free : ∀ y ∈ sc.names, y.2 = .free → ∃ c, X.env.cells.lookup y.1 = some c := fun y hy e => I.ok.has _ (ok.free y hy e)
  refine wpAny_comprehension_free (use := none) rfl hs (closure_ok free) ok.kind (fun y hy e => by rw [ok.uniq y hy, e]) (thn (hi.run ps s σ H _ I w) fun xv s1 a => thn a fun itv t ⟨it, fp, tn, J, H2, e, I2, T, st2, f2, q⟩ => ?_)
  subst e
  refine wpAny_newObj_type (newEnv_comp ?_)
  generalize hD : t.heap.objs.size = Da
  have nD : H2 Da = none := I2.hok.fresh (Nat.le_of_eq hD)
  obtain ⟨W, ⟨m0, w0⟩, lp⟩ := q Da nD
  generalize ht : ({ t with heap := t.heap.push { cls := .type "dict", data := .dict #[] } } : Shared) = t3
  have h3 : t3.heap = t.heap.push { cls := .type "dict", data := .dict #[] } := by rw [← ht]
  have I3 : Inv X ps σ (upd H2 Da (.dK [])) t3 := by
    subst ht hD
    exact I2.laid (t' := t.toks) (fun b o e => Heap.get?_push_of_some _ e) (Nat.le_refl _) (dk_empty t.heap I2.big)
  have f3 : ∀ b ∈ fp, FpOk X ps (upd H2 Da (.dK [])) b ∧ b < t3.heap.objs.size := fun b hb => by
    obtain ⟨o, e, _⟩ := T.obj _ _ st2 b hb
    have lt : b < t.heap.objs.size := Heap.lt_size e
    refine ⟨⟨?_, (f2 b hb).2⟩, by rw [h3, Heap.size_push]; exact Nat.lt_of_lt_of_le lt (Nat.le_succ _)⟩
    rw [upd_ne (fun z => Nat.lt_irrefl _ (hD ▸ z ▸ lt))]
    exact (f2 b hb).1
  have st3 : tn 0 t3.heap := T.keep _ _ _ st2 fun b _ o e => by rw [h3]; exact Heap.get?_push_of_some _ e
  have I4 := block_start I3 ok hN f3
  generalize hC : t3.heap.objs.size = C at I4
  generalize hcl : cellsFrom (C + 1) sc.names (cloFrom X.env.cells sc.names []) = cs at I4
  have pg := hg t3 (upd H2 Da (.dK [])) C cs fp
  have pj := hj t3 (upd H2 Da (.dK [])) C cs fp
  have pgj := hgj t3 (upd H2 Da (.dK [])) C cs fp
  have pk := hk t3 (upd H2 Da (.dK [])) C cs fp
  have pv := he t3 (upd H2 Da (.dK [])) C cs fp
  have nfp : ∀ b ∈ fp, (upd H2 Da (.dK [])) b = none := fun b hb => (f3 b hb).1.1
  generalize hce : compEnvC sc cs C X.env = ce at I4 pg pj pgj pk pv
  have cL : ce.locals = C := by subst hce; rfl
  generalize ht4 : ({ t3 with heap := pushCells (t3.heap.push { cls := .type "dict", data := .dict #[] }) sc.names } : Shared) = t4 at I4
  have st4 : tn 0 t4.heap := T.keep _ _ _ st3 fun b _ o e => by subst ht4; exact pushCells_keeps _ _ _ _ (Heap.get?_push_of_some _ e)
  generalize hH3 : upd H2 Da (.dK []) = H3 at I3 I4 pg pj pgj pk pv w0 nfp f3
  have stat : ∀ {σ' : L2.St} {H' : L2.Hp} {s' : Shared}, Inv (X.blk t3 H3 sc ce fp) [] σ' H' s' → (∀ b ∈ fp, H' b = none) → ∀ b ∈ fp, FpOk (X.blk t3 H3 sc ce fp) [] H' b := fun {σ' H' s'} I' hn b hb =>
    ⟨hn b hb, (I'.ok.exf b hb).1, I'.ok.exfs b hb, .inl hb, fun x c e => (I'.ok.exf b hb).2 x c e, fun p hp => absurd (show p ∈ ([] : List (Addr × Obj)) ++ [] from hp) (by simp)⟩
  suffices L : codeAny (model X.prog X.w) X.A (.compLoop (dcx kx vx ta ia tb ib sc po) 0 (.ref it) (.ref Da) ce) (compPost (model X.prog X.w) X.A X.xe none (fun u s' => ∃ v H', Inv X ps σ H' s' ∧ RelV v u ∧ Q v H') (.ref Da) C) t4 by
    have z := codeAny_compStart_dict L (T.self X.A 0 _ _ _ st4 L)
    subst ht4 hce hcl hC
    exact z
  refine dc2_lpA (hsj ce) (fun n s' => ∃ i H', Inv (X.blk t3 H3 sc ce fp) [] (L2.wipe σ (own.map (·.2))) H' s' ∧ tn i s'.heap ∧ (∀ b ∈ fp, H' b = none) ∧ W i n H') ?_ m0 ⟨0, H3, I4, st4, nfp, w0⟩
  rintro n s5 ⟨i, H5, I5, st5, n5, w5⟩
  rcases lp i n H5 w5 with ⟨stop, qq⟩ | ⟨go, Nx, hNx, step⟩
  · refine thnF (T.done (X.blk t3 H3 sc ce fp) rfl rfl rfl hc i [] s5 _ H5 (fun _ _ => False) I5 (stat I5 n5) st5 stop) fun r s6 ⟨hr, I6⟩ => ?_
    subst hr
    have I7 : Inv X ps σ H5 s6 := I3.call' (ch := fp) I6.os I6.base I6.hok I6.bare fun b hb => ⟨(f3 b hb).1.2.2.2.1, (f3 b hb).1.2.1, (f3 b hb).1.2.2.2.2.1, (f3 b hb).1.2.2.2.2.2⟩
    have nC : H5 C = none := cL ▸ I6.free
    obtain ⟨m, hn, _⟩ := I6.loc
    have hn : s6.heap.Ns C m := cL ▸ hn
    obtain ⟨k0, k1, k2, k3, k4, k5⟩ := I3.fpOk (b := C) (Nat.le_of_eq hC) nC
    exact ⟨m, hn, fun h9 sb => ⟨.ref Da, H5, I7.turned (t' := s6.toks) (fun b o hb e => (sb.2 b hb).trans e) k0 k1 k3 k4 k5, rfl, qq⟩⟩
  · refine thnF (T.item (X.blk t3 H3 sc ce fp) rfl rfl rfl hc i [] s5 _ H5 (fun _ _ => False) I5 (stat I5 n5) st5 go) fun r s6 ⟨u, hr, h6⟩ => ?_
    subst hr
    refine thnF h6 fun _ s7 ⟨x, H7, I7, r7, y7, st7, n7⟩ => ?_
    refine thnF (pg.run _ s7 _ H7 x u _ (I7.pinned (stat I7 n7) (T.obj _ _ st7)) r7 (step x H7 y7)) fun _ s8 ⟨σ8, H8, I8, hw8, q8⟩ => ?_
    have fin : ∀ {σ9 : L2.St} {s' : Shared} {H' : L2.Hp}, Inv (X.blk t3 H3 sc ce fp) ([] ++ pinsAt fp s7.heap) σ9 H' s' → (L2.wipe σ (own.map (·.2))).length = σ9.length → (∀ (j : Nat) v, (L2.wipe σ (own.map (·.2)))[j]? = some (some v) → σ9[j]? = some (some v)) → Nx H' →
        ∃ m, m < n ∧ ∃ i H', Inv (X.blk t3 H3 sc ce fp) [] (L2.wipe σ (own.map (·.2))) H' s' ∧ tn i s'.heap ∧ (∀ b ∈ fp, H' b = none) ∧ W i m H' := fun {σ9 s' H'} I' hl hk nx => by
      obtain ⟨m', hm, w'⟩ := hNx H' nx
      obtain ⟨a, b, c⟩ := turn_end (B := X.blk t3 H3 sc ce fp) T st7 I' hl hk
      exact ⟨m', hm, i + 1, H', a, b, c, w'⟩
    refine thnF (pj.run _ s8 σ8 H8 _ I8 q8) fun xv s9 a => thnF a fun jv s10 ⟨jt, fj, tj, Jj, H10, e, I10, Tj, stj, ffj, Wj, ⟨mj, wj0⟩, lpj⟩ => ?_
    subst e
    have L1 : codeAny (model X.prog X.w) X.A (.compLoop (dcx kx vx ta ia tb ib sc po) 1 (.ref jt) (.ref Da) ce)
        (fun r s' => match r with
          | .ok _ => ∃ m, m < n ∧ ∃ i H', Inv (X.blk t3 H3 sc ce fp) [] (L2.wipe σ (own.map (·.2))) H' s' ∧ tn i s'.heap ∧ (∀ b ∈ fp, H' b = none) ∧ W i m H'
          | .error _ => False) s10 := by
      refine dc2_lpB (fun k s' => ∃ j H', Inv (X.blk t3 H3 sc ce fp) ([] ++ pinsAt fp s7.heap) (L2.wipe σ8 vj) H' s' ∧ tj j s'.heap ∧ (∀ b ∈ fj, H' b = none) ∧ Wj j k H') ?_ mj ⟨0, H10, I10.weak (wipe_length _ _) (fun j v e => (wipe_some e).1), stj, fun b hb => (ffj b hb).1, wj0⟩
      rintro k s11 ⟨j, H11, I11, st11, n11, w11⟩
      rcases lpj j k H11 w11 with ⟨stop, nx⟩ | ⟨go, Ny, hNy, step⟩
      · refine thnF (Tj.done (X.blk t3 H3 sc ce fp) rfl rfl rfl hc j _ s11 (L2.wipe σ8 vj) H11 (fun _ _ => False) I11 (stat_of ffj n11) st11 stop) fun r s12 ⟨hr, I12⟩ => ?_
        subst hr
        refine fin I12 ((congrArg List.length hw8).symm.trans ((wipe_length _ _).trans (wipe_length σ8 vj).symm)) (fun j v e => ?_) nx
        rw [← hw8] at e
        obtain ⟨e1, e2⟩ := wipe_some e
        rw [wipe_keeps fun z => e2 (hv j z)]
        exact e1
      · refine thnF (Tj.item (X.blk t3 H3 sc ce fp) rfl rfl rfl hc j _ s11 (L2.wipe σ8 vj) H11 (fun _ _ => False) I11 (stat_of ffj n11) st11 go) fun r s12 ⟨u, hr, a⟩ => ?_
        subst hr
        refine thnF a fun _ s13 ⟨x, H13, I13, r13, y13, st13, n13⟩ => ?_
        refine thnF (pgj.run _ s13 (L2.wipe σ8 vj) H13 x u _ (I13.pinned (stat_of ffj n13) (Tj.obj _ _ st13)) r13 (step x H13 y13)) fun _ s14 ⟨σ14, H14, I14, hw14, q14⟩ => ?_
        refine thnF (pk.run _ s14 σ14 H14 _ I14 q14) fun z s15 ⟨yk, H15, I15, r15, q15⟩ => ?_
        refine thnF (pv.run _ s15 σ14 H15 _ I15 q15) fun z s16 ⟨yv, H16, I16, r16, kvs, kk, ek, hD16, hz, nx⟩ => ?_
        subst ek
        refine d_dictSet (X := X.blk t3 H3 sc ce fp) I16 hD16 hz r15 r16 fun s17 I17 => ?_
        obtain ⟨m', hm, w'⟩ := hNy _ nx
        obtain ⟨a, b, c⟩ := turn_end (B := X.blk t3 H3 sc ce fp) (σ0 := L2.wipe σ8 vj) Tj st13 I17 (by rw [← hw14, wipe_length]) (fun j v e => by rw [← hw14] at e; exact (wipe_some e).1)
        exact ⟨m', hm, j + 1, _, a, b, c, w'⟩
    exact dc2_st L1 (Tj.self X.A 0 _ _ _ stj L1)
end
end IP

/-! len(set(t)) of a tuple of unlike texts. -/
namespace IP
open PySem PySem.Spec PyProof.Rows L2
section
variable {pg : Program} {wd : World} {A : Around}
/-- the set at S holds the first i texts -/
def Got (pg : Program) (wd : World) (zs : List Str) (S : Addr) (i : Nat) (h : Heap) : Prop := h.SetOf (PySem.strKind pg wd) S (fun k => decide (k ∈ zs.take i)) i
theorem Got.keep {zs : List Str} {S : Addr} {i : Nat} {h h' : Heap} (g : Got pg wd zs S i h) (e : ∀ o, h.get? S = some o → h'.get? S = some o) : Got pg wd zs S i h' := by
  obtain ⟨o, es, ep, t, ho, r⟩ := g
  exact ⟨o, es, ep, t, e _ ho, r⟩
theorem new_at {zs : List Str} (nd : zs.Nodup) {i : Nat} (hi : i < zs.length) : zs[i] ∉ zs.take i ∧ zs.take (i + 1) = zs.take i ++ [zs[i]] := by
  have e : zs.take (i + 1) = zs.take i ++ [zs[i]] := by rw [List.take_add_one, List.getElem?_eq_getElem hi]; rfl
  refine ⟨fun q => ?_, e⟩
  have nd2 : (zs.take (i + 1)).Nodup := nd.sublist (List.take_sublist _ _)
  rw [e, List.nodup_append] at nd2
  exact nd2.2.2 _ q _ (by simp) rfl
theorem set_loop {R : Result → Shared → Prop} {I : Addr} {fp wr : List Addr} {G : Array GenState → Array GenState → Prop} {n : Nat} {P : Nat → Value → Prop} {St : Nat → Shared → Prop} (W : WalksS pg wd A.in1 I fp wr G n P St) {S : Addr} (nS : S ∉ fp) {zs : List Str} (nd : zs.Nodup) (hn : zs.length = n) (hb : n < 4096)
    (hv : ∀ i v, P i v → ∃ t x, zs[i]? = some x ∧ v = .str x t) : ∀ (k i : Nat) (t : Shared), n - i = k → i ≤ n → St i t → Got pg wd zs S i t.heap →
      (∀ t', Moved (S :: wr) G t t' → Got pg wd zs S n t'.heap → R (.ok (.ret .none)) t') → codeAny (model pg wd) A (.builtin "set.update.loop" ⟨[.ref S, .ref I], []⟩) R t := by
  have nW : S ∉ wr := fun z => nS (W.sub _ z)
  have up : ∀ b ∈ wr, b ∈ S :: wr := fun b z => List.mem_cons_of_mem _ z
  intro k
  induction k with
  | zero =>
    intro i t hk hi st g hR
    obtain rfl : i = n := by omega
    refine codeAny_builtin PyProof.Rows.F.entry_set_update_loop ?_
    rw [Around.under_plainId PyProof.Rows.F.plain_set_update_loop]
    show wpAny _ _ (pyNext (.ref I) >>= _) _ _ t
    refine wpAny_bind (W.done t _ _ st fun t' mv => ?_)
    show wpAny _ _ (ret Value.none) _ _ t'
    exact wpAny_pure (hR t' (mv.mono up) (g.keep fun o => mv.heap S o nW))
  | succ k ih =>
    intro i t hk hi st g hR
    have lt : i < n := by omega
    refine codeAny_builtin PyProof.Rows.F.entry_set_update_loop ?_
    rw [Around.under_plainId PyProof.Rows.F.plain_set_update_loop]
    show wpAny _ _ (pyNext (.ref I) >>= _) _ _ t
    refine wpAny_bind (W.item i t _ _ lt st fun v t1 p st1 mv => ?_)
    obtain ⟨tk, x, hx, rfl⟩ := hv i v p
    have g1 : Got pg wd zs S i t1.heap := g.keep fun o => mv.heap S o nW
    show wpAny _ _ (holding [Value.str x tk] (setAdd S (.str x tk)) >>= _) _ _ t1
    refine wpAny_bind (wpAny_holding ?_)
    unfold setAdd
    refine wpAny_holding (wpAny_bind ((PySem.strKind pg wd).pyHash (k := x) (strKind_is ..) ?_))
    refine wpAny_setAddHashed_of (knd := PySem.strKind pg wd) (s := { t1 with toks := t1.toks + 1 }) (strKind_is ..) rfl g1 (by unfold scanBound; omega) fun h2 same g2 => ?_
    have li : i < zs.length := by omega
    have ex : zs[i] = x := by rw [List.getElem?_eq_getElem li] at hx; exact Option.some.inj hx
    obtain ⟨no, e1⟩ := new_at nd li
    have g3 : Got pg wd zs S (i + 1) h2 := by
      rw [ex] at no e1
      refine SetOf_congr g2 (fun k => ?_) (by rw [decide_eq_false no]; rfl)
      rw [e1, ← Bool.decide_or]
      exact decide_eq_decide.mpr (by simp)
    have k2 : ∀ b o, b ≠ S → t1.heap.get? b = some o → h2.get? b = some o := fun b o z e => by rw [same.2 b z]; exact e
    refine wpAny_pure ⟨plainId_quiet PyProof.Rows.F.plain_set_update_loop _, ih (i + 1) _ (by omega) lt (W.frame _ t1 _ _ st1 (Nat.le_succ _) fun b z o e => k2 b o (fun q => nS (q ▸ z)) e) g3 fun t3 mv3 g4 => ?_⟩
    exact hR t3 (Moved.trans W.gtrans ((mv.mono up).then_heap (Nat.le_succ _) fun b o z e => k2 b o (fun q => z (q ▸ List.mem_cons_self)) e) mv3) g4
/-- set(t) -/
theorem set_tup {t0 : Shared} {E : Value → Shared → Prop} {l : Addr} {its : Array Value} {zs : List Str} {Q : Value → Shared → Prop} (hh : A.handled = none) (tl : t0.heap.IsTuple l its) (nd : zs.Nodup) (hn : zs.length = its.size) (hb : its.size < 4096) (hv : ∀ (i : Nat) (v : Value), its[i]? = some v → ∃ t x, zs[i]? = some x ∧ v = .str x t)
    (h : ∀ (h2 : Heap) (tk : Nat), Got pg wd zs t0.heap.objs.size its.size h2 → (∀ b o, t0.heap.get? b = some o → h2.get? b = some o) → Q (.ref t0.heap.objs.size) { t0 with heap := h2, toks := tk }) : wpAny (model pg wd) A (call (.type "set") [.ref l]) Q E t0 := by
  obtain ⟨c, ct, hmro⟩ := PySem.F.called_set.mro
  have q1 := PySem.F.called_set.made
  have q2 := PySem.F.called_set.sub
  have q3 := PySem.F.called_set.notType
  have q4 := PySem.F.called_set.canCreate
  have q5 := PySem.F.typeCall_set_1 (.ref l)
  refine wpAny_call (codeAny_of_tree (show wpAny _ _ (callAny (.type "set") _) _ _ _ from ?_))
  refine wpAny_pure ⟨Code.quiet_builtin _ (by decide +kernel), codeAny_builtin PySem.F.entry_type_call ?_⟩
  rw [Around.under_plain (weight_type_call_type "set" [.ref l] []) rfl]
  repeat (any_goals (first | assumption | wp_step))
  have nw : ∀ led : Bool, (t0.heap.push { cls := .type "set", dict := none, data := .set #[] 0 (.fresh 0 0 led) }).get? t0.heap.objs.size = some { cls := .type "set", dict := none, data := .set #[] 0 (.fresh 0 0 led) } := fun led => Heap.get?_push_size _ rfl
  refine codeAny_mono (code_set_new_1 (.ref l) (E := E) (Q₁ := fun ob t1 => ∃ led : Bool, ob = .ref t0.heap.objs.size ∧ t1 = { t0 with heap := t0.heap.push { cls := .type "set", dict := none, data := .set #[] 0 (.fresh 0 0 led) } }) fun led => ⟨led, rfl, rfl⟩) fun r t1 hr => ?_
  match r, hr with
  | .error e, hr => exact hr
  | .ok (.ret ob), hr =>
    obtain ⟨led, rfl, rfl⟩ := hr
    have ty : Shared.TypeIs { t0 with heap := t0.heap.push { cls := .type "set", dict := none, data := .set #[] 0 (.fresh 0 0 led) } } (.ref t0.heap.objs.size) "set" := ⟨_, nw led, rfl⟩
    have q6 := PySem.F.called_set.init.lookup
    have q7 := PySem.F.called_set.init.bind (.ref t0.heap.objs.size)
    repeat (any_goals (first | assumption | wp_step))
    refine codeAny_mono (codeAny_call_builtin (R := wants (fun r t2 => r = .none ∧ ∃ h2 tk, t2 = { t0 with heap := h2, toks := tk } ∧ Got pg wd zs t0.heap.objs.size its.size h2 ∧ ∀ b o, t0.heap.get? b = some o → h2.get? b = some o) E) PySem.F.called_set.init.plain PySem.F.entry_set_init (check_set_init_1 ty ?_)) fun r t2 hr => ?_
    · obtain ⟨⟨oc, od, odt, osl⟩, ho, hc, nl, hd⟩ := tl
      simp only at hc hd
      subst hc hd
      have tl1 : (t0.heap.push { cls := .type "set", dict := none, data := .set #[] 0 (.fresh 0 0 led) }).IsTuple l its := ⟨_, Heap.get?_push_of_some _ ho, rfl, nl, rfl⟩
      have ho1 := Heap.get?_push_of_some { cls := .type "set", dict := none, data := .set #[] 0 (.fresh 0 0 led) } ho
      have u1 := PySem.F.sub_tuple_set
      have u2 := PySem.F.sub_tuple_frozenset
      have u3 : (Value.type "tuple" == Value.type "dict") = false := by decide
      unfold Builtin.«set.__init__» noKeywords Builtin.Frozenset.updateFrom
      generalize hPI : pyIter = PI
      wp_walk
      subst hPI
      refine wpAny_pyIter_tuple tl1 (wpAny_bind (wpAny_runValue ?_))
      have ll : l < t0.heap.objs.size := Heap.lt_size ho
      have hh3 : A.in1.in1.in1.handled = none := by simp [hh]
      have sz : (t0.heap.push { cls := .type "set", dict := none, data := .set #[] 0 (.fresh 0 0 led) }).objs.size = t0.heap.objs.size + 1 := Heap.size_push ..
      have ne : l ≠ (t0.heap.push { cls := .type "set", dict := none, data := .set #[] 0 (.fresh 0 0 led) }).objs.size := by rw [sz]; exact Nat.ne_of_lt (Nat.lt_succ_of_lt ll)
      refine set_loop ((Walks.tuple hh3 _ l ne its).toS) (S := t0.heap.objs.size) (fun z => ?_) nd hn hb hv (its.size - 0) 0 _ (by omega) (Nat.zero_le _) ⟨⟨_, Heap.get?_push_size _ rfl, rfl, rfl⟩, tl1.push _⟩ ?_ fun t3 mv g => ?_
      · rw [sz] at z
        simp only [List.mem_cons, List.not_mem_nil, or_false] at z
        rcases z with z | z
        · exact absurd z (Nat.ne_of_lt (Nat.lt_succ_self _))
        · exact absurd z (Nat.ne_of_gt ll)
      · exact SetOf_congr ((PyProof.Rows.setObjOf_fresh (knd := PySem.strKind pg wd) led).setOf (Heap.get?_push_of_some _ (nw led)) (by unfold scanBound; omega)) (fun _ => by simp) rfl
      · obtain ⟨h9, g9, d9, k9, o9⟩ := t3
        obtain rfl : g9 = t0.gens := mv.gens
        obtain rfl : d9 = t0.drawn := mv.drawn
        obtain rfl : o9 = t0.os := mv.os
        refine wpAny_pure ?_
        show wpAny _ _ (ret Value.none) _ _ _
        refine wpAny_pure ⟨rfl, h9, k9, rfl, g, fun b o e => ?_⟩
        have lb : b < t0.heap.objs.size := Heap.lt_size e
        refine mv.heap b o (fun z => ?_) (Heap.get?_push_of_some _ (Heap.get?_push_of_some _ e))
        rw [sz] at z
        simp only [List.mem_cons, List.not_mem_nil, or_false] at z
        rcases z with z | z
        · exact absurd z (Nat.ne_of_lt lb)
        · exact absurd z (Nat.ne_of_lt (Nat.lt_succ_of_lt lb))
    · match r, hr with
      | .error e, hr => exact hr
      | .ok (.ret r), hr =>
        obtain ⟨rfl, h2, tk, rfl, g, keep⟩ := hr
        repeat (any_goals (first | assumption | wp_step))
        exact h _ _ g keep
end
section
variable {X : Cx}
/-- len(set(x)), x a tuple of unlike texts -/
def tLenS (K : PySem.W.Frag) (ta : TE) : TE := fun σ H Q => ta σ H fun x H1 => ∃ l, ∃ zs : List Str, x = .ref l ∧ SqT K H1 l (zs.map V.str) ∧ zs.Nodup ∧ zs.length < 4096 ∧ Q (.int zs.length) H1
theorem pe_lenS {a : Expr} {ta : TE} {p1 p2 q po : Pos} (hc : X.calm = true) (hl : Gl X "len") (ml : X.mg "len" = none) (hs : Gl X "set") (ms : X.mg "set" = none) (ha : PE X a ta) (na : starEach [a] X.env = (false, eval a X.env) :: starEach [] X.env := by rfl) :
    PE X (.Call (.Name "len" p1) [.Call (.Name "set" p2) [a] [] q] [] po) (tLenS X.K ta) := ⟨fun ps s σ H Q I w => by
  refine Call_ (ld_blt I hl ml boot_len (PyProof.Rows.callWith_builtin1 (PyProof.Rows.args_cons ?_ rfl) rfl rfl))
  refine Call_ (ld_blt I hs ms boot_set (PyProof.Rows.callWith_type1 (PyProof.Rows.args_cons (thn (ha.run ps s σ H _ I w) fun v s1 ⟨x, H1, I1, r1, l, zs, e, tq, nd, lt, q1⟩ => PyProof.Rows.args_nil ?_) na) na rfl))
  subst e
  cases r1
  obtain ⟨its, r, tl, hz⟩ := I1.tuple tq
  have len : its.length = zs.length := by rw [← r.length, List.length_map]
  have at' : ∀ {zs : List Str} {its : List Value}, Vals (zs.map V.str) its → ∀ (i : Nat) (v : Value), its[i]? = some v → ∃ t x, zs[i]? = some x ∧ v = .str x t := by
    intro zs
    induction zs with
    | nil => intro its r i v z; cases r; simp at z
    | cons z zs ih =>
      intro its r i v e
      cases r with
      | cons a r =>
        cases i with
        | zero =>
          obtain ⟨k, rfl⟩ := a
          simp at e
          exact ⟨k, z, rfl, e.symm⟩
        | succ i => exact ih r i v (by simpa using e)
  refine set_tup (I1.ok.hd hc) tl nd (by simpa using len.symm) (by simpa [len] using lt) (fun i v e => at' r i v (by simpa using e)) fun h2 tk g keep => ?_
  refine PyProof.Rows.args_nil ?_
  obtain ⟨o, es, ep, t, ho, hex, hd, _, _, _, hf, hn⟩ := g
  have hn : es.size = zs.length := by rw [hn, List.size_toArray, len]
  have I2 : Inv X ps σ H1 { s1 with heap := h2, toks := tk } := I1.kept fun b o e => keep b o e
  exact call_len_set ho hex hd hf (by rw [hn]; unfold sizeLine at *; omega) ⟨.int zs.length, H1, I2.tok _, ⟨_, by rw [hn]⟩, q1⟩⟩
end
end IP

namespace IP
open PySem PySem.Spec PyProof.Rows L2
section
variable {K : PySem.W.Frag} {cl : Cl} {W : WX}
theorem WS.nxt {De : Ends} {m m0 : Mp} {H H0 : L2.Hp} {σ : Lo} {h : Hp} {σV : L2.St} (w : WS K cl W De m0 H0 m H (.ok (.nxt σ) h)) (e0 : Ext m0 m H0 H) (C : Hc K cl m h H) (L : Lc K cl m H0 H σ σV) : De.nx σV H := w m H σV e0 Ex2.refl C L
/-- what is wished behind the first of two -/
theorem WS.thn {De : Ends} {m m0 : Mp} {H H0 : L2.Hp} {r : R Fl} {f : S} (w : WS K cl W De m0 H0 m H (r.thn f)) : WS K cl W { De with nx := tS K cl W f De } m0 H0 m H r := by
  cases r with
  | ok a h =>
    cases a with
    | nxt σ => exact fun m' H' σV e0 e C L => ⟨m', σ, h, m0, H0, e0, L, C, WS.up w e⟩
    | _ => exact w
  | exc c p h => exact w.elim
  | no => exact w.elim
/-- from here on, in the same def, later than m, H -/
def tSe (K : PySem.W.Frag) (cl : Cl) (W : WX) (De : Ends) (m0 : Mp) (H0 : L2.Hp) (m : Mp) (H : L2.Hp) (f : S) : L2.St → L2.Hp → Prop := fun σV H' => ∃ m' σ h, Ext m0 m' H0 H' ∧ Ex2 m m' H H' ∧ Lc K cl m' H0 H' σ σV ∧ Hc K cl m' h H' ∧ WS K cl W De m0 H0 m' H' (f σ h)
theorem tSe.tS {De : Ends} {m m0 : Mp} {H H0 H' : L2.Hp} {f : S} {σV : L2.St} : tSe K cl W De m0 H0 m H f σV H' → tS K cl W f De σV H' := fun ⟨m', σ, h, e0, _, L, C, w⟩ => ⟨m', σ, h, m0, H0, e0, L, C, w⟩
/-- .. behind a turn -/
theorem WS.trn {De : Ends} {m m0 : Mp} {H H0 : L2.Hp} {r : R Fl} {f : S} (w : WS K cl W De m0 H0 m H (r.trn f)) : WS K cl W { De with nx := tSe K cl W De m0 H0 m H f, ct := tSe K cl W De m0 H0 m H f, bk := De.nx } m0 H0 m H r := by
  cases r with
  | ok a h =>
    cases a with
    | nxt σ => exact fun m' H' σV e0 e C L => ⟨m', σ, h, e0, e, L, C, WS.up w e⟩
    | cnt σ => exact fun m' H' σV e0 e C L => ⟨m', σ, h, e0, e, L, C, WS.up w e⟩
    | brk σ => exact w
    | _ => exact w
  | exc c p h => exact w.elim
  | no => exact w.elim
theorem WS.ends {De : Ends} {m m0 : Mp} {H H0 : L2.Hp} {r : R Fl} {n1 n2 c1 c2 b : L2.St → L2.Hp → Prop} (w : WS K cl W { De with nx := n1, ct := c1, bk := b } m0 H0 m H r) (hn : ∀ σ H, n1 σ H → n2 σ H) (hc : ∀ σ H, c1 σ H → c2 σ H) : WS K cl W { De with nx := n2, ct := c2, bk := b } m0 H0 m H r := by
  cases r with
  | ok a h =>
    cases a with
    | nxt σ => exact fun m' H' σV e0 e C L => hn _ _ (w m' H' σV e0 e C L)
    | cnt σ => exact fun m' H' σV e0 e C L => hc _ _ (w m' H' σV e0 e C L)
    | _ => exact w
  | exc c p h => exact w
  | no => exact w
end
section
variable {X : Cx} {cl : Cl} {W : WX} {e tg : Expr} {ee : E} {g : G} {pos : Pos} {st : Stmt} {sts : List Stmt} {s r : S}
/-! ### blocks -/
theorem sns_nil : PSs X [] (tS X.K cl W bNil) := pss_imp pss_nil fun D σV H ⟨m, σ, h, m0, H0, e0, L, C, w⟩ => WS.nxt w e0 C L
theorem sns_cons (a : PS X st (tS X.K cl W s)) (b : PSs X sts (tS X.K cl W r)) : PSs X (st :: sts) (tS X.K cl W (bCons s r)) := pss_imp (pss_cons a b) fun D σV H ⟨m, σ, h, m0, H0, e0, L, C, w⟩ => ⟨m, σ, h, m0, H0, e0, L, C, WS.thn w⟩
theorem sns_pass : PS X (.Pass pos) (tS X.K cl W sPass) := ps_imp ps_pass fun D σV H ⟨m, σ, h, m0, H0, e0, L, C, w⟩ => WS.nxt w e0 C L
theorem sns_no : PS X st (tS X.K cl W sNo) := ps_imp ps_never fun D σV H ⟨m, σ, h, m0, H0, e0, L, C, w⟩ => w.elim
theorem sns_nos : PSs X sts (tS X.K cl W sNo) := pss_imp pss_never fun D σV H ⟨m, σ, h, m0, H0, e0, L, C, w⟩ => w.elim
/-! ### stores -/
theorem asg_use {De : Ends} {σV : L2.St} {H : L2.Hp} {ws : List Nat} {gg : TG} (hg : ∀ v σV H Q, tH X.K cl ws g v σV H Q → gg v σV H Q) (w : tS X.K cl W (sAsg g ee) De σV H) : tAsg (tE X.K cl W ee) gg De σV H := by
  obtain ⟨m, σ, h, m0, H0, e0, L, C, w⟩ := w
  exact tE.stm e0 L C w fun d h1 m1 H1 v e1 f1 L1 C1 r1 w1 => hg v σV H1 De.nx ⟨m1, d, σ, h1, H0, L1, C1, r1, (WS.val f1 L1 w1).imp fun σ' h2 m2 H2 e2 C2 w2 σV' L2' _ => WS.nxt w2.2.2 w2.1 C2 L2'⟩
theorem sns_asg {ws : List Nat} (he : PE X e (tE X.K cl W ee)) (hg : PG X tg (tH X.K cl ws g)) (hs : swapsWithSole [tg] e pos.line X.env = pure false := by rfl) (hw : swappedStores [tg] e X.env = pure none := by rfl)
    (h1 : (assignEach [tg] X.env).map (·.2) = [assign tg X.env] := by rfl) : PS X (.Assign [tg] e pos) (tS X.K cl W (sAsg g ee)) := ps_imp (ps_asg he hg hs hw h1) fun D σV H w => asg_use (fun _ _ _ _ z => z) w
theorem gName_of {i : Nat} {v : V} {σV : L2.St} {H : L2.Hp} {Q : L2.St → L2.Hp → Prop} {K : PySem.W.Frag} (w : tH K cl [i] (gLoc i) v σV H Q) : gName i v σV H Q := by
  obtain ⟨m, d, σ, h, H0, L, C, r, w⟩ := w
  exact WP.ok (a := σ.set i (some d)) (h := h) w C _ (L.set r) Sm.set
/-- x = e -/
theorem sns_set {i : Nat} {x : Str} {pos' : Pos} (hN : X.N.Nodup) (hi : X.N[i]? = some x) (hx : Loc X.env.scope x) (he : PE X e (tE X.K cl W ee)) (hs : swapsWith e (some (.Name x pos')) pos.line X.env = pure false := by rfl) (hf : X.fn x = true ∨ X.env.scope.names.lookup x = some .local := by first | exact .inl rfl | exact .inr rfl | assumption) :
    PS X (.Assign [.Name x pos'] e pos) (tS X.K cl W (sAsg (gLoc i) ee)) := ps_imp (ps_set hN hi hx he hs hf) fun D σV H w => asg_use (fun _ _ _ _ z => gName_of z) w
/-- o.f = e -/
theorem sns_fld {o : Expr} {f : Str} {pos' : Pos} {eo : E} {cs : List Nat} {fi : Nat} (cf : ∀ c ∈ cs, CF X.K cl c) (hf : ∀ c ∈ cs, (cl.fld c)[fi]? = some f) (ho : PE X o (tE X.K cl W0 eo)) (he : PE X e (tE X.K cl W ee)) (hs : swapsWithSole [.Attribute o f pos'] e pos.line X.env = pure false := by rfl) (hw : swappedStores [.Attribute o f pos'] e X.env = pure none := by rfl)
    (h1 : (assignEach [.Attribute o f pos'] X.env).map (·.2) = [assign (.Attribute o f pos') X.env] := by rfl) : PS X (.Assign [.Attribute o f pos'] e pos) (tS X.K cl W (sAsg (gFld cs fi eo) ee)) := sns_asg he (sng_fld cf hf ho) hs hw h1
/-- x, y = a, b -/
theorem sns_par {i j : Nat} {x y : Str} {a b : Expr} {ea eb : E} {px py pt : Pos} {kt k2 pt2} (hc : X.calm = true) (hN : X.N.Nodup) (hi : X.N[i]? = some x) (hj : X.N[j]? = some y) (hij : i ≠ j)
    (hx : X.env.scope.names.lookup x = some .local) (hy : X.env.scope.names.lookup y = some .local) (ha : PE X a (tE X.K cl W ea)) (hb : PE X b (tE X.K cl W eb))
    (hw : swappedStores [.Tuple [.Name x px, .Name y py] kt pt] (.Tuple [a, b] k2 pt2) X.env = pure (some [x, y]))
    (hs : swapsWithSole [.Tuple [.Name x px, .Name y py] kt pt] (.Tuple [a, b] k2 pt2) pos.line X.env = pure false := by rfl)
    (he : starEach [a, b] X.env = (false, eval a X.env) :: starEach [b] X.env := by rfl) (he2 : starEach [b] X.env = (false, eval b X.env) :: starEach [] X.env := by rfl) :
    PS X (.Assign [.Tuple [.Name x px, .Name y py] kt pt] (.Tuple [a, b] k2 pt2) pos) (tS X.K cl W (sPar i j ea eb)) :=
  ps_imp (ps_par hc hN hi hj hij hx hy (pa_cons ha (pa_cons hb pa_nil he2) he) hw hs) fun De σV H ⟨m, σ, h, m0, H0, e0, L, C, w⟩ => tE.stm e0 L C w fun d h1 m1 H1 v e1 f1 L1 C1 r1 w1 => tE.stm f1 L1 C1 w1 fun d2 h2 m2 H2 v2 e2 f2 L2' C2 r2 w2 =>
    ⟨v, v2, rfl, WS.nxt w2 f2 C2 ((L2'.set (r1.up e2)).set r2)⟩
theorem sns_par3 {i j l : Nat} {x y z : Str} {a b c : Expr} {ea eb ec : E} {px py pz pt : Pos} {kt k2 pt2} (hc : X.calm = true) (hN : X.N.Nodup) (hi : X.N[i]? = some x) (hj : X.N[j]? = some y) (hl : X.N[l]? = some z) (hij : i ≠ j) (hil : i ≠ l) (hjl : j ≠ l)
    (hx : X.env.scope.names.lookup x = some .local) (hy : X.env.scope.names.lookup y = some .local) (hz : X.env.scope.names.lookup z = some .local) (ha : PE X a (tE X.K cl W ea)) (hb : PE X b (tE X.K cl W eb)) (hc3 : PE X c (tE X.K cl W ec))
    (hw : swappedStores [.Tuple [.Name x px, .Name y py, .Name z pz] kt pt] (.Tuple [a, b, c] k2 pt2) X.env = pure (some [x, y, z]))
    (hs : swapsWithSole [.Tuple [.Name x px, .Name y py, .Name z pz] kt pt] (.Tuple [a, b, c] k2 pt2) pos.line X.env = pure false := by rfl)
    (he : starEach [a, b, c] X.env = (false, eval a X.env) :: starEach [b, c] X.env := by rfl) (he2 : starEach [b, c] X.env = (false, eval b X.env) :: starEach [c] X.env := by rfl) (he3 : starEach [c] X.env = (false, eval c X.env) :: starEach [] X.env := by rfl) :
    PS X (.Assign [.Tuple [.Name x px, .Name y py, .Name z pz] kt pt] (.Tuple [a, b, c] k2 pt2) pos) (tS X.K cl W (sPar3 i j l ea eb ec)) :=
  ps_imp (ps_par3 hc hN hi hj hl hij hil hjl hx hy hz (pa_cons ha (pa_cons hb (pa_cons hc3 pa_nil he3) he2) he) hw hs) fun De σV H ⟨m, σ, h, m0, H0, e0, L, C, w⟩ => tE.stm e0 L C w fun d h1 m1 H1 v e1 f1 L1 C1 r1 w1 => tE.stm f1 L1 C1 w1 fun d2 h2 m2 H2 v2 e2 f2 L2' C2 r2 w2 =>
    tE.stm f2 L2' C2 w2 fun d3 h3 m3 H3 v3 e3 f3 L3 C3 r3 w3 => ⟨v, v2, v3, rfl, WS.nxt w3 f3 C3 (((L3.set ((r1.up e2).up e3)).set (r2.up e3)).set r3)⟩
/-- t1 = t2 = e -/
theorem sns_mul {ws us : List Nat} {t1 t2 : Expr} {g1 g2 : G} (he : PE X e (tE X.K cl W ee)) (h1 : PG X t1 (tH X.K cl ws g1)) (h2 : PG X t2 (tH X.K cl us g2)) (ha : (assignEach [t1, t2] X.env).map (·.2) = [assign t1 X.env, assign t2 X.env] := by rfl) (hw : swappedStores [t1, t2] e X.env = pure none := by rfl) :
    PS X (.Assign [t1, t2] e pos) (tS X.K cl W (sMul g1 g2 ee)) :=
  ps_imp (ps_asg2 he h1 h2 ha hw) fun De σV H ⟨m, σ, h, m0, H0, e0, L, C, w⟩ => tE.stm e0 L C w fun d h1 m1 H1 v e1 f1 L1 C1 r1 w1 =>
    ⟨m1, d, σ, h1, H0, L1, C1, r1, (WS.val f1 L1 w1).imp fun σ2 h2 m2 H2 e2 C2 w2 σV2 L2' _ => ⟨m2, d, σ2, h2, H0, L2', C2, r1.up e2, (WS.val w2.1 L2' w2.2.2).imp fun σ3 h3 m3 H3 e3 C3 w3 σV3 L3 _ => WS.nxt w3.2.2 w3.1 C3 L3⟩⟩
theorem sns_mul3 {ws us ts : List Nat} {t1 t2 t3 : Expr} {g1 g2 g3 : G} (he : PE X e (tE X.K cl W ee)) (h1 : PG X t1 (tH X.K cl ws g1)) (h2 : PG X t2 (tH X.K cl us g2)) (h3 : PG X t3 (tH X.K cl ts g3)) (ha : (assignEach [t1, t2, t3] X.env).map (·.2) = [assign t1 X.env, assign t2 X.env, assign t3 X.env] := by rfl) (hw : swappedStores [t1, t2, t3] e X.env = pure none := by rfl) :
    PS X (.Assign [t1, t2, t3] e pos) (tS X.K cl W (sMul3 g1 g2 g3 ee)) :=
  ps_imp (ps_asg3 he h1 h2 h3 ha hw) fun De σV H ⟨m, σ, h, m0, H0, e0, L, C, w⟩ => tE.stm e0 L C w fun d h1 m1 H1 v e1 f1 L1 C1 r1 w1 =>
    ⟨m1, d, σ, h1, H0, L1, C1, r1, (WS.val f1 L1 w1).imp fun σ2 h2 m2 H2 e2 C2 w2 σV2 L2' _ => ⟨m2, d, σ2, h2, H0, L2', C2, r1.up e2, (WS.val w2.1 L2' w2.2.2).imp fun σ3 h3 m3 H3 e3 C3 w3 σV3 L3 _ =>
      ⟨m3, d, σ3, h3, H0, L3, C3, (r1.up e2).up e3, (WS.val w3.1 L3 w3.2.2).imp fun σ4 h4 m4 H4 e4 C4 w4 σV4 L4 _ => WS.nxt w4.2.2 w4.1 C4 L4⟩⟩⟩
/-! ### expressions, returns -/
theorem sns_ex (he : PE X e (tE X.K cl W ee)) (hs : swapsWith e none pos.line X.env = pure false := by rfl) : PS X (.Expr e pos) (tS X.K cl W (sEx ee)) :=
  ps_imp (ps_expr he hs) fun De σV H ⟨m, σ, h, m0, H0, e0, L, C, w⟩ => tE.stm e0 L C w fun d h1 m1 H1 v e1 f1 L1 C1 r1 w1 => WS.nxt w1 f1 C1 L1
theorem sns_ret (he : PE X e (tE X.K cl W ee)) : PS X (.Return (some e) pos) (tS X.K cl W (sRet ee)) :=
  ps_imp (ps_ret he) fun De σV H ⟨m, σ, h, m0, H0, e0, L, C, w⟩ => tE.stm e0 L C w fun d h1 m1 H1 v e1 f1 L1 C1 r1 w1 => w1 m1 H1 v f1 Ex2.refl C1 r1
/-! ### if, while, for -/
theorem sns_if {c : Expr} {a b : List Stmt} {tc : T} {sa sb : S} (hc : PT X c (tT X.K cl W tc)) (ha : PSs X a (tS X.K cl W sa)) (hb : PSs X b (tS X.K cl W sb)) : PS X (.If c a b pos) (tS X.K cl W (sIf tc sa sb)) :=
  ps_imp (ps_if hc ha hb) fun De σV H ⟨m, σ, h, m0, H0, e0, L, C, w⟩ => tT.stm e0 L C w fun d h1 m1 H1 e1 f1 L1 C1 w1 => by
    cases d with
    | true => exact ⟨m1, σ, h1, m0, H0, f1, L1, C1, w1⟩
    | false => exact ⟨m1, σ, h1, m0, H0, f1, L1, C1, w1⟩
theorem sns_whl {n : Nat} {c : Expr} {body : List Stmt} {tc : T} {sb : S} (hp : PassesOwn (model X.prog X.w) X.A X.env X.xe) (hc : PT X c (tT X.K cl W tc)) (hb : PSs X body (tS X.K cl W sb)) : PS X (.While c body [] pos) (tS X.K cl W (sWhl n tc sb)) :=
  ps_imp (ps_while hp hc hb) fun De σV H w => by
    refine ⟨fun k σV H => tS X.K cl W (sWhl k tc sb) De σV H, ⟨n, w⟩, fun k σV H w => ?_⟩
    obtain ⟨m, σ, h, m0, H0, e0, L, C, w⟩ := w
    cases k with
    | zero => exact w.elim
    | succ k =>
      refine tT.stm e0 L C w fun d h1 m1 H1 e1 f1 L1 C1 w1 => ?_
      cases d with
      | true => exact ⟨tS X.K cl W (sWhl k tc sb) De, fun σ' H' q => ⟨k, Nat.lt_succ_self k, q⟩, m1, σ, h1, m0, H0, f1, L1, C1, (WS.trn w1).ends (fun _ _ z => z.tS) (fun _ _ z => z.tS)⟩
      | false => exact WS.nxt (σ := σ) (h := h1) w1 f1 C1 L1
theorem sns_for {ws : List Nat} {iter : Expr} {body : List Stmt} {i : A} {sb : S} (hp : PassesOwn (model X.prog X.w) X.A X.env X.xe) (hc : X.calm = true) (hi : PI X tg iter (tI X.K cl W i)) (hg : PG X tg (tH X.K cl ws g)) (hb : PSs X body (tS X.K cl W sb))
    (hs : ∀ x, foldedSetIterable iter X.env x = pure x := by intro _; rfl) : PS X (.For tg iter body [] pos) (tS X.K cl W (sFor g i sb)) :=
  ps_imp (ps_for hp hc hi hg hb hs) fun De σV H ⟨m, σ, h, m0, H0, e0, L, C, w⟩ => by
    refine ⟨m, σ, h, H0, L, C, (WS.stm e0 L w).imp fun xs h1 m1 H1 e1 C1 w1 J wk => ?_⟩
    refine ⟨fun k n σV H => n = xs.length - k ∧ k ≤ xs.length ∧ tSe X.K cl W De m0 H0 m1 H1 (forGo g sb (xs.drop k)) σV H, ⟨xs.length, by simp, Nat.zero_le _, m1, σ, h1, w1.1, Ex2.refl, L.up e1, C1, w1.2⟩, ?_⟩
    rintro k n σV2 H2 ⟨rfl, hk, m2, σ2, h2, f2, e2, L2', C2, w2⟩
    obtain ⟨wk1, wk2⟩ := wk k m2 H2 e2
    by_cases hlt : k < xs.length
    · obtain ⟨go, yld⟩ := wk1 xs[k] (List.getElem?_eq_getElem hlt)
      have ed : xs.drop k = xs[k] :: xs.drop (k + 1) := List.drop_eq_getElem_cons hlt
      rw [ed] at w2
      refine .inr ⟨go, fun σV H => k + 1 ≤ xs.length ∧ tSe X.K cl W De m0 H0 m1 H1 (forGo g sb (xs.drop (k + 1))) σV H, fun σ' H' q => ⟨xs.length - (k + 1), by omega, rfl, q.1, q.2⟩, fun x H3 hy => ?_⟩
      obtain ⟨e3, c3, rx⟩ := yld x H3 hy
      have L3 := L2'.up e3
      refine ⟨m2, xs[k], σ2, h2, H0, L3, c3 h2 C2, rx, (WS.val (f2.trans e3) L3 (WS.up w2 e3.ex2)).imp fun σ4 h4 m4 H4 e4 C4 w4 σV4 L4 _ => ?_⟩
      have e24 : Ex2 m1 m4 H1 H4 := (e2.trans e3.ex2).trans e4.ex2
      exact ⟨m4, σ4, h4, m0, H0, w4.1, L4, C4, (WS.trn w4.2.2).ends (fun _ _ ⟨m', σ, h, f, e, a, b, c⟩ => ⟨hlt, m', σ, h, f, e24.trans e, a, b, c⟩) (fun _ _ ⟨m', σ, h, f, e, a, b, c⟩ => ⟨hlt, m', σ, h, f, e24.trans e, a, b, c⟩)⟩
    · refine .inl ⟨wk2 (by omega), ?_⟩
      rw [List.drop_eq_nil_of_le (by omega)] at w2
      exact WS.nxt w2 f2 C2 L2'
/-- y = [elt for tg in iter if ..], y a local -/
theorem sns_setLc {ws : List Nat} {i : Nat} {y : Str} {py : Pos} {elt tg iter : Expr} {ifs : List Expr} {scope : Scope} {own : List (Str × Nat)} {pos spos : Pos} {ii : A} {g : G} {t : T} (hc : X.calm = true) (hN : X.N.Nodup) (hy : X.N[i]? = some y) (hyl : X.env.scope.names.lookup y = some .local)
    (hsw : swapsWith (.ListComp elt [⟨tg, iter, ifs, 0⟩] scope pos) (some (.Name y py)) spos.line X.env = pure true) (hi : PI X tg iter (tI X.K cl W ii)) (ok : BlkOk X.N X.env.scope scope own) (hws : ∀ k ∈ ws, k ∈ own.map (·.2))
    (hg : ∀ (s : Shared) (H : L2.Hp) (C : Addr) (cl' : List (Str × Addr)) (fp : List Addr), PG (X.blk s H scope (compEnvC scope cl' C X.env) fp) tg (tH X.K cl ws g)) (ht : ∀ (s : Shared) (H : L2.Hp) (C : Addr) (cl' : List (Str × Addr)) (fp : List Addr), PTs (X.blk s H scope (compEnvC scope cl' C X.env) fp) ifs (tT X.K cl W0 t))
    (he : ∀ (s : Shared) (H : L2.Hp) (C : Addr) (cl' : List (Str × Addr)) (fp : List Addr), PE (X.blk s H scope (compEnvC scope cl' C X.env) fp) elt (tE X.K cl W0 ee)) (hs : ∀ x, foldedSetIterable iter X.env x = pure x := by intro _; rfl) :
    PS X (.Assign [.Name y py] (.ListComp elt [⟨tg, iter, ifs, 0⟩] scope pos) spos) (tS X.K cl W (sAsg (gLoc i) (eLc (own.map (·.2)) g ii t ee))) :=
  ps_imp (ps_fq (ps_setLc hc hN hy hyl hsw hi ok hg ht he hs)) fun De σV H w => by
    have w1 : tAsg (tE X.K cl W (eLc (own.map (·.2)) g ii t ee)) (gName i) De σV H := asg_use (W := W) (fun _ _ _ _ z => gName_of z) w
    have w2 : tE X.K cl W (eLc (own.map (·.2)) g ii t ee) σV H (fun v H => De.nx (σV.set i (some v)) H) := w1
    refine lc_use hws (fun v H q => ?_) w2
    rcases q with q | ⟨a, u, e1, e2, mu, q⟩
    · exact .inl q
    · subst e1
      exact .inr ⟨a, u, e2, mu, q⟩
/-! ### op= -/
theorem ops_iadd {K : PySem.W.Frag} : OpS K cl fIAdd rAdd := fun x y v u E m h H Q C rx ry w => by
  cases rx <;> cases ry <;> first | exact w.elim | skip
  exact ⟨_, _, rfl, rfl, WP.ok w C _ (.int _)⟩
theorem ops_isub {K : PySem.W.Frag} : OpS K cl fISub rSub := fun x y v u E m h H Q C rx ry w => by
  cases rx <;> cases ry <;> first | exact w.elim | skip
  exact ⟨_, _, rfl, rfl, WP.ok w C _ (.int _)⟩
theorem ops_iaddP {K : PySem.W.Frag} : OpS K cl fIAdd (ipI fun i j => i + j) := ops_iadd
theorem ops_isubP {K : PySem.W.Frag} : OpS K cl fISub (ipI fun i j => i - j) := ops_isub
theorem sns_augF {op : Operator} {f : D → D → Hp → R D} {rd : V → V → L2.Hp → VK → Prop} {o : Expr} {eo : E} {x : Str} {tpos : Pos} {c0 fi : Nat} (hop : InOp X op rd) (of : OpS X.K cl f rd) (cf : ∀ c ∈ [c0], CF X.K cl c) (hf : ∀ c ∈ [c0], (cl.fld c)[fi]? = some x)
    (ho : PE X o (tE X.K cl W eo)) (he : PE X e (tE X.K cl W ee)) : PS X (.AugAssign (.Attribute o x tpos) op e pos) (tS X.K cl W (sAugF [c0] fi f eo ee)) :=
  ps_imp (ps_fldaug ho he hop) fun De σV H ⟨m, σ, h, m0, H0, e0, L, C, w⟩ => tE.stm e0 L C w fun d h1 m1 H1 v e1 f1 L1 C1 r1 w1 => by
    have q1 := WS.val f1 L1 w1
    obtain ⟨z, ez, q1⟩ := WP.opt q1
    obtain ⟨a, c, dx, fv, u, rfl, hcs, hH, hl, rz⟩ := fldAt_of C1 r1 ez hf
    obtain ⟨f1, L1, w1⟩ := WP.ok q1 C1
    refine ⟨a, _, dx, fv, u, rfl, hH, (cf c hcs).cls, (cf c hcs).no x (List.mem_of_getElem? (hf c hcs)), hl, tE.stm f1 L1 C1 w1 fun d2 h2 m2 H2 v2 e2 f2 L2' C2 r2 w2 => ?_⟩
    refine of _ _ _ _ F0 _ _ _ _ C2 (rz.up e2) r2 ((WS.val f2 L2' w2).imp fun dz h3 m3 H3 e3 C3 w3 vz rdz => ?_)
    obtain ⟨a', c', dx', fs', h', ea, hH3, hcs', hl', ex, C4, w4⟩ := setF_of cf hf C3 ((r1.up e2).up e3) rdz (WS.val w3.1 w3.2.1 w3.2.2)
    cases ea
    obtain rfl : c = c0 := by simpa using hcs
    obtain rfl : c' = c := by simpa using hcs'
    exact ⟨dx', fs', hH3, hl', WS.nxt w4.2.2 w4.1 C4 w4.2.1⟩
theorem sns_augD {op : Operator} {f : D → D → Hp → R D} {rd : V → V → L2.Hp → VK → Prop} {o k : Expr} {eo ek : E} {tpos : Pos} (hu : X.A.units + 1 < cLine) (hop : InOp X op rd) (of : OpS X.K cl f rd)
    (ho : PE X o (tE X.K cl W eo)) (hk : PE X k (tE X.K cl W ek)) (he : PE X e (tE X.K cl W ee))
    (ha : ∀ ov iv new, augStore k ov iv new = (do holding [new, ov, iv] (setItem ov iv new); release [new, ov, iv] []; pure .next) := by intro _ _ _; rfl) : PS X (.AugAssign (.Subscript o k tpos) op e pos) (tS X.K cl W (sAugD f eo ek ee)) :=
  ps_imp (ps_daug hu ho hk he hop ha) fun De σV H ⟨m, σ, h, m0, H0, e0, L, C, w⟩ => tE.stm e0 L C w fun d h1 m1 H1 v e1 f1 L1 C1 r1 w1 => tE.stm f1 L1 C1 w1 fun dk h2 m2 H2 vk e2 f2 L2' C2 rk w2 => by
    have q1 : WP X.K cl F0 m2 H2 (fGetD d dk h2) _ := WS.val f2 L2' w2
    obtain ⟨p, ep, q1⟩ := WP.opt q1
    obtain ⟨hkey, q1⟩ := WP.grd q1
    obtain ⟨z, ez, q1⟩ := WP.opt q1
    obtain ⟨a, o', rfl, g, ⟨e4, _⟩ | ⟨z', u, e4, rfl, rz⟩⟩ := dget_of C2 (r1.up e2) rk ep hkey
    · rw [ez] at e4; cases e4
    · rw [ez] at e4
      cases e4
      obtain ⟨f2, L2', w2⟩ := WP.ok q1 C2
      refine ⟨a, u, rfl, g, tE.stm f2 L2' C2 w2 fun d3 h3 m3 H3 v3 e3 f3 L3 C3 r3 w3 => ?_⟩
      refine of _ _ _ _ F0 _ _ _ _ C3 (rz.up e3) r3 ((WS.val f3 L3 w3).imp fun dz h4 m4 H4 e4 C4 w4 vz rdz => ?_)
      obtain ⟨a', H', h', ea, gp, ex, C5, w5⟩ := put_of C4 (((r1.up e2).up e3).up e4) ((rk.up e3).up e4) rdz (WS.val w4.1 w4.2.1 w4.2.2)
      cases ea
      exact ⟨H', gp, WS.nxt w5.2.2 w5.1 C5 w5.2.1⟩
theorem sns_augL {i : Nat} {x : Str} {op : Operator} {f : D → D → Hp → R D} {ti : TIp} {pos' : Pos} (hN : X.N.Nodup) (hi : X.N[i]? = some x) (hx : Loc X.env.scope x) (hop : PIp X op ti) (of : OpS X.K cl f ti) (he : PE X e (tE X.K cl W ee)) (hf : X.fn x = true ∨ X.env.scope.names.lookup x = some .local := by first | exact .inl rfl | exact .inr rfl | assumption) :
    PS X (.AugAssign (.Name x pos') op e pos) (tS X.K cl W (sAugL i f ee)) :=
  ps_imp (ps_aug hN hi hx he hop hf) fun De σV H ⟨m, σ, h, m0, H0, e0, L, C, w⟩ => by
    have q1 : WP X.K cl F0 m H (eLoc i σ h) _ := WS.val e0 L w
    cases q : eLoc i σ h with
    | exc c p h' => rw [q] at q1; exact (q1 m H Ext.refl (by
        unfold eLoc at q
        rw [nth_eq] at q
        split at q <;> cases q)).elim
    | no => rw [q] at q1; exact q1.elim
    | ok d h' =>
      have pl : h' = h ∧ ∃ v, σV[i]? = some (some v) ∧ RD X.K cl H m d v := by
        unfold eLoc at q
        rw [nth_eq] at q
        cases z : σ[i]? with
        | none => simp only [z] at q; cases q
        | some o =>
          cases o with
          | none => simp only [z] at q; cases q
          | some d0 =>
            obtain ⟨v, h1, r⟩ := L.loc i d0 z
            by_cases od : isOwn d0 = true
            · cases d0 <;> first | (cases od; done) | (simp only [z] at q; cases q)
            · have od' : isOwn d0 = false := by cases y : isOwn d0 <;> simp_all
              have e' : R.ok d0 h = R.ok d h' := by
                cases d0 <;> first | (cases od'; done) | (simp only [z] at q; exact q)
              cases e'
              exact ⟨rfl, v, h1, r.rd od'⟩
      obtain ⟨rfl, v, hv, rv⟩ := pl
      rw [q] at q1
      obtain ⟨f1, L1, w1⟩ := WP.ok q1 C
      refine ⟨v, hv, tE.stm f1 L1 C w1 fun d2 h2 m2 H2 v2 e2 f2 L2' C2 r2 w2 => ?_⟩
      exact of _ _ _ _ F0 _ _ _ _ C2 (rv.up e2) r2 ((WS.val f2 L2' w2).imp fun dz h3 m3 H3 e3 C3 w3 vz rdz => WS.nxt w3.2.2 w3.1 C3 (w3.2.1.set rdz))
end
end IP

namespace IP
open PySem PySem.Spec PyProof.Rows L2
/-! ### what one name alone holds -/
section
variable {X : Cx} {cl : Cl} {W : WX} {e k : Expr} {ee ek : E} {es : List Expr} {ae : A} {pos pos' : Pos} {i : Nat} {x : Str}
theorem Lc.fresh {K : PySem.W.Frag} {m : Mp} {H0 H : L2.Hp} {σ : Lo} {σV : L2.St} {h : Hp} {p : Addr} {o : HO} {d : D} (L : Lc K cl m H0 H σ σV) (n : H p = none) (r : LD K cl m H0 (upd H p o) d (.ref p)) : Lc K cl m H0 (upd H p o) (σ.set i (some d)) (σV.set i (some (.ref p))) := by
  refine (L.up (Ext.lay n)).setL r fun _ j e _ hj oe z => ?_
  obtain ⟨v, h1, r1⟩ := L.loc j e hj
  rw [z] at h1
  cases h1
  match e, oe, r1 with
  | .ownL xs, _, r1 => obtain ⟨a, vs, ea, q, _⟩ := r1; cases ea; rw [n] at q; cases q
  | .ownD false rows, _, r1 => obtain ⟨a, vs, ea, q, _⟩ := r1; cases ea; rw [n] at q; cases q
  | .ownD true rows, _, r1 => obtain ⟨a, vs, ea, q, _⟩ := r1; cases ea; rw [n] at q; cases q
theorem Ext.none0 {m m' : Mp} {H H' : L2.Hp} {p : Addr} (e : Ext m m' H H') (n : H' p = none) : Emp H p := Classical.byContradiction fun z => e.old p z (emp_of n)
/-- x = [..] -/
theorem sns_ownL (hN : X.N.Nodup) (hi : X.N[i]? = some x) (hx : Loc X.env.scope x) (ha : PA X es (tA X.K cl W ae)) {lpos : Pos} (hs : swapsWith (.List es lpos) (some (.Name x pos')) pos.line X.env = pure false := by rfl) (hf : X.fn x = true ∨ X.env.scope.names.lookup x = some .local := by first | exact .inl rfl | exact .inr rfl | assumption) :
    PS X (.Assign [.Name x pos'] (.List es lpos) pos) (tS X.K cl W (sOwnL i ae)) :=
  ps_imp (ps_set hN hi hx (pe_lst ha) hs hf) fun De σV H ⟨m, σ, h, m0, H0, e0, L, C, w⟩ => by
    have w1 := WS.stm e0 L w
    refine ⟨m, σ, h, H0, L, C, w1.imp fun ds h1 m1 H1 e1 C1 w2 vs r1 => ?_⟩
    obtain ⟨f1, w2⟩ := w2
    by_cases c : ds.length ≤ bigD
    · rw [if_pos c] at w2
      refine ⟨by rw [← r1.length]; exact line1 c, fun p n => ?_⟩
      have ex : Ext m1 m1 H1 (upd H1 p (.lst vs)) := Ext.lay n
      have fr : Free m1 p := fun k j z => C1.old k j p z n
      exact w2 m1 _ _ (f1.trans ex) ex.ex2 (C1.lay n) (Lc.fresh (h := h1) (L.up e1) n ⟨p, vs, rfl, upd_same, r1.up ex, f1.none0 n, fr⟩)
    · rw [if_neg c] at w2
      exact w2.elim
/-- x = {} -/
theorem sns_ownK (hN : X.N.Nodup) (hi : X.N[i]? = some x) (hx : Loc X.env.scope x) {lpos : Pos} (hs : swapsWith (.Dict [] [] lpos) (some (.Name x pos')) pos.line X.env = pure false := by rfl) (hf : X.fn x = true ∨ X.env.scope.names.lookup x = some .local := by first | exact .inl rfl | exact .inr rfl | assumption) :
    PS X (.Assign [.Name x pos'] (.Dict [] [] lpos) pos) (tS X.K cl W (sOwnD i false)) :=
  ps_imp (ps_set hN hi hx pe_dnewK hs hf) fun De σV H ⟨m, σ, h, m0, H0, e0, L, C, w⟩ p n => by
    have ex : Ext m m H (upd H p (.dK [])) := Ext.lay n
    have fr : Free m p := fun k j z => C.old k j p z n
    exact w m _ _ (e0.trans ex) ex.ex2 (C.lay n) (Lc.fresh (h := h) L n ⟨p, [], rfl, upd_same, .nil, e0.none0 n, fr⟩)
theorem sns_ownT (hN : X.N.Nodup) (hi : X.N[i]? = some x) (hx : Loc X.env.scope x) {lpos : Pos} (hs : swapsWith (.Dict [] [] lpos) (some (.Name x pos')) pos.line X.env = pure false := by rfl) (hf : X.fn x = true ∨ X.env.scope.names.lookup x = some .local := by first | exact .inl rfl | exact .inr rfl | assumption) :
    PS X (.Assign [.Name x pos'] (.Dict [] [] lpos) pos) (tS X.K cl W (sOwnD i true)) :=
  ps_imp (ps_set hN hi hx pe_dnewT hs hf) fun De σV H ⟨m, σ, h, m0, H0, e0, L, C, w⟩ p n => by
    have ex : Ext m m H (upd H p (.dT [])) := Ext.lay n
    have fr : Free m p := fun k j z => C.old k j p z n
    exact w m _ _ (e0.trans ex) ex.ex2 (C.lay n) (Lc.fresh (h := h) L n ⟨p, [], rfl, upd_same, .nil, e0.none0 n, fr⟩)
/-- the list that a name alone holds has changed -/
theorem own_step {K : PySem.W.Frag} {De : Ends} {m m0 : Mp} {H H0 : L2.Hp} {h : Hp} {σ : Lo} {σV : L2.St} {d d' : D} {p : Addr} {u o : HO} (e0 : Ext m0 m H0 H) (L : Lc K cl m H0 H σ σV) (C : Hc K cl m h H) (q : σ[i]? = some (some d)) (od : isOwn d = true) (qv : σV[i]? = some (some (.ref p))) (hp : H p = some u) (wu : Wr u) (fr : Free m p) (n0 : Emp H0 p)
    (r : LD K cl m H0 (upd H p o) d' (.ref p)) (w : WS K cl W De m0 H0 m H (.ok (.nxt (σ.set i (some d'))) h)) (no : NTb o := by exact fun ps z => by cases z) : De.nx σV (upd H p o) :=
  w m _ σV (e0.sideE n0 no) (Ex2.wr hp wu no) (C.side fr hp wu no) (L.own q od qv hp wu r)
/-- x.append(e) -/
theorem sns_oapp {apos npos : Pos} (hN : X.N[i]? = some x) (hv : Vis X.env.scope x) (he : PE X e (tE X.K cl W ee)) (hd : (x == ("__debug__" : Str)) = false := by decide) (hcd : (x == ("__classdict__" : Str)) = false := by decide)
    (hbase : attributeBase (.Name x npos) "append" X.env (eval (.Name x npos) X.env) = eval (.Name x npos) X.env := by rfl)
    (hfew : ((backTo pos' (starEach [e] X.env)).all (fun x => !x.1) && (backToKw pos' (keywordEach [] X.env)).all (fun x => x.1.isSome)
      && decide ([e].length + ([] : List Keyword).length + (if ([] : List Keyword).isEmpty then 0 else 1) < 30)) = true := by rfl)
    (hline : (apos.endLine == pos'.line) = true := by rfl) (hs : starEach [e] X.env = (false, eval e X.env) :: starEach [] X.env := by rfl) (hplain : (backTo pos' (starEach [] X.env)).any (·.1) = false := by rfl)
    (hsw : swapsWith (.Call (.Attribute (.Name x npos) "append" apos) [e] [] pos') none pos.line X.env = pure false := by rfl) :
    PS X (.Expr (.Call (.Attribute (.Name x npos) "append" apos) [e] [] pos') pos) (tS X.K cl W (sOApp i ee)) :=
  ps_imp (ps_expr (pe_bm PySem.F.plainAttrs_list PySem.F.slot_list_append PySem.F.type_list_append mt_append (pe_var hN hv hd hcd) (pa_cons he pa_nil hs) hbase hfew hline hs hplain) hsw) fun De σV H ⟨m, σ, h, m0, H0, e0, L, C, w⟩ => by
    unfold sOApp at w
    cases hσ : σ[i]? with
    | none => simp only [hσ] at w; exact w.elim
    | some o =>
    cases o with
    | none => simp only [hσ] at w; exact w.elim
    | some d0 =>
    cases d0 <;> first | (simp only [hσ] at w; exact w.elim) | skip
    rename_i xs
    simp only [hσ] at w
    have w1 := WS.stm e0 L w
    obtain ⟨v0, hv0, a, vs0, rfl, hH, rs, n0, fr⟩ := L.loc i _ hσ
    refine ⟨.ref a, hv0, .inl ⟨rfl, vs0, .inl (.inl hH)⟩, m, σ, h, H0, L, C, w1.imp fun d h1 m1 H1 e1 C1 w2 v r1 => ?_⟩
    obtain ⟨f1, w2⟩ := w2
    have L1 := L.up e1
    obtain ⟨v1, hv1, a1, vs1, ea, hH1, rs1, _, fr1⟩ := L1.loc i _ hσ
    rw [hv0] at hv1
    cases hv1
    cases ea
    by_cases c : xs.length < bigD
    · rw [if_pos c] at w2
      refine ⟨a, vs1, v, rfl, rfl, hH1, by rw [← rs1.length]; exact line2 c, ?_⟩
      exact own_step (d' := .ownL (xs ++ [d])) f1 L1 C1 hσ rfl hv0 hH1 trivial fr1 n0 ⟨a, vs1 ++ [v], rfl, upd_same, (rs1.append (.cons r1 .nil)).upI (Imm.wr hH1 trivial), n0, fr1⟩ w2
    · rw [if_neg c] at w2
      exact w2.elim
/-- x[k] = v -/
theorem sns_oput {npos spos : Pos} {value : Expr} {ev : E} (hu : X.A.units + 1 < cLine) (hN : X.N[i]? = some x) (hv : Vis X.env.scope x) (hk : PE X k (tE X.K cl W ek)) (he : PE X value (tE X.K cl W ev)) (hd : (x == ("__debug__" : Str)) = false := by decide) (hcd : (x == ("__classdict__" : Str)) = false := by decide)
    (hs : swapsWith value (some (.Subscript (.Name x npos) k spos)) pos.line X.env = pure false := by rfl) : PS X (.Assign [.Subscript (.Name x npos) k spos] value pos) (tS X.K cl W (sOPut i ek ev)) :=
  ps_imp (ps_dput hu (pe_var hN hv hd hcd) hk he hs) fun De σV H ⟨m, σ, h, m0, H0, e0, L, C, w⟩ => by
    unfold sOPut at w
    cases hσ : σ[i]? with
    | none => simp only [hσ] at w; exact w.elim
    | some o =>
    cases o with
    | none => simp only [hσ] at w; exact w.elim
    | some d0 =>
    cases d0 <;> first | (simp only [hσ] at w; exact w.elim) | skip
    rename_i t rows
    simp only [hσ] at w
    refine tE.stm e0 L C w fun d h1 m1 H1 v e1 f1 L1 C1 r1 w1 => ?_
    obtain ⟨v1, hv1, q1⟩ := L1.loc i _ hσ
    refine ⟨v1, hv1, tE.stm f1 L1 C1 w1 fun kd h2 m2 H2 vk e2 f2 L2' C2 rk w2 => ?_⟩
    have w2 : WS X.K cl W De m0 H0 m2 H2 (grd (isKey t kd && decide (rows.length < bigD)) (.ok (.nxt (σ.set i (some (.ownD t (putR kd d rows))))) h2)) := w2
    cases hg : (isKey t kd && decide (rows.length < bigD)) with
    | false => rw [hg] at w2; exact w2.elim
    | true =>
      rw [hg] at w2
      have w2 : WS X.K cl W De m0 H0 m2 H2 (.ok (.nxt (σ.set i (some (.ownD t (putR kd d rows))))) h2) := w2
      rw [Bool.and_eq_true] at hg
      obtain ⟨v2, hv2, q2⟩ := L2'.loc i _ hσ
      rw [hv1] at hv2
      cases hv2
      cases t
      · obtain ⟨a, kvs, rfl, hH, rs, n0, fr⟩ := q2
        obtain ⟨k', rfl, rfl⟩ := isK_of rk hg.1
        refine ⟨a, _, rfl, .k hH (by rw [← rs.length]; exact line2 (of_decide_eq_true hg.2)), ?_⟩
        exact own_step (d' := .ownD false (putR (kD k') d rows)) f2 L2' C2 hσ rfl hv1 hH trivial fr n0 ⟨a, _, rfl, upd_same, (rs.put k' (r1.up e2)).upI (Imm.wr hH trivial), n0, fr⟩ w2
      · obtain ⟨a, kvs, rfl, hH, rs, n0, fr⟩ := q2
        obtain ⟨ks, b, rfl, rfl, eb⟩ := isT_of rk hg.1
        refine ⟨a, _, rfl, .t hH eb (by rw [← rs.length]; exact line2 (of_decide_eq_true hg.2)), ?_⟩
        exact own_step (d' := .ownD true (putR (.tup (ks.map kD)) d rows)) f2 L2' C2 hσ rfl hv1 hH trivial fr n0 ⟨a, _, rfl, upd_same, (rs.put ks (r1.up e2)).upI (Imm.wr hH trivial), n0, fr⟩ w2
/-- x[k], x such a dict -/
theorem snd_oidx {npos : Pos} (hu : X.A.units + 1 < cLine) (hN : X.N[i]? = some x) (hv : Vis X.env.scope x) (hk : PE X k (tE X.K cl W ek)) (hd : (x == ("__debug__" : Str)) = false := by decide) (hcd : (x == ("__classdict__" : Str)) = false := by decide) (hs : NoSl k := by exact fun _ _ => rfl) :
    PE X (.Subscript (.Name x npos) k pos) (tE X.K cl W (eOIdx i ek)) :=
  pe_imp (pe_dget hu (pe_var hN hv hd hcd) hk hs) fun σV H Q ⟨m, σ, h, H0, L, C, w⟩ => by
    unfold eOIdx at w
    cases hσ : σ[i]? with
    | none => simp only [hσ] at w; exact w.elim
    | some o =>
    cases o with
    | none => simp only [hσ] at w; exact w.elim
    | some d0 =>
    cases d0 <;> first | (simp only [hσ] at w; exact w.elim) | skip
    rename_i t rows
    simp only [hσ] at w
    obtain ⟨v1, hv1, q1⟩ := L.loc i _ hσ
    refine ⟨v1, hv1, tE.use L C w fun kd h2 m2 H2 vk e2 L2' C2 rk w2 => ?_⟩
    obtain ⟨hg, w3⟩ := WP.grd w2
    obtain ⟨z, ez, w4⟩ := WP.opt w3
    obtain ⟨v2, hv2, q2⟩ := L2'.loc i _ hσ
    rw [hv1] at hv2
    cases hv2
    cases t
    · obtain ⟨a, kvs, rfl, hH, rs, n0, fr⟩ := q2
      obtain ⟨k', rfl, rfl⟩ := isK_of rk hg
      rcases rs.look k' with ⟨e4, _⟩ | ⟨z', u, e4, e5, rz⟩
      · rw [ez] at e4; cases e4
      · rw [ez] at e4
        cases e4
        exact ⟨a, u, rfl, .inl ⟨kvs, k', .inl hH, rfl, e5.symm⟩, WP.ok w4 C2 _ rz⟩
    · obtain ⟨a, kvs, rfl, hH, rs, n0, fr⟩ := q2
      obtain ⟨ks, b, rfl, rfl, eb⟩ := isT_of rk hg
      rcases rs.look ks with ⟨e4, _⟩ | ⟨z', u, e4, e5, rz⟩
      · rw [ez] at e4; cases e4
      · rw [ez] at e4
        cases e4
        exact ⟨a, u, rfl, .inr ⟨kvs, ks, b, .inl hH, rfl, eb, e5.symm⟩, WP.ok w4 C2 _ rz⟩
/-- from here on nobody changes it -/
theorem pss_lock {sts : List Stmt} {t : TS} (p : PSs X sts t) : PSs X sts (fun D σ H => ∃ a u, H a = some u ∧ Mut (some u) ∧ ∀ o, t D σ (upd H a (.frz o u))) := ⟨fun pins s σ H D I ⟨a, u, q, mu, w⟩ => by
  obtain ⟨o, I2⟩ := I.lock q mu
  exact p.run pins s σ _ D I2 (w o)⟩
theorem sns_frz {sts : List Stmt} {r : S} (p : PSs X sts (tS X.K cl W r)) : PSs X sts (tS X.K cl W (bCons (sFrz i) r)) :=
  pss_imp (pss_lock p) fun De σV H ⟨m, σ, h, m0, H0, e0, L, C, w⟩ => by
    have w' : WS X.K cl W De m0 H0 m H ((opt (ownAt σ i) fun d => R.ok (Fl.nxt (σ.set i (some d))) h).thn r) := w
    unfold ownAt at w'
    cases hσ : σ[i]? with
    | none => simp only [hσ] at w'; exact w'.elim
    | some o =>
    cases o with
    | none => simp only [hσ] at w'; exact w'.elim
    | some d0 =>
    obtain ⟨v0, hv0, q0⟩ := L.loc i _ hσ
    cases d0 <;> first | (simp only [hσ] at w'; exact w'.elim) | skip
    · rename_i xs
      simp only [hσ] at w'
      have w2 : WS X.K cl W De m0 H0 m H (r (σ.set i (some (.lst xs))) h) := w'
      obtain ⟨a, vs, rfl, hH, rs, n0, fr⟩ := q0
      refine ⟨a, _, hH, trivial, fun o => ⟨m, σ.set i (some (.lst xs)), h, m0, H0, e0.sideE n0, ?_, C.side fr hH trivial, w2.up (Ex2.wr hH trivial)⟩⟩
      exact L.own hσ rfl hv0 hH trivial (.of (.lst upd_same (rs.upI (Imm.wr hH trivial))))
    · rename_i t rows
      simp only [hσ] at w'
      have w2 : WS X.K cl W De m0 H0 m H (r (σ.set i (some (.dct t rows))) h) := w'
      cases t
      · obtain ⟨a, kvs, rfl, hH, rs, n0, fr⟩ := q0
        refine ⟨a, _, hH, trivial, fun o => ⟨m, σ.set i (some (.dct false rows)), h, m0, H0, e0.sideE n0, ?_, C.side fr hH trivial, w2.up (Ex2.wr hH trivial)⟩⟩
        exact L.own hσ rfl hv0 hH trivial (.of (.dK upd_same fr (rs.upI (Imm.wr hH trivial))))
      · obtain ⟨a, kvs, rfl, hH, rs, n0, fr⟩ := q0
        refine ⟨a, _, hH, trivial, fun o => ⟨m, σ.set i (some (.dct true rows)), h, m0, H0, e0.sideE n0, ?_, C.side fr hH trivial, w2.up (Ex2.wr hH trivial)⟩⟩
        exact L.own hσ rfl hv0 hH trivial (.of (.dT upd_same fr (rs.upI (Imm.wr hH trivial))))
end
/-! ### defs -/
section
variable {P : Program} {w : World} {K : PySem.W.Frag} {mg : Str → Option Value} {base : Heap} {cl : Cl}
abbrev WE' (E : XK) : WX := fun c d _ H => E c d H
theorem flatE {E : XK} : Flat (WE' E) := fun _ _ _ _ _ h => h
theorem RDs.entry {m : Mp} {H0 H : L2.Hp} {ds : List D} {vs : List V} (r : RDs K cl H m ds vs) (n : Nat) (L : List Str) (hn : L.length = n) : Lc K cl m H0 H (IP.entry n ds) (L2.start L vs) := by
  subst hn
  have key : ∀ (i : Nat) (d : D), (IP.entry L.length ds)[i]? = some (some d) → ds[i]? = some d := fun i d q => by
    unfold IP.entry at q
    by_cases hi : i < ds.length
    · rw [List.getElem?_append_left (by simpa using hi), List.getElem?_map] at q
      cases e : ds[i]? with
      | none => rw [e] at q; cases q
      | some d' => rw [e] at q; cases q; rfl
    · rw [List.getElem?_append_right (by simpa using hi), List.getElem?_replicate] at q
      split at q <;> cases q
  have keyV : ∀ (i : Nat) (v : V), vs[i]? = some v → (L2.start L vs)[i]? = some (some v) := fun i v q => by
    unfold L2.start
    rw [List.getElem?_append_left (by rw [List.length_map]; exact (List.getElem?_eq_some_iff.mp q).1), List.getElem?_map, q]
    rfl
  refine ⟨by simp [IP.entry, L2.start, r.length], fun i d q => ?_, fun i j d e v _ q1 _ o1 _ _ => ?_⟩
  · obtain ⟨v, h1, h2⟩ := r.get (key i d q)
    exact ⟨v, keyV i v h1, .of h2⟩
  · obtain ⟨v', h1, h2⟩ := r.get (key i d q1)
    rw [h2.notOwn] at o1
    cases o1
theorem fn_I {x qual : Str} {params : Arguments} {body : List Stmt} {scope : Scope} {dvs : List V} {kws : List (Str × V)} {f : Addr} {fd : FuncData} {N ps : List Str} {k np ns : Nat} {b : S} {g : Fn} (F : FunD K x qual params body scope dvs kws f fd) (Sc : FnScope N ps scope) (hp : ps.length = np) (hn : N.length = ns) (hg : g = mkFn np ns b)
    (hbody : ∀ (cdv : Value) (A : Around) (outer : List Env) (s : Shared) (H : L2.Hp) (E : XK), Room k (A.deeper (envOfC qual scope s.heap.objs.size f cdv)) → Takes (cxOf (L2.CX P w) P w K mg base N qual scope f cdv A outer s H E) (WE' E) →
      PSs (cxOf (L2.CX P w) P w K mg base N qual scope f cdv A outer s H E) body (tS K cl (WE' E) b)) :
    FnOk P w K mg base (L2.CX P w) (k + 1) f fd ps (spI K cl np g) := by
  subst hp hg
  refine F.ok Sc (fun vs H Q E ⟨m, h, ds, C, r, l, _⟩ => l) (fun cdv A outer s H vs Q E hr ⟨m, h, ds, C, r, l, z⟩ => ⟨_, hbody cdv A outer s H E hr (takes_of rfl rfl rfl rfl), m, entry ns ds, h, m, H, Ext.refl, r.entry ns N hn, C, ?_⟩)
  obtain ⟨_, z⟩ := WP.grd z
  cases q : b (entry ns ds) h with
  | ok fl h2 =>
    rw [q] at z
    cases fl with
    | nxt σ => exact fun m' H' σV e _ c _ => z m' H' e c _ .non
    | ret d => exact fun m' H' v e _ c rv => z m' H' e c v rv
    | exc c p σ => exact fun m' H' σV e _ cc _ => z m' H' e cc
    | brk σ => exact z.elim
    | cnt σ => exact z.elim
  | exc c p h2 => rw [q] at z; exact z.elim
  | no => rw [q] at z; exact z.elim
end
end IP

namespace IP
open PySem PySem.Spec PyProof.Rows L2
theorem bnd_ok {α β : Type} {r : R α} {f : α → Hp → R β} {b : β} {h : Hp} (e : r.bnd f = .ok b h) : ∃ a h1, r = .ok a h1 ∧ f a h1 = .ok b h := by
  cases r with
  | ok a h1 => exact ⟨a, h1, rfl, e⟩
  | exc c p h => cases e
  | no => cases e
theorem calm_ok2 {α : Type} {r : R α} {b : α} {h : Hp} (e : r.calm = .ok b h) : r = .ok b h := by
  cases r with
  | ok a h1 => exact e
  | exc c p h => cases e
  | no => cases e
theorem grd_ok {α : Type} {c : Bool} {r : R α} {b : α} {h : Hp} (e : grd c r = .ok b h) : c = true ∧ r = .ok b h := by
  cases c with
  | true => exact ⟨rfl, e⟩
  | false => cases e
/-- one slot has turned -/
theorem Sm.one_eq {i : Nat} {σ σ' : L2.St} {v : V} (s : Sm [i] σ σ') (e : σ'[i]? = some (some v)) : σ' = σ.set i (some v) := by
  refine List.ext_getElem? fun j => ?_
  by_cases c : i = j
  · subst c
    rw [e, List.getElem?_set_self]
    rw [← s.1]
    exact (List.getElem?_eq_some_iff.mp e).1
  · rw [List.getElem?_set_ne c]
    exact s.2 j (by simpa using fun z => c z.symm)
section
variable {X : Cx} {cl : Cl} {W : WX} {pos : Pos}
/-- {k: v for x in xs for y in ys}: x a name, y anything -/
theorem dc2_use {j1 : Nat} {wj vs vj : List Nat} {g2 : G} {i1 i2 : A} {ek ev : E} (hj1 : j1 ∈ vs) (hwj : ∀ k ∈ wj, k ∈ vj) {σV : L2.St} {H : L2.Hp} {Q : VK} (w : tE X.K cl W (eDc2 false vs (gLoc j1) i1 vj g2 i2 ek ev) σV H Q) :
    tDc2 (tI X.K cl W i1) (tH X.K cl [j1] (gLoc j1)) (tI X.K cl W0 i2) (tH X.K cl wj g2) (tE X.K cl W0 ek) (tE X.K cl W0 ev) vs vj σV H (FQ Q) := by
  obtain ⟨m, σ, h, H0, L, C, w⟩ := w
  refine ⟨m, σ, h, H0, L, C, w.bnd.imp fun xs h1 m1 H1 e1 C1 w1 J wk Da nD => ?_⟩
  have nm : Free m1 Da := fun k n z => C1.old k n Da z nD
  refine ⟨fun k n H2 => n = xs.length - k ∧ k ≤ xs.length ∧ ∃ m2 h2 acc accV, Ext m1 m2 H1 H2 ∧ Hc X.K cl m2 h2 H2 ∧ H2 Da = some (.dK accV) ∧ RKs X.K cl H2 m2 acc accV ∧ Free m2 Da ∧
    WP X.K cl (wx X.K cl W σV) m1 H1 ((dc2Go false (gLoc j1) i2 vj g2 ek ev (IP.wipe σ vs) (xs.drop k) acc h2).bnd fun ys h => R.ok (D.dct false ys) h) (Rt X.K cl Q),
    ⟨xs.length, by simp, Nat.zero_le _, m1, h1, [], [], Ext.lay nD, C1.lay nD, upd_same, .nil, nm, w1⟩, ?_⟩
  rintro k n H2 ⟨rfl, hk, m2, h2, acc, accV, e2, C2, hD, rA, nm2, w2⟩
  have L2' : Lc X.K cl m2 H0 H2 σ σV := (L.up e1).up e2
  by_cases hlt : k < xs.length
  · obtain ⟨wk1, _⟩ := wk k m2 H2 e2.ex2
    obtain ⟨go, yld⟩ := wk1 xs[k] (List.getElem?_eq_getElem hlt)
    have ed : xs.drop k = xs[k] :: xs.drop (k + 1) := List.drop_eq_getElem_cons hlt
    rw [ed] at w2
    refine .inr ⟨go, fun H3 => k + 1 ≤ xs.length ∧ ∃ m2 h2 acc accV, Ext m1 m2 H1 H3 ∧ Hc X.K cl m2 h2 H3 ∧ H3 Da = some (.dK accV) ∧ RKs X.K cl H3 m2 acc accV ∧ Free m2 Da ∧
      WP X.K cl (wx X.K cl W σV) m1 H1 ((dc2Go false (gLoc j1) i2 vj g2 ek ev (IP.wipe σ vs) (xs.drop (k + 1)) acc h2).bnd fun ys h => R.ok (D.dct false ys) h) (Rt X.K cl Q),
      fun H3 q => ⟨xs.length - (k + 1), by omega, rfl, q.1, q.2⟩, fun x H3 hy => ?_⟩
    obtain ⟨e3, c3, rx⟩ := yld x H3 hy
    obtain ⟨_, hD3⟩ := e3.aside nm2 hD
    obtain ⟨aE, hE, key⟩ : ∃ a h3, dc2Turn false (gLoc j1) i2 vj g2 ek ev (IP.wipe σ vs) xs[k] acc h2 = R.ok a h3 := calm_ok (WP.bnd w2)
    have w3 : WP X.K cl (wx X.K cl W σV) m1 H1 ((dc2Go false (gLoc j1) i2 vj g2 ek ev (IP.wipe σ vs) (xs.drop (k + 1)) aE hE).bnd fun ys h => R.ok (D.dct false ys) h) (Rt X.K cl Q) := by
      have z : dc2Go false (gLoc j1) i2 vj g2 ek ev (IP.wipe σ vs) (xs[k] :: xs.drop (k + 1)) acc h2 = dc2Go false (gLoc j1) i2 vj g2 ek ev (IP.wipe σ vs) (xs.drop (k + 1)) aE hE := by
        show (dc2Turn false (gLoc j1) i2 vj g2 ek ev (IP.wipe σ vs) xs[k] acc h2).calm.bnd _ = _
        rw [key]
        rfl
      rw [z] at w2
      exact w2
    generalize hσ1 : (IP.wipe σ vs).set j1 (some xs[k]) = σ1
    have key : (i2 σ1 h2).bnd (fun ys h => dcGo false g2 tYes ek ev (IP.wipe σ1 vj) ys acc h) = R.ok aE hE := by
      rw [← hσ1]; exact key
    obtain ⟨ys, h5, k2, key⟩ := bnd_ok key
    refine ⟨m2, xs[k], IP.wipe σ vs, h2, H0, (L2'.up e3).wipe vs, c3 h2 C2, rx, ?_⟩
    have wg : gLoc j1 xs[k] (IP.wipe σ vs) h2 = R.ok σ1 h2 := by rw [← hσ1]; rfl
    rw [wg]
    intro m4 H4 e4 C4 σV1 L4 s4
    refine ⟨(s4.wide fun k hk => by rw [List.mem_singleton.mp hk]; exact hj1).wipe.trans wipe_wipe, m4, σ1, h2, H0, L4, C4, ?_⟩
    have wT := WP.known (cl := cl) (K := X.K) (Y := wx X.K cl W0 σV1) (m := m4) (H := H4) k2
    refine wT.imp fun ys' h' m5 H5 _ _ ⟨ey, eh, e5, C5⟩ Jj wkj => ?_
    subst ey eh
    have e35 : Ext m2 m5 H3 H5 := e4.trans e5
    obtain ⟨nm5, hD5⟩ := e35.aside nm2 hD3
    -- the slots at any later heap of the inner loop
    have slots : ∀ {m6 : Mp} {H6 : L2.Hp}, Ext m1 m6 H1 H6 → Ex2 m5 m6 H5 H6 → Lc X.K cl m6 H0 H6 σ1 σV1 := fun {m6 H6} e6 x6 => by
      have b : Lc X.K cl m6 H0 H6 (IP.wipe σ vs) (L2.wipe σV vs) := ((L.up e1).up e6).wipe vs
      by_cases hl : j1 < (IP.wipe σ vs).length
      · have at1 : σ1[j1]? = some (some xs[k]) := by rw [← hσ1, List.getElem?_set_self hl]
        obtain ⟨v1, hv1, q1⟩ := L4.loc j1 _ at1
        have q2 : RD X.K cl H4 m4 xs[k] v1 := q1.rd rx.notOwn
        rw [s4.one_eq hv1, ← hσ1]
        exact b.set ((q2.up e5).upI x6.imm)
      · have e0 : σ1 = IP.wipe σ vs := by rw [← hσ1, List.set_eq_of_length_le (by omega)]
        have e9 : σV1 = L2.wipe σV vs := by
          refine List.ext_getElem? fun j => ?_
          by_cases c : j1 = j
          · subst c
            have l1 : (L2.wipe σV vs).length ≤ j1 := by rw [← b.len]; omega
            rw [List.getElem?_eq_none l1, List.getElem?_eq_none (by rw [s4.1]; exact l1)]
          · exact s4.2 j (by simpa using fun z => c z.symm)
        rw [e0, e9]
        exact b
    have e15 : Ext m1 m5 H1 H5 := (e2.trans e3).trans e35
    refine ⟨fun j n H6 => n = ys'.length - j ∧ j ≤ ys'.length ∧ ∃ m6 h6 acc6 accV6, Ext m1 m6 H1 H6 ∧ Ex2 m5 m6 H5 H6 ∧ Hc X.K cl m6 h6 H6 ∧ H6 Da = some (.dK accV6) ∧ RKs X.K cl H6 m6 acc6 accV6 ∧ Free m6 Da ∧
      dcGo false g2 tYes ek ev (IP.wipe σ1 vj) (ys'.drop j) acc6 h6 = R.ok aE hE,
      ⟨ys'.length, by simp, Nat.zero_le _, m5, h', acc, accV, e15, Ex2.refl, C5, hD5, (rA.upI e3.imm).upI e35.imm, nm5, key⟩, ?_⟩
    rintro j n H6 ⟨rfl, hj, m6, h6, acc6, accV6, e6, x6, C6, hD6, rA6, nm6, k6⟩
    by_cases hlj : j < ys'.length
    · obtain ⟨wk2, _⟩ := wkj j m6 H6 x6
      obtain ⟨go2, yld2⟩ := wk2 ys'[j] (List.getElem?_eq_getElem hlj)
      have ed2 : ys'.drop j = ys'[j] :: ys'.drop (j + 1) := List.drop_eq_getElem_cons hlj
      rw [ed2] at k6
      have k6 : (dcTurn g2 tYes ek ev (IP.wipe σ1 vj) ys'[j] h6).calm.bnd (dcThen false (dcGo false g2 tYes ek ev (IP.wipe σ1 vj) (ys'.drop (j + 1))) acc6) = R.ok aE hE := k6
      obtain ⟨o, h7, k7, k8⟩ := bnd_ok k6
      have k7 := calm_ok2 k7
      refine .inr ⟨go2, fun H7 => j + 1 ≤ ys'.length ∧ ∃ m6 h6 acc6 accV6, Ext m1 m6 H1 H7 ∧ Ex2 m5 m6 H5 H7 ∧ Hc X.K cl m6 h6 H7 ∧ H7 Da = some (.dK accV6) ∧ RKs X.K cl H7 m6 acc6 accV6 ∧ Free m6 Da ∧
        dcGo false g2 tYes ek ev (IP.wipe σ1 vj) (ys'.drop (j + 1)) acc6 h6 = R.ok aE hE, fun H7 q => ⟨ys'.length - (j + 1), by omega, rfl, q.1, q.2⟩, fun y H7 hy => ?_⟩
      obtain ⟨e7, c7, ry⟩ := yld2 y H7 hy
      obtain ⟨_, hD7⟩ := e7.aside nm6 hD6
      have wT := WP.known (cl := cl) (K := X.K) (Y := F0) (m := m6) (H := H7) k7
      refine ⟨m6, ys'[j], IP.wipe σ1 vj, h6, H0, ((slots e6 x6).up e7).wipe vj, c7 h6 C6, ry, wT.bnd.imp fun σ2 h8 m8 H8 e8 C8 w8 σV2 L8 s8 => ⟨(s8.wide hwj).wipe.trans wipe_wipe, ?_⟩⟩
      have w9 : WP X.K cl F0 m8 H8 (dcElt ek ev σ2 true h8) _ := w8
      refine ⟨m8, σ2, h8, H0, L8, C8, (WP.bnd w9).of0.imp fun a h10 m10 H10 e10 C10 w10 va ra => ?_⟩
      refine ⟨m10, σ2, h10, H0, L8.up e10, C10, (WP.bnd w10).of0.imp fun d h11 m11 H11 e11 C11 w11 vd rd => ?_⟩
      obtain ⟨eo, eh, e12, C12⟩ := WP.ok (a := some (a, d)) (h := h11) w11 C11
      subst eo eh
      obtain ⟨nm11, hD11⟩ := e12.aside nm6 hD7
      have k9 : grd (isKey false a && decide (acc6.length < bigD)) (dcGo false g2 tYes ek ev (IP.wipe σ1 vj) (ys'.drop (j + 1)) (putR a d acc6) h11) = R.ok aE hE := k8
      obtain ⟨c, k10⟩ := grd_ok k9
      rw [Bool.and_eq_true] at c
      obtain ⟨k', rfl, rfl⟩ := isK_of (ra.up e11) c.1
      have rA11 : RKs X.K cl H11 m11 acc6 accV6 := (rA6.upI e7.imm).upI e12.imm
      exact ⟨accV6, k', rfl, hD11, by rw [← rA11.length]; exact line2 (of_decide_eq_true c.2), hlj, m11, h11, _, _, ((e6.trans e7).trans e12).side nD, ((x6.trans e7.ex2).trans e12.ex2).trans (Ex2.wr hD11 trivial), C12.side nm11 hD11 trivial, upd_same, (rA11.put k' rd).upI (Imm.wr hD11 trivial), nm11, k10⟩
    · have hj' : j = ys'.length := by omega
      obtain ⟨_, stp⟩ := wkj j m6 H6 x6
      refine .inl ⟨stp hj', hlt, m6, h6, acc6, accV6, e6, C6, hD6, rA6, nm6, ?_⟩
      rw [List.drop_eq_nil_of_le (by omega)] at k6
      have k6 : R.ok acc6 h6 = R.ok aE hE := k6
      cases k6
      exact w3
  · have hk' : k = xs.length := by omega
    obtain ⟨_, wk2⟩ := wk k m2 H2 e2.ex2
    rw [List.drop_eq_nil_of_le (by omega)] at w2
    exact .inl ⟨wk2 hk', dend_val _ m1 m2 h2 H1 H2 Da acc accV Q nD nm2 e2 C2 hD rA w2⟩
theorem snd_dc2 {j1 : Nat} {wj vj : List Nat} {g2 : G} {i1 i2 : A} {ek ev : E} {kx vx tb ia ib : Expr} {x : Str} {p1 : Pos} {scope : Scope} {own : List (Str × Nat)} (hc : X.calm = true) (hN : X.N.Nodup) (hi : PI X (.Name x p1) ia (tI X.K cl W i1)) (ok : BlkOk X.N X.env.scope scope own) (h1 : j1 ∈ own.map (·.2)) (hwj : ∀ k ∈ wj, k ∈ vj) (hv : ∀ i ∈ vj, i ∈ own.map (·.2))
    (hg : ∀ (s : Shared) (H : L2.Hp) (C : Addr) (cl' : List (Str × Addr)) (fp : List Addr), PG (X.blk s H scope (compEnvC scope cl' C X.env) fp) (.Name x p1) (tH X.K cl [j1] (gLoc j1)))
    (hj : ∀ (s : Shared) (H : L2.Hp) (C : Addr) (cl' : List (Str × Addr)) (fp : List Addr), PI (X.blk s H scope (compEnvC scope cl' C X.env) fp) tb ib (tI X.K cl W0 i2))
    (hgj : ∀ (s : Shared) (H : L2.Hp) (C : Addr) (cl' : List (Str × Addr)) (fp : List Addr), PG (X.blk s H scope (compEnvC scope cl' C X.env) fp) tb (tH X.K cl wj g2))
    (hk : ∀ (s : Shared) (H : L2.Hp) (C : Addr) (cl' : List (Str × Addr)) (fp : List Addr), PE (X.blk s H scope (compEnvC scope cl' C X.env) fp) kx (tE X.K cl W0 ek))
    (he : ∀ (s : Shared) (H : L2.Hp) (C : Addr) (cl' : List (Str × Addr)) (fp : List Addr), PE (X.blk s H scope (compEnvC scope cl' C X.env) fp) vx (tE X.K cl W0 ev))
    (hs : ∀ x, foldedSetIterable ia X.env x = pure x := by intro _; rfl) (hsj : ∀ env x, foldedSetIterable ib env x = pure x := by intro _ _; rfl) :
    PE X (.DictComp kx vx [⟨.Name x p1, ia, [], 0⟩, ⟨tb, ib, [], 0⟩] scope pos) (tE X.K cl W (eDc2 false (own.map (·.2)) (gLoc j1) i1 vj g2 i2 ek ev)) :=
  pe_imp (pe_fq (pe_dc2 hc hN hi ok hv hg hj hgj hk he hs hsj)) fun _ _ _ w => dc2_use h1 hwj w
end
end IP

namespace IP
open PySem PySem.Spec PyProof.Rows L2
section
variable {X : Cx} {cl : Cl} {W : WX} {a b e o k z : Expr} {ea eb ee eo ek ez : E} {ae : A} {es : List Expr} {pos pos' p apos cpos : Pos} {x y : Str} {i j : Nat}
/-! ### len(set(t)) -/
theorem unl_nodup : ∀ {ss : List Str}, unl ss = true → ss.Nodup
  | [], _ => List.nodup_nil
  | s :: r, h => by
    unfold unl at h
    rw [Bool.and_eq_true] at h
    rw [List.nodup_cons]
    refine ⟨fun q => ?_, unl_nodup h.2⟩
    have h1 := h.1
    rw [Bool.not_eq_true', List.any_eq_false] at h1
    have h2 := h1 s q
    rw [eqS_iff] at h2
    simp at h2
theorem snd_lens {q p1 p2 : Pos} (hc : X.calm = true) (hl : Gl X "len") (ml : X.mg "len" = none) (hs : Gl X "set") (ms : X.mg "set" = none) (ha : PE X a (tE X.K cl W ea)) (na : starEach [a] X.env = (false, eval a X.env) :: starEach [] X.env := by rfl) :
    PE X (.Call (.Name "len" p1) [.Call (.Name "set" p2) [a] [] q] [] pos) (tE X.K cl W (one fLenS ea)) :=
  pe_imp (pe_lenS hc hl ml hs ms ha na) fun σV H Q ⟨m, σ, h, H0, L, C, w⟩ => tE.use L C w fun d h1 m1 H1 v e1 L1 C1 r1 w1 => by
    have fin : ∀ {l : Addr} {xs : List D} {vs : List V}, SqT X.K H1 l vs → RDs X.K cl H1 m1 xs vs → WP X.K cl (wx X.K cl W σV) m1 H1 (lenS xs h1) (Rt X.K cl Q) → ∃ l', ∃ zs : List Str, V.ref l = .ref l' ∧ SqT X.K H1 l' (zs.map V.str) ∧ zs.Nodup ∧ zs.length < 4096 ∧ Q (.int zs.length) H1 := fun {l xs vs} s r w => by
      obtain ⟨ss, e, w⟩ := WP.opt w
      obtain ⟨c, w⟩ := WP.grd w
      obtain rfl := strsD_of r e
      rw [Bool.and_eq_true] at c
      exact ⟨l, ss, rfl, s, unl_nodup c.1, of_decide_eq_true c.2, WP.ok w C1 _ (.int _)⟩
    cases r1 with
    | tup q r => exact fin (.inl (.inl q)) r w1
    | ctp q r => exact fin (q H1) r w1
    | _ => exact w1.elim
/-! ### displays of dicts -/
theorem prs_use {K : PySem.W.Frag} {H0 : L2.Hp} {σ : Lo} {σV : L2.St} : ∀ (ps : List (E × E)) {m : Mp} {h : Hp} {H : L2.Hp} {Q : List (V × V) → L2.Hp → Prop}, Lc K cl m H0 H σ σV → Hc K cl m h H →
    WP K cl (wx K cl W σV) m H (ePrs ps σ h) (fun rows h' m' H' => ∀ ws : List (V × V), RDs K cl H' m' (rows.map (·.1)) (ws.map (·.1)) → RDs K cl H' m' (rows.map (·.2)) (ws.map (·.2)) → Q ws H') →
    tPairs (ps.map fun p => (tE K cl W p.1, tE K cl W p.2)) σV H Q
  | [], m, h, H, Q, L, C, w => WP.ok (a := ([] : List (D × D))) (h := h) w C [] .nil .nil
  | p :: r, m, h, H, Q, L, C, w => ⟨m, σ, h, H0, L, C, w.bnd.imp fun a h1 m1 H1 e1 C1 w1 va ra => ⟨m1, σ, h1, H0, L.up e1, C1, w1.bnd.imp fun d h2 m2 H2 e2 C2 w2 vd rd =>
      prs_use r ((L.up e1).up e2) C2 (w2.bnd.imp fun rows h3 m3 H3 e3 C3 w3 ws q1 q2 => WP.ok (a := (a, d) :: rows) (h := h3) w3 C3 ((va, vd) :: ws) (.cons ((ra.up e2).up e3) q1) (.cons (rd.up e3) q2))⟩⟩
theorem keysP {K : PySem.W.Frag} {m : Mp} {H : L2.Hp} : ∀ {rows : List (D × D)} {ws : List (V × V)}, RDs K cl H m (rows.map (·.1)) (ws.map (·.1)) → RDs K cl H m (rows.map (·.2)) (ws.map (·.2)) → rows.all (fun p => isKey false p.1) = true →
    ∃ kvs : List (Key × V), ws = kvs.map (fun kv => (kV kv.1, kv.2)) ∧ RKs K cl H m rows kvs
  | [], [], _, _, _ => ⟨[], rfl, .nil⟩
  | [], _ :: _, h, _, _ => by cases h
  | _ :: _, [], h, _, _ => by cases h
  | (a, d) :: rows, (va, vd) :: ws, h1, h2, h3 => by
    rw [List.all_cons, Bool.and_eq_true] at h3
    cases h1 with
    | cons a1 r1 =>
      cases h2 with
      | cons a2 r2 =>
        obtain ⟨kvs, rfl, r⟩ := keysP r1 r2 h3.2
        obtain ⟨k, e1, e2⟩ := isK_of a1 h3.1
        dsimp only at e1 e2
        subst e1 e2
        exact ⟨(k, vd) :: kvs, rfl, .cons a2 r⟩
theorem RKs.merge {K : PySem.W.Frag} {m : Mp} {H : L2.Hp} : ∀ {r : List (D × D)} {s : List (Key × V)} {r0 : List (D × D)} {s0 : List (Key × V)}, RKs K cl H m r s → RKs K cl H m r0 s0 → RKs K cl H m (IP.merge r0 r) (mergeK s0 s)
  | _, _, _, _, .nil, h => h
  | _, _, _, _, @RKs.cons _ _ _ _ k _ _ _ _ a r, h => by
    have z := RKs.merge r (h.put k a)
    exact z
theorem disp_use {kk : List (D × D) → Hp → R D} (hK : DEnd X.K cl kk) {ps : List (E × E)} {σV : L2.St} {H : L2.Hp} {Q : VK} (w : tE X.K cl W (fun σ h => (ePrs ps σ h).calm.bnd fun rows h => grd (okPrs rows) (kk (merge [] rows) h)) σV H Q) :
    tDisp (ps.map fun p => (tE X.K cl W p.1, tE X.K cl W p.2)) σV H (FQ Q) := fun q n => by
  obtain ⟨m, σ, h, H0, L, C, w⟩ := w
  have ex : Ext m m H (upd H q (.dK [])) := Ext.lay n
  have fr : Free m q := fun k n' z => C.old k n' q z n
  have w : WP X.K cl (wx X.K cl W σV) m H ((ePrs ps σ h).calm.bnd fun rows h => grd (okPrs rows) (kk (merge [] rows) h)) (Rt X.K cl Q) := w
  obtain ⟨rows, h1, key⟩ := calm_ok w
  rw [key] at w
  obtain ⟨c, w2⟩ := WP.grd (r := kk (merge [] rows) h1) w
  unfold okPrs at c
  rw [Bool.and_eq_true] at c
  refine prs_use ps (L.up ex) (C.lay n) ((WP.known key).imp fun rows' h' m1 H1 _ _ ⟨e1, e2, e3, C1⟩ ws r1 r2 => ?_)
  subst e1 e2
  obtain ⟨kvs, rfl, rk⟩ := keysP r1 r2 c.1
  obtain ⟨fr1, hD⟩ := e3.aside fr upd_same
  refine ⟨hD, kvs, rfl, by rw [← rk.length]; exact of_decide_eq_true c.2, ?_⟩
  have im : Imm m1 m1 H1 (upd H1 q (.dK (mergeK [] kvs))) := Imm.wr hD trivial
  exact hK _ m m1 h' H (upd H1 q (.dK (mergeK [] kvs))) q _ _ Q n fr1 ((ex.trans e3).side n) (C1.side fr1 hD trivial) upd_same ((RKs.merge rk .nil).upI im) w2
theorem snd_dispG {kk : List (D × D) → Hp → R D} (hK : DEnd X.K cl kk) {keys : List (Option Expr)} {values : List Expr} {ps : List (E × E)} (h : PPs X pos keys values (ps.map fun p => (tE X.K cl W p.1, tE X.K cl W p.2))) (hall : keys.all (·.isSome) = true) (hl : keys.length = values.length) (h0 : keys ≠ []) (h15 : keys.length ≤ 15) :
    PE X (.Dict keys values pos) (tE X.K cl W (fun σ h => (ePrs ps σ h).calm.bnd fun rows h => grd (okPrs rows) (kk (merge [] rows) h))) := pe_imp (pe_fq (pe_disp h hall hl h0 h15)) fun _ _ _ w => disp_use hK w
/-- {k: v, ..} -/
theorem snd_disp {keys : List (Option Expr)} {values : List Expr} {ps : List (E × E)} (h : PPs X pos keys values (ps.map fun p => (tE X.K cl W p.1, tE X.K cl W p.2))) (hall : keys.all (·.isSome) = true := by rfl) (hl : keys.length = values.length := by rfl) (h0 : keys ≠ [] := by simp) (h15 : keys.length ≤ 15 := by decide) : PE X (.Dict keys values pos) (tE X.K cl W (eDisp ps)) := snd_dispG dend_val h hall hl h0 h15
theorem snd_dispR {keys : List (Option Expr)} {values : List Expr} {ps : List (E × E)} (h : PPs X pos keys values (ps.map fun p => (tE X.K cl W p.1, tE X.K cl W p.2))) (hall : keys.all (·.isSome) = true := by rfl) (hl : keys.length = values.length := by rfl) (h0 : keys ≠ [] := by simp) (h15 : keys.length ≤ 15 := by decide) : PE X (.Dict keys values pos) (tE X.K cl W (eDispR ps)) := snd_dispG dend_ref h hall hl h0 h15
/-! ### lists that one name holds -/
theorem snd_oat {npos : Pos} (hN : X.N[i]? = some x) (hv : Vis X.env.scope x) (hk : PE X k (tE X.K cl W ek)) (hd : (x == ("__debug__" : Str)) = false := by decide) (hcd : (x == ("__classdict__" : Str)) = false := by decide) (hs : PlainIx k := by exact fun _ _ => rfl) :
    PE X (.Subscript (.Name x npos) k pos) (tE X.K cl W (eOAt i ek)) :=
  pe_imp (pe_ix ix_list (pe_var hN hv hd hcd) hk hs) fun σV H Q ⟨m, σ, h, H0, L, C, w⟩ => by
    unfold eOAt at w
    cases hσ : σ[i]? with
    | none => simp only [hσ] at w; exact w.elim
    | some o =>
    cases o with
    | none => simp only [hσ] at w; exact w.elim
    | some d0 =>
    cases d0 <;> first | (simp only [hσ] at w; exact w.elim) | skip
    rename_i xs
    simp only [hσ] at w
    obtain ⟨v1, hv1, q1⟩ := L.loc i _ hσ
    refine ⟨v1, hv1, tE.use L C w fun kd h2 m2 H2 vk e2 L2' C2 rk w2 => ?_⟩
    cases rk <;> first | (exact w2.elim) | skip
    obtain ⟨d, e, w3⟩ := WP.opt w2
    obtain ⟨v2, hv2, q2⟩ := L2'.loc i _ hσ
    rw [hv1] at hv2
    cases hv2
    obtain ⟨a, vs, rfl, hH, rs, n0, fr⟩ := q2
    obtain ⟨u, eu, ru⟩ := atD_of rs e
    exact ⟨a, vs, _, u, rfl, rfl, .inl (.inl hH), eu, WP.ok w3 C2 _ ru⟩
theorem snd_olen {npos p : Pos} (hN : X.N[i]? = some x) (hv : Vis X.env.scope x) (hg : Gl X "len") (hm : X.mg "len" = none) (hd : (x == ("__debug__" : Str)) = false := by decide) (hcd : (x == ("__classdict__" : Str)) = false := by decide) (he : starEach [(.Name x npos : Expr)] X.env = (false, eval (.Name x npos) X.env) :: starEach [] X.env := by rfl) :
    PE X (.Call (.Name "len" p) [.Name x npos] [] pos) (tE X.K cl W (eOLen i)) :=
  pe_imp (pe_fq (pe_callB call_lenA hg hm boot_len2 (pa_cons (pe_var hN hv hd hcd) pa_nil he) (by decide) (by decide) he rfl)) fun σV H Q ⟨m, σ, h, H0, L, C, w⟩ => by
    unfold eOLen at w
    cases hσ : σ[i]? with
    | none => simp only [hσ] at w; exact w.elim
    | some o =>
    cases o with
    | none => simp only [hσ] at w; exact w.elim
    | some d0 =>
    cases d0 <;> first | (simp only [hσ] at w; exact w.elim) | skip
    rename_i xs
    simp only [hσ] at w
    obtain ⟨v1, hv1, a, vs, rfl, hH, rs, n0, fr⟩ := L.loc i _ hσ
    exact ⟨_, hv1, .inl (.inl ⟨a, vs, rfl, .inl (.inl (.inl hH)), .inl (by rw [← rs.length]; exact WP.ok w C _ (.int _))⟩)⟩
/-- x, y = a, [..] -/
theorem sns_parL {kt k2 pt2} {px py pt lpos : Pos} (hc : X.calm = true) (hN : X.N.Nodup) (hi : X.N[i]? = some x) (hj : X.N[j]? = some y) (hij : i ≠ j)
    (hx : X.env.scope.names.lookup x = some .local) (hy : X.env.scope.names.lookup y = some .local) (ha : PE X a (tE X.K cl W ea)) (hb : PA X es (tA X.K cl W ae))
    (hw : swappedStores [.Tuple [.Name x px, .Name y py] kt pt] (.Tuple [a, .List es lpos] k2 pt2) X.env = pure (some [x, y]))
    (hs : swapsWithSole [.Tuple [.Name x px, .Name y py] kt pt] (.Tuple [a, .List es lpos] k2 pt2) pos.line X.env = pure false := by rfl)
    (he : starEach [a, .List es lpos] X.env = (false, eval a X.env) :: starEach [.List es lpos] X.env := by rfl) (he2 : starEach [.List es lpos] X.env = (false, eval (.List es lpos) X.env) :: starEach [] X.env := by rfl) :
    PS X (.Assign [.Tuple [.Name x px, .Name y py] kt pt] (.Tuple [a, .List es lpos] k2 pt2) pos) (tS X.K cl W (sParL i j ea ae)) :=
  ps_imp (ps_par hc hN hi hj hij hx hy (pa_cons ha (pa_cons (pe_lst hb) pa_nil he2) he) hw hs) fun De σV H ⟨m, σ, h, m0, H0, e0, L, C, w⟩ => tE.stm e0 L C w fun d h1 m1 H1 v e1 f1 L1 C1 r1 w1 => by
    have w2 := WS.stm f1 L1 w1
    refine ⟨m1, σ, h1, H0, L1, C1, w2.imp fun ds h2 m2 H2 e2 C2 w3 vs r2 => ?_⟩
    obtain ⟨f2, w3⟩ := w3
    by_cases c : ds.length ≤ bigD
    · rw [if_pos c] at w3
      refine ⟨by rw [← r2.length]; exact line1 c, fun q n => ⟨v, .ref q, rfl, ?_⟩⟩
      have ex : Ext m2 m2 H2 (upd H2 q (.lst vs)) := Ext.lay n
      have fr : Free m2 q := fun k j z => C2.old k j q z n
      exact w3 m2 _ _ (f2.trans ex) ex.ex2 (C2.lay n) (Lc.fresh (h := h2) ((L1.up e2).set (r1.up e2)) n ⟨q, vs, rfl, upd_same, r2.up ex, f2.none0 n, fr⟩)
    · rw [if_neg c] at w3
      exact w3.elim
/-! ### C.m(e, ..): a def off its class -/
/-- what is needed of the class -/
structure Off (K : PySem.W.Frag) (C : Addr) (mt : Str) (f : Addr) : Prop where
  ex : ∃ mc, ClX.CRead K C mc ∧ PySem.W.findCls K (.ref C) mc mt = some (.val (.ref f))
  kp : PySem.W.keepIn K (.ref f) = true
theorem snd_off {k np : Nat} {f : Fn} {fa C : Addr} {fd : FuncData} {ps : List Str} {pl : Sem Bool} {mt : Str} (F : FnOk X.prog X.w X.K X.mg X.base (L2.CX X.prog X.w) k fa fd ps (spI X.K cl np f)) (hr : Room k X.A) (tk : Takes X W) (fl : Flat W) (O : Off X.K C mt fa) (hb : Binds X.K fd ps []) (hg : Gl X x) (hm : X.mg x = some (.ref C))
    (ha : PA X (e :: es) (tA X.K cl W ae)) (hdb : (x == ("__debug__" : Str)) = false := by decide)
    (hst : starEach (e :: es) X.env = (false, eval e X.env) :: starEach es X.env := by rfl) (hpl : (backTo pos (starEach es X.env)).any (·.1) = false := by rfl)
    (ht : eval (.Call (.Attribute (.Name x p) mt apos) (e :: es) [] pos) X.env = (do
      let ov ← eval (.Name x p) X.env
      standAt apos.atName
      let (f, first) ← holding [ov] (getMethod ov mt pl)
      callWith pos f first (backTo pos (starEach (e :: es) X.env)) (backToKw pos (keywordEach [] X.env))) := by rfl) :
    PE X (.Call (.Attribute (.Name x p) mt apos) (e :: es) [] pos) (tE X.K cl W (eCall np f ae)) := ⟨fun pins s σV H Q I w => by
  obtain ⟨mc, rd, at_⟩ := O.ex
  have cv : ClX.CVal X.K C mc mt (.ref fa) (.ref fa) := ⟨at_, rfl⟩
  refine PySem.W.methodCall_KW (pl := pl) (ld_glob I hg hm ?_ hdb) ht
  refine PySem.W.method_cls I.kIn rd.ga (ClX.getcval_ok I rd cv fun s2 I2 => ?_)
  obtain ⟨m, σ, h, H0, L, C, w⟩ := w
  refine PySem.W.callWith_K (h₀ := X.base) I2.ok.mod.kin O.kp (thn (ha.run pos pins s2 σV H _ I2 (tA.use L C w fun ds h1 m1 H1 vs e1 L1 C1 r1 w1 => ?_)) fun us s3 ⟨vs, H2, I3, r, q⟩ => ⟨I3.kIn, run_fn F hr hb .nil (flat_passes tk fl) I3 r q⟩) hst hpl
  obtain ⟨c, w1⟩ := WP.grd w1
  rw [List.append_nil]
  exact ⟨m1, h1, ds, C1, r1, by rw [← r1.length]; exact eq_of_beq c, w1.xi fun c p m H q => xE_imp (fun c d H z => fl _ _ _ _ _ z) q⟩⟩
end
end IP

namespace IP
open PySem PySem.Spec PyProof.Rows L2
/-! ### short words for printed texts -/
section
variable {K : PySem.W.Frag} {cl : Cl}
theorem ops_lt : OpS K cl fLt (rI0 fun i j => .bl (decide (i < j))) := ops_cmp
theorem ops_le : OpS K cl fLe (rI0 fun i j => .bl (decide (i ≤ j))) := ops_cmp
theorem ops_gt : OpS K cl fGt (rI0 fun i j => .bl (decide (j < i))) := ops_cmp
theorem ops_ge : OpS K cl fGe (rI0 fun i j => .bl (decide (j ≤ i))) := ops_cmp
theorem _root_.L2.Room.un65 {k : Nat} {A : Around} (r : Room k A) : A.units + 65 < cLine := by have := r.un; omega
theorem _root_.L2.Room.un1 {k : Nat} {A : Around} (r : Room k A) : A.units + 1 < cLine := by have := r.un; omega
end
section
variable {X : Cx} {cl : Cl} {W : WX}
theorem sv (i : Nat) {x : Str} {pos : Pos} (hN : X.N[i]? = some x := by rfl) (hv : Vis X.env.scope x := by first | exact Or.inl rfl | exact Or.inr (Or.inl rfl) | exact Or.inr (Or.inr rfl)) (hd : (x == ("__debug__" : Str)) = false := by decide)
    (hcd : (x == ("__classdict__" : Str)) = false := by decide) : PE X (.Name x pos) (tE X.K cl W (eLoc i)) := snd_var hN hv hd hcd
theorem boot_int : bootBuiltins "int" = some (.type "int") := by decide +kernel
theorem boot_str_ : bootBuiltins "str" = some (.type "str") := by decide +kernel
theorem boot_bool_ : bootBuiltins "bool" = some (.type "bool") := by decide +kernel
theorem boot_tuple_ : bootBuiltins "tuple" = some (.type "tuple") := by decide +kernel
theorem boot_list_ : bootBuiltins "list" = some (.type "list") := by decide +kernel
end
theorem nilB_ok {K : PySem.W.Frag} {a : Addr} (h : nilB K a = true) (H : L2.Hp) : SqT K H a [] := by
  unfold nilB at h
  cases q : K.lookup a with
  | none => rw [q] at h; cases h
  | some o =>
    obtain ⟨oc, od, dt, osl⟩ := o
    rw [q] at h
    cases oc with
    | type c =>
      cases dt with
      | seq its n =>
        obtain ⟨h1, h2⟩ := He.ba (show (decide (c = "tuple") && decide (its.toList = [])) = true from h)
        have e : its.toList = [] := of_decide_eq_true h2
        have sz : its.size = 0 := by rw [← Array.length_toList, e]; rfl
        exact .inr ⟨_, its, n, q, congrArg Value.type (of_decide_eq_true h1), rfl, by rw [sz]; exact Nat.zero_le _, by rw [e]; exact .nil⟩
      | _ => cases h
    | _ => cases dt <;> cases h
theorem offB_ok {K : PySem.W.Frag} {x m : Str} (h : offB K x m = true) : Off K (He.ga K x) m (He.ma K (He.ga K x) m) := by
  obtain ⟨h1, h⟩ := He.ba h
  obtain ⟨h2, h⟩ := He.ba h
  obtain ⟨h3, h4⟩ := He.ba h
  refine ⟨⟨_, ⟨h1, He.eqO_ok h2⟩, ?_⟩, h4⟩
  split at h3
  · rename_i a q
    rw [q, of_decide_eq_true h3]
  · cases h3
theorem all_of {α : Type} {l : List α} {p : α → Bool} (h : l.all p = true) (i : Nat) {x : α} (e : l[i]? = some x := by rfl) : p x = true := List.all_eq_true.mp h x (List.mem_of_getElem? e)
/-! constants of the text -/
section
variable {K : PySem.W.Frag} {mg : Str → Option Value} {h : Heap}
/-- the module's name x stands for d -/
def Cst (K : PySem.W.Frag) (mg : Str → Option Value) (x : Str) (d : D) : Prop := ∀ (cl : Cl), ∃ v u, mg x = some u ∧ RelV v u ∧ ∀ H m, RD K cl H m d v
theorem Cst.pe {x : Str} {d : D} (c : Cst K mg x d) {X : Cx} {cl : Cl} {W : WX} {pos : Pos} (hg : Gl X x) (hm : X.mg = mg := by rfl) (hK : X.K = K := by rfl) (hd : (x == ("__debug__" : Str)) = false := by decide) : PE X (.Name x pos) (tE X.K cl W (eCst d)) := by
  subst hm hK
  obtain ⟨v, u, e, r, q⟩ := c cl
  exact snd_glob hg e r q hd
theorem cst_int (KX : K.In h) (G : h.Ns mainGlobals mg) {x : Str} {i : Int} (c : (He.Fa.int x i).ok K = true) : Cst K mg x (.int i) := fun cl => by
  obtain ⟨t, e⟩ := He.int_ok KX G c
  exact ⟨.int i, _, e, ⟨t, rfl⟩, fun _ _ => .int i⟩
theorem cst_str (KX : K.In h) (G : h.Ns mainGlobals mg) {x z y : Str} (c : (He.Fa.str x z).ok K = true) (e : z = y) : Cst K mg x (.str y) := fun cl => by
  obtain ⟨t, e1⟩ := He.str_ok KX G c
  subst e
  exact ⟨.str z, _, e1, ⟨t, rfl⟩, fun _ _ => .str z⟩
/-- written values -/
def dvD : He.Dv → D
  | .non => .non
  | .bl b => .bl b
  | .int i => .int i
  | .str x => .str x
  | _ => .non
def dvP : He.Dv → Bool
  | .non => true
  | .bl _ => true
  | .int _ => true
  | .str _ => true
  | _ => false
theorem dv_rd {cl : Cl} {H : L2.Hp} {m : Mp} : ∀ dvs : List He.Dv, dvs.all dvP = true → RDs K cl H m (dvs.map dvD) (dvs.map (He.Dv.v K))
  | [], _ => .nil
  | d :: ds, h => by
    rw [List.all_cons, Bool.and_eq_true] at h
    refine .cons ?_ (dv_rd ds h.2)
    cases d with
    | non => exact .non
    | bl b => exact .bl b
    | int i => exact .int i
    | str x => exact .str x
    | _ => exact absurd h.1 (by simp [dvP])
theorem cst_tup (KX : K.In h) (G : h.Ns mainGlobals mg) {x : Str} {dvs : List He.Dv} {ds : List D} (c : (He.Fa.glo x).ok K = true) (m : He.tupB K x dvs = true) (e : dvs.map dvD = ds) (p : dvs.all dvP = true) : Cst K mg x (.ctp ds) := fun cl => by
  subst e
  exact ⟨.ref _, _, He.glo_ok KX G c, rfl, fun H m' => .ctp (fun H' => He.tupB_ok m H') (dv_rd dvs p)⟩
end
/-! ### the law's end -/
theorem scr_start {K : PySem.W.Frag} {cl : Cl} {H : L2.Hp} {m : Mp} {a : Addr} {ns : List Int} (ho : Only H) (hs : cl.scr = none) (q : SqL K H a (ns.map V.int)) : RD K cl H m (.scr (ns.map D.int)) (.ref a) := by
  have r : ∀ ns : List Int, RDs K cl H m (ns.map D.int) (ns.map V.int) := fun ns => by
    induction ns with
    | nil => exact .nil
    | cons i r ih => exact .cons (.int i) ih
  refine .scr ?_ (r ns) (fun l z => by rw [hs] at z; cases z)
  rcases q with (q | q) | q
  · rcases ho a with z | ⟨o, xs, z⟩
    · rw [z] at q; cases q
    · rw [z] at q; cases q
  · exact .inl q
  · exact .inr q
/-- the law gives True -/
theorem law_yes {K : PySem.W.Frag} {cl : Cl} {f : Fn} {H : L2.Hp} {a : Addr} {ns : List Int} (ho : Only H) (ht : cl.tabs = []) (hs : cl.scr = none) (q : SqL K H a (ns.map V.int)) (h : ∃ h', f [.scr (ns.map D.int)] h0 = .ok (.bl true) h') :
    spI K cl 1 f [.ref a] H (fun v _ => v = .bl true) E0 := by
  obtain ⟨h', e⟩ := h
  have n0 : ∀ k n, h0.get k n = none := fun k n => by
    unfold h0
    rw [Hp.get_def]
    match k with
    | 0 | 1 | 2 | 3 | 4 | 5 | 6 => rfl
    | k + 7 => rfl
  refine ⟨fun _ _ => none, h0, [.scr (ns.map D.int)], ?_, .cons (scr_start ho hs q) .nil, rfl, ?_⟩
  · refine ⟨fun k n => ⟨fun z => absurd rfl z, fun z => absurd (n0 k n) z⟩, fun k n k' n' a e => (by cases e), fun k n o a _ e => (by cases e), fun k n a e => (by cases e), by rw [ht]; exact fun p hp => (by cases hp)⟩
  · rw [e]
    intro m' H' _ _ v r
    cases r
    rfl
end IP

/-! Equations of the interpreter, and the draws. -/
namespace IP
open PySem (Str PyData)
section
variable {α β : Type} {h : Hp} {σ : Lo} {o : Option D}
theorem bnd_ok' {a : α} {f : α → Hp → R β} : R.bnd (.ok a h) f = f a h := (rfl)
theorem calm_okE {a : α} : R.calm (.ok a h) = .ok a h := (rfl)
theorem stm_ok {a : α} {f : α → Hp → R Fl} : R.stm (.ok a h) σ f = f a h := (rfl)
theorem thn_nxt {f : S} : R.thn (.ok (.nxt σ) h) f = f σ h := (rfl)
theorem thn_ret {f : S} {d : D} : R.thn (.ok (.ret d) h) f = .ok (.ret d) h := (rfl)
theorem trn_nxt {f : S} : R.trn (.ok (.nxt σ) h) f = f σ h := (rfl)
theorem opt_some {a : α} {f : α → R β} : opt (some a) f = f a := (rfl)
theorem grd_true {r : R α} : grd true r = r := (rfl)
theorem eLoc_int {i : Int} : eLoc 0 (some (.int i) :: σ) h = .ok (.int i) h := (rfl)
theorem eLoc_scr {xs : List D} : eLoc 0 (some (.scr xs) :: σ) h = .ok (.scr xs) h := (rfl)
theorem eLoc_s {n : Nat} : eLoc (n + 1) (o :: σ) h = eLoc n σ h := (rfl)
theorem eCst_ok {d : D} : eCst d σ h = .ok d h := (rfl)
theorem one_ok {f : D → Hp → R D} {a : E} : one f a σ h = (a σ h).bnd f := (rfl)
theorem two_ok {f : D → D → Hp → R D} {a b : E} : two f a b σ h = (a σ h).bnd fun x h => (b σ h).bnd fun y h => f x y h := (rfl)
theorem aNil_ok : aNil σ h = .ok [] h := (rfl)
theorem aCons_ok {e : E} {r : A} : aCons e r σ h = (e σ h).bnd fun x h => (r σ h).bnd fun xs h => .ok (x :: xs) h := (rfl)
theorem eLst_ok {a : A} : eLst a σ h = (a σ h).bnd fun xs h => if xs.length ≤ bigD then .ok (.lst xs) h else .no := (rfl)
theorem eCall_ok {np : Nat} {f : Fn} {a : A} : eCall np f a σ h = (a σ h).bnd fun xs h => grd (xs.length == np) (f xs h) := (rfl)
theorem tVal_ok {e : E} : tVal e σ h = (e σ h).bnd fun x h => match x with
  | .bl b => .ok b h
  | _ => .no := (rfl)
theorem tAnd_ok {a b : T} : tAnd a b σ h = (a σ h).bnd fun x h => match x with
  | true => b σ h
  | false => .ok false h := (rfl)
theorem eIf_ok {c : T} {a b : E} : eIf c a b σ h = (c σ h).bnd fun x h => match x with
  | true => a σ h
  | false => b σ h := (rfl)
theorem sIf_ok {c : T} {a b : S} : sIf c a b σ h = (c σ h).stm σ fun x h => match x with
  | true => a σ h
  | false => b σ h := (rfl)
theorem bCons_ok {s r : S} : bCons s r σ h = (s σ h).thn r := (rfl)
theorem bNil_ok : bNil σ h = .ok (.nxt σ) h := (rfl)
theorem sRet_ok {e : E} : sRet e σ h = (e σ h).stm σ fun d h => .ok (.ret d) h := (rfl)
theorem sAsg_ok {g : G} {e : E} : sAsg g e σ h = (e σ h).stm σ fun d h => (g d σ h).calm.stm σ fun σ h => .ok (.nxt σ) h := (rfl)
theorem gLoc_ok {i : Nat} {d : D} : gLoc i d σ h = .ok (σ.set i (some d)) h := (rfl)
theorem sPar_ok {i j : Nat} {a b : E} : sPar i j a b σ h = (a σ h).stm σ fun x h => (b σ h).stm σ fun y h => .ok (.nxt ((σ.set i (some x)).set j (some y))) h := (rfl)
theorem sWhl_succ {n : Nat} {c : T} {b : S} : sWhl (n + 1) c b σ h = (c σ h).stm σ fun x h => match x with
  | true => (b σ h).trn (sWhl n c b)
  | false => .ok (.nxt σ) h := (rfl)
theorem eLc_ok {vs : List Nat} {g : G} {i : A} {t : T} {e : E} : eLc vs g i t e σ h = (i σ h).bnd fun xs h => (lcGo g t e (wipe σ vs) xs [] h).bnd fun ys h => .ok (.lst ys) h := (rfl)
theorem iRng_ok {e : E} : iRng e σ h = (e σ h).bnd fun d h => match d with
  | .int j => grd (okRng j) (.ok (rng 0 j.toNat) h)
  | _ => .no := (rfl)
theorem sFor_ok {g : G} {i : A} {b : S} : sFor g i b σ h = (i σ h).stm σ fun xs h => forGo g b xs σ h := (rfl)
theorem fnEnd_ret {d : D} : fnEnd (.ok (.ret d) h) = .ok d h := (rfl)
theorem mkFn_ok {np ns : Nat} {b : S} {ds : List D} : mkFn np ns b ds h = grd (ds.length == np) (fnEnd (b (entry ns ds) h)) := (rfl)
theorem fAdd_int {i j : Int} : fAdd (.int i) (.int j) h = .ok (.int (i + j)) h := (rfl)
theorem fSub_int {i j : Int} : fSub (.int i) (.int j) h = .ok (.int (i - j)) h := (rfl)
theorem fMul_int {i j : Int} (c : mulOk i j = true) : fMul (.int i) (.int j) h = .ok (.int (i * j)) h := if_pos c
theorem fFdv_int {i j : Int} (c : 0 < j) (b : bits j < 9000) : fFdv (.int i) (.int j) h = .ok (.int (i / j)) h := if_pos (by rw [decide_eq_true c, decide_eq_true b]; rfl)
theorem fMod_int {i j : Int} (c : 0 < j) : fMod (.int i) (.int j) h = .ok (.int (i % j)) h := if_pos c
theorem fCmp_int {p : Int → Int → Bool} {i j : Int} : fCmp p (.int i) (.int j) h = .ok (.bl (p i j)) h := (rfl)
theorem fMax_int {i j : Int} : fMax (.int i) (.int j) h = .ok (.int (if j > i then j else i)) h := (rfl)
end
theorem bits_of {i : Int} {k : Nat} (h : i.natAbs < 2 ^ k) (h1 : 0 < k) : bits i < k := by
  unfold bits
  by_cases c : i.natAbs = 0
  · rw [c]; simpa using h1
  · exact (Nat.log2_lt c).mpr h
/-! ### draws -/
def scr (ns : List Int) : D := .scr (ns.map D.int)
/-- the draw's def -/
noncomputable def bPick : S := (bCons (sAsg (gLoc 3) (eIf (tVal (two fNe (eLoc 0) (eLst aNil))) (two fIdx (eLoc 0) (two fMod (eLoc 1) (one fLen (eLoc 0)))) (eCst (D.int (0 : Int)))))
 (bCons (sPar 4 5 (two fFdv (eLoc 3) (two fPow (eCst (D.int (10 : Int))) (eCst (D.int (18 : Int))))) (two fFdv (eLoc 1) (two fMax (one fLen (eLoc 0)) (eCst (D.int (1 : Int))))))
 (bCons (sWhl fuel (tAnd (tVal (two fGt (eLoc 4) (eCst (D.int (0 : Int))))) (tVal (two fGt (eLoc 5) (eCst (D.int (0 : Int))))))
 (bCons (sPar 4 5 (two fFdv (eLoc 4) (eCst (D.int (840 : Int)))) (two fSub (eLoc 5) (eCst (D.int (1 : Int)))))
 bNil))
 (bCons (sIf (tVal (two fGt (eLoc 4) (eCst (D.int (0 : Int)))))
 (bCons (sRet (two fMod (two fMod (eLoc 4) (eCst (D.int (840 : Int)))) (eLoc 2)))
 bNil)
 bNil)
 (bCons (sAsg (gLoc 6) (two fMod (two fMul (two fAdd (two fMul (eLoc 3) (eCst (D.int (31 : Int)))) (two fMul (eCst (D.int (6151 : Int))) (two fAdd (eLoc 1) (eCst (D.int (1 : Int)))))) (eCst (D.int (40692 : Int)))) (eCst (D.int (2147483399 : Int)))))
 (bCons (sRet (two fMod (two fMod (two fAdd (two fMul (eLoc 6) (eLoc 6)) (two fFdv (eLoc 6) (eCst (D.int (31 : Int))))) (eCst (D.int (2147483629 : Int)))) (eLoc 2)))
 bNil))))))
noncomputable def fPick : Fn := mkFn 3 7 bPick
theorem toPs_ints : ∀ ns : List Int, toPs (ns.map D.int) = ns.map PySem.PyData.int
  | [] => by simp only [List.map, toPs]
  | i :: r => by simp only [List.map, toPs, toP, toPs_ints r]
theorem canLay_ints : ∀ ns : List Int, PySem.PyData.canLayAll0 (ns.map PySem.PyData.int) = true
  | [] => by simp only [List.map, PyData.canLayAll0]
  | i :: r => by simp only [List.map, PyData.canLayAll0, PyData.canLay0, canLay_ints r, Bool.and_self]
theorem depth_ints : ∀ ns : List Int, PySem.PyData.depthAll (ns.map PySem.PyData.int) = 0
  | [] => by simp only [List.map, PyData.depthAll]
  | i :: r => by simp only [List.map, PyData.depthAll, PyData.depth, depth_ints r, Nat.max_self]
theorem plain_scr (ns : List Int) : plain (scr ns) = true := by
  unfold plain scr
  simp only [toP, toPs_ints, PyData.canLay0, PyData.depth, canLay_ints, depth_ints]
  rfl
theorem plain_nil : plain (.lst []) = true := by
  unfold plain
  simp only [toP, toPs, PyData.canLay0, PyData.depth, PyData.canLayAll0, PyData.depthAll]
  rfl
theorem scr_ne {ns : List Int} {h : Hp} : fNe (scr ns) (.lst []) h = .ok (.bl (!ns.isEmpty)) h := by
  have e : eqD (scr ns) (.lst []) = some ns.isEmpty := by
    have e1 : sc (scr ns) (.lst []) = none := rfl
    have e2 : lnNe (scr ns) (.lst []) = false := rfl
    unfold eqD
    rw [e1]
    simp only [e2, plain_scr, plain_nil, Bool.and_self, if_true, Bool.false_eq_true, if_false]
    unfold scr
    simp only [toP, toPs_ints, toPs, PyData.eqv]
    cases ns with
    | nil => simp only [List.map, PyData.eqvAll, List.isEmpty]
    | cons i r => simp only [List.map, PyData.eqvAll, List.isEmpty]
  unfold fNe
  rw [e]
  rfl
theorem pick_loop {a b c d g : Option D} : ∀ (n : Nat) (rest turn : Int), turn.toNat < n → ∃ r t, ∀ h, sWhl n (tAnd (tVal (two fGt (eLoc 4) (eCst (D.int (0 : Int))))) (tVal (two fGt (eLoc 5) (eCst (D.int (0 : Int))))))
    (bCons (sPar 4 5 (two fFdv (eLoc 4) (eCst (D.int (840 : Int)))) (two fSub (eLoc 5) (eCst (D.int (1 : Int))))) bNil) [a, b, c, d, some (.int rest), some (.int turn), g] h = .ok (.nxt [a, b, c, d, some (.int r), some (.int t), g]) h
  | 0, _, _, q => absurd q (Nat.not_lt_zero _)
  | n + 1, rest, turn, q => by
    by_cases c1 : 0 < rest
    · by_cases c2 : 0 < turn
      · obtain ⟨r, t, e⟩ := pick_loop (a := a) (b := b) (c := c) (d := d) (g := g) n (rest / 840) (turn - 1) (by omega)
        refine ⟨r, t, fun h => ?_⟩
        rw [sWhl_succ]
        simp only [tAnd_ok, tVal_ok, two_ok, eLoc_int, eLoc_s, eCst_ok, bnd_ok', fCmp_int]
        have F := fFdv_int (h := h) (i := rest) (j := 840) (by decide) (by decide)
        simp only [decide_eq_true c1, decide_eq_true c2, if_true, bnd_ok', stm_ok, bCons_ok, sPar_ok, two_ok, eLoc_int, eLoc_s, eCst_ok, F, fSub_int, List.set_cons_succ, List.set_cons_zero, thn_nxt, bNil_ok, trn_nxt, e]
      · exact ⟨rest, turn, fun h => by rw [sWhl_succ]; simp only [tAnd_ok, tVal_ok, two_ok, eLoc_int, eLoc_s, eCst_ok, bnd_ok', fCmp_int, decide_eq_true c1, decide_eq_false c2, if_true, stm_ok, Bool.false_eq_true, if_false]⟩
    · exact ⟨rest, turn, fun h => by rw [sWhl_succ]; simp only [tAnd_ok, tVal_ok, two_ok, eLoc_int, eLoc_s, eCst_ok, bnd_ok', fCmp_int, decide_eq_false c1, stm_ok, Bool.false_eq_true, if_false]⟩
theorem mulOk_l {i j : Int} (h : small i = true) : mulOk i j = true := by unfold mulOk; rw [h]; simp
theorem mulOk_r {i j : Int} (h : small j = true) : mulOk i j = true := by unfold mulOk; rw [h]; simp
theorem pick_eq (ns : List Int) (hns : ns.length ≤ 63) (k m : Nat) (hm : 0 < m) (hk : k < 2 ^ 64) : ∃ v : Nat, v < m ∧ ∀ h, fPick [scr ns, .int (k : Int), .int (m : Int)] h = .ok (.int (v : Int)) h := by
  have mp : (0 : Int) < (m : Int) := by omega
  have e1 : ∀ x, entry 7 [x, D.int (k : Int), D.int (m : Int)] = [some x, some (.int k), some (.int m), none, none, none, none] := fun _ => rfl
  have Ls : ∀ σ h, eLoc 0 (some (scr ns) :: σ) h = .ok (scr ns) h := fun _ _ => rfl
  have lenE : ∀ h, fLen (scr ns) h = .ok (.int (ns.length : Int)) h := fun h => by
    show R.ok (D.int ((ns.map D.int).length : Int)) h = _
    rw [List.length_map]
  -- the cell
  have cell : ∃ c : Int, ∀ h, eIf (tVal (two fNe (eLoc 0) (eLst aNil))) (two fIdx (eLoc 0) (two fMod (eLoc 1) (one fLen (eLoc 0)))) (eCst (D.int (0 : Int))) [some (scr ns), some (.int (k : Int)), some (.int m), none, none, none, none] h = .ok (.int c) h := by
    by_cases hn : ns = []
    · refine ⟨0, fun h => ?_⟩
      have e : ns.isEmpty = true := by rw [hn]; rfl
      simp only [eIf_ok, tVal_ok, two_ok, Ls, eLst_ok, aNil_ok, bnd_ok', List.length_nil, Nat.zero_le, if_true, scr_ne, e, Bool.not_true, eCst_ok]
    · have lp : 0 < ns.length := List.length_pos_iff.mpr hn
      have lp' : (0 : Int) < (ns.length : Int) := by omega
      have e : ns.isEmpty = false := by simpa using hn
      have hx : k % ns.length < ns.length := Nat.mod_lt _ lp
      refine ⟨ns[k % ns.length], fun h => ?_⟩
      have M := fMod_int (h := h) (i := (k : Int)) lp'
      have ix : ((k : Int) % (ns.length : Int)) = ((k % ns.length : Nat) : Int) := by push_cast; rfl
      have I : fIdx (scr ns) (.int ((k % ns.length : Nat) : Int)) h = .ok (.int ns[k % ns.length]) h := by
        have a : rowAt (scr ns) h = some (ns.map D.int) := rfl
        have b : atD (ns.map D.int) ((k % ns.length : Nat) : Int) = some (.int ns[k % ns.length]) := by
          unfold atD ixAt
          simp only [nth_eq]
          rw [if_pos (by omega)]
          simp only [Int.toNat_natCast, List.getElem?_map, List.getElem?_eq_getElem hx, Option.map_some]
        unfold fIdx
        rw [a]
        simp only [b, opt_some]
      simp only [eIf_ok, tVal_ok, two_ok, one_ok, Ls, eLoc_int, eLoc_s, eLst_ok, aNil_ok, bnd_ok', List.length_nil, Nat.zero_le, if_true, scr_ne, e, Bool.not_false, lenE, M]
      rw [ix, I]
  obtain ⟨c, hc⟩ := cell
  have mx : (0 : Int) < (if (1 : Int) > (ns.length : Int) then (1 : Int) else (ns.length : Int)) := by split <;> omega
  have mxb : bits (if (1 : Int) > (ns.length : Int) then (1 : Int) else (ns.length : Int)) < 9000 := by
    split
    · decide
    · exact Nat.lt_trans (bits_of (k := 7) (by omega) (by decide)) (by decide)
  have tb : ((k : Int) / (if (1 : Int) > (ns.length : Int) then (1 : Int) else (ns.length : Int))).toNat < fuel := by
    have h1 : (k : Int) / (if (1 : Int) > (ns.length : Int) then (1 : Int) else (ns.length : Int)) ≤ k := Int.ediv_le_self _ (by omega)
    have h2 : k < fuel := Nat.lt_trans hk (by decide)
    omega
  have P18 : ∀ h, fPow (.int 10) (.int 18) h = .ok (.int 1000000000000000000) h := fun h => rfl
  have F18 : ∀ h, fFdv (.int c) (.int 1000000000000000000) h = .ok (.int (c / 1000000000000000000)) h := fun h => fFdv_int (by decide) (by decide)
  have Fm := fun (h : Hp) => fFdv_int (h := h) (i := (k : Int)) mx mxb
  obtain ⟨r, t, L⟩ := pick_loop (a := some (scr ns)) (b := some (.int (k : Int))) (c := some (.int (m : Int))) (d := some (.int c)) (g := none) fuel (c / 1000000000000000000) _ tb
  have body : ∀ h (e : R Fl), fPick [scr ns, .int (k : Int), .int (m : Int)] h = fnEnd (((sIf (tVal (two fGt (eLoc 4) (eCst (D.int (0 : Int)))))
      (bCons (sRet (two fMod (two fMod (eLoc 4) (eCst (D.int (840 : Int)))) (eLoc 2))) bNil) bNil) [some (scr ns), some (.int (k : Int)), some (.int (m : Int)), some (.int c), some (.int r), some (.int t), none] h).thn
      (bCons (sAsg (gLoc 6) (two fMod (two fMul (two fAdd (two fMul (eLoc 3) (eCst (D.int (31 : Int)))) (two fMul (eCst (D.int (6151 : Int))) (two fAdd (eLoc 1) (eCst (D.int (1 : Int)))))) (eCst (D.int (40692 : Int)))) (eCst (D.int (2147483399 : Int)))))
      (bCons (sRet (two fMod (two fMod (two fAdd (two fMul (eLoc 6) (eLoc 6)) (two fFdv (eLoc 6) (eCst (D.int (31 : Int))))) (eCst (D.int (2147483629 : Int)))) (eLoc 2))) bNil))) := fun h _ => by
    have g : ([scr ns, D.int (k : Int), D.int (m : Int)].length == 3) = true := rfl
    simp only [fPick, bPick, mkFn_ok, g, grd_true, e1]
    rw [bCons_ok, sAsg_ok, hc]
    simp only [stm_ok, gLoc_ok, calm_okE, List.set_cons_succ, List.set_cons_zero, thn_nxt]
    rw [bCons_ok, sPar_ok]
    simp only [two_ok, one_ok, Ls, eLoc_int, eLoc_s, eCst_ok, bnd_ok', P18, F18, lenE, fMax_int, Fm, stm_ok, List.set_cons_succ, List.set_cons_zero, thn_nxt]
    rw [bCons_ok, L]
    simp only [thn_nxt]
    rw [bCons_ok]
  by_cases c4 : 0 < r
  · have M1 := fun (h : Hp) => fMod_int (h := h) (i := r) (j := 840) (by decide)
    have M2 := fun (h : Hp) => fMod_int (h := h) (i := r % 840) mp
    refine ⟨(r % 840 % (m : Int)).toNat, ?_, fun h => ?_⟩
    · have := Int.emod_lt_of_pos (r % 840) mp
      have := Int.emod_nonneg (r % 840) (by omega : (m : Int) ≠ 0)
      omega
    · rw [body h .no, Int.toNat_of_nonneg (Int.emod_nonneg _ (by omega))]
      simp only [sIf_ok, tVal_ok, two_ok, Ls, eLoc_int, eLoc_s, eCst_ok, bnd_ok', fCmp_int, decide_eq_true c4, stm_ok, if_true, bCons_ok, sRet_ok, M1, M2, thn_ret, fnEnd_ret]
  · have A1 := fun (h : Hp) => fMul_int (h := h) (i := c) (j := 31) (mulOk_r (by decide))
    have A2 := fun (h : Hp) => fMul_int (h := h) (i := 6151) (j := (k : Int) + 1) (mulOk_l (by decide))
    have A3 := fun (h : Hp) => fMul_int (h := h) (i := c * 31 + 6151 * ((k : Int) + 1)) (j := 40692) (mulOk_r (by decide))
    have A4 := fun (h : Hp) => fMod_int (h := h) (i := (c * 31 + 6151 * ((k : Int) + 1)) * 40692) (j := 2147483399) (by decide)
    have dl := Int.emod_lt_of_pos ((c * 31 + 6151 * ((k : Int) + 1)) * 40692) (by decide : (0 : Int) < 2147483399)
    have dn := Int.emod_nonneg ((c * 31 + 6151 * ((k : Int) + 1)) * 40692) (by decide : (2147483399 : Int) ≠ 0)
    generalize (c * 31 + 6151 * ((k : Int) + 1)) * 40692 % 2147483399 = e at A4 dl dn
    have A5 := fun (h : Hp) => fMul_int (h := h) (i := e) (j := e) (mulOk_l (by unfold small; rw [decide_eq_true (by omega : -(2 ^ 64) < e), decide_eq_true (by omega : e < 2 ^ 64)]; rfl))
    have A6 := fun (h : Hp) => fFdv_int (h := h) (i := e) (j := 31) (by decide) (by decide)
    have A7 := fun (h : Hp) => fMod_int (h := h) (i := e * e + e / 31) (j := 2147483629) (by decide)
    have A8 := fun (h : Hp) => fMod_int (h := h) (i := (e * e + e / 31) % 2147483629) mp
    refine ⟨((e * e + e / 31) % 2147483629 % (m : Int)).toNat, ?_, fun h => ?_⟩
    · have := Int.emod_lt_of_pos ((e * e + e / 31) % 2147483629) mp
      have := Int.emod_nonneg ((e * e + e / 31) % 2147483629) (by omega : (m : Int) ≠ 0)
      omega
    · rw [body h .no, Int.toNat_of_nonneg (Int.emod_nonneg _ (by omega))]
      simp only [sIf_ok, tVal_ok, two_ok, Ls, eLoc_int, eLoc_s, eCst_ok, bnd_ok', fCmp_int, decide_eq_false c4, stm_ok, Bool.false_eq_true, if_false, bNil_ok, thn_nxt, bCons_ok, sAsg_ok, A1, A2, fAdd_int, A3, A4, gLoc_ok, calm_okE, List.set_cons_succ, List.set_cons_zero, sRet_ok, A5, A6, A7, A8, thn_ret, fnEnd_ret]
/-! ### the draws replaced by their results -/
/-- results of draws: place, below, result -/
def look3 : List (Int × Int × Int) → Int → Int → Option Int
  | [], _, _ => none
  | (k, m, c) :: r, k', m' => if k = k' ∧ m = m' then some c else look3 r k' m'
noncomputable def stub (t : List (Int × Int × Int)) : Fn := fun ds h => match ds with
  | [.scr xs, .int k, .int m] => (match look3 t k m with
    | some c => .ok (.int c) h
    | none => fPick ds h)
  | _ => fPick ds h
theorem stub_eq {ns : List Int} : ∀ {t : List (Int × Int × Int)}, (∀ k m c, (k, m, c) ∈ t → ∀ h, fPick [scr ns, .int k, .int m] h = .ok (.int c) h) → ∀ (ds : List D) h, stub t (scr ns :: ds) h = fPick (scr ns :: ds) h := fun {t} ht ds h => by
  have key : ∀ (t : List (Int × Int × Int)) (k m c : Int), look3 t k m = some c → (k, m, c) ∈ t := fun t => by
    induction t with
    | nil => intro k m c e; cases e
    | cons p r ih =>
      intro k m c e
      obtain ⟨a, b, d⟩ := p
      unfold look3 at e
      by_cases q : a = k ∧ b = m
      · rw [if_pos q] at e
        cases e
        rw [q.1, q.2]
        exact List.mem_cons_self ..
      · rw [if_neg q] at e
        exact List.mem_cons_of_mem _ (ih k m c e)
  have two : ∀ k m : Int, stub t [scr ns, D.int k, D.int m] h = fPick [scr ns, D.int k, D.int m] h := fun k m => by
    show (match look3 t k m with
      | some c => R.ok (D.int c) h
      | none => fPick [scr ns, D.int k, D.int m] h) = _
    cases e : look3 t k m with
    | none => rfl
    | some c => exact (ht k m c (key t k m c e) h).symm
  match ds with
  | [] => rfl
  | [a] => cases a <;> rfl
  | a :: b :: c :: r => cases a <;> cases b <;> rfl
  | [a, b] => cases a <;> cases b <;> first | rfl | (rename_i k m; exact two k m)
/-- the script stands at slot 0 -/
def At0 (ns : List Int) (σ : Lo) : Prop := σ[0]? = some (some (scr ns))
theorem pick_at {ns : List Int} {t : List (Int × Int × Int)} (ht : ∀ k m c, (k, m, c) ∈ t → ∀ h, fPick [scr ns, .int k, .int m] h = .ok (.int c) h) {e2 e3 : E} {σ : Lo} (s : At0 ns σ) (h : Hp) :
    eCall 3 fPick (aCons (eLoc 0) (aCons e2 (aCons e3 aNil))) σ h = eCall 3 (stub t) (aCons (eLoc 0) (aCons e2 (aCons e3 aNil))) σ h := by
  have L : ∀ h, eLoc 0 σ h = .ok (scr ns) h := fun h => by
    unfold eLoc
    rw [nth_eq]
    rw [show σ[0]? = some (some (scr ns)) from s]
    rfl
  simp only [eCall_ok, aCons_ok, L, bnd_ok']
  cases h2 : e2 σ h with
  | ok x h' =>
    simp only [bnd_ok']
    cases h3 : e3 σ h' with
    | ok y h'' => simp only [bnd_ok', aNil_ok, stub_eq ht]
    | exc c p h'' => rfl
    | no => rfl
  | exc c p h' => rfl
  | no => rfl
/-! ### statements that leave slot 0 -/
def Kp (σ : Lo) : Fl → Prop
  | .nxt σ' => σ'[0]? = σ[0]?
  | .brk σ' => σ'[0]? = σ[0]?
  | .cnt σ' => σ'[0]? = σ[0]?
  | _ => True
def Keep (s : S) : Prop := ∀ σ h fl h', s σ h = .ok fl h' → Kp σ fl
theorem bnd_okE {α β : Type} {r : R α} {f : α → Hp → R β} {b : β} {h : Hp} (e : r.bnd f = .ok b h) : ∃ a h1, r = .ok a h1 ∧ f a h1 = .ok b h := by
  cases r with
  | ok a h1 => exact ⟨a, h1, rfl, e⟩
  | exc c p h => cases e
  | no => cases e
/-- two runs of a row of statements -/
theorem bc_same {ns : List Int} {s r r' : S} (k : Keep s) (q : ∀ σ h, At0 ns σ → r σ h = r' σ h) {σ : Lo} (a : At0 ns σ) (h : Hp) : bCons s r σ h = bCons s r' σ h := by
  rw [bCons_ok, bCons_ok]
  cases e : s σ h with
  | ok fl h' =>
    cases fl with
    | nxt σ' => exact q σ' h' ((k σ h _ _ e).trans a)
    | ret d => rfl
    | brk σ' => rfl
    | cnt σ' => rfl
    | exc c p σ' => rfl
  | exc c p h' => rfl
  | no => rfl
theorem bc_turn {ns : List Int} {s s' r r' : S} (k : Keep s') (p : ∀ σ h, At0 ns σ → s σ h = s' σ h) (q : ∀ σ h, At0 ns σ → r σ h = r' σ h) {σ : Lo} (a : At0 ns σ) (h : Hp) : bCons s r σ h = bCons s' r' σ h := by
  have e : bCons s r σ h = bCons s' r σ h := by rw [bCons_ok, bCons_ok, p σ h a]
  rw [e]
  exact bc_same k q a h
theorem keep_asg {i : Nat} {e : E} (hi : i ≠ 0) : Keep (sAsg (gLoc i) e) := fun σ h fl h' q => by
  rw [sAsg_ok] at q
  cases e1 : e σ h with
  | ok d h1 =>
    rw [e1] at q
    have q : R.ok (Fl.nxt (σ.set i (some d))) h1 = .ok fl h' := q
    cases q
    exact List.getElem?_set_ne hi
  | exc c p h1 => rw [e1] at q; cases q; trivial
  | no => rw [e1] at q; cases q
theorem keep_ownL {i : Nat} {a : A} (hi : i ≠ 0) : Keep (sOwnL i a) := fun σ h fl h' q => by
  unfold sOwnL at q
  cases e1 : a σ h with
  | ok d h1 =>
    rw [e1] at q
    have q : (if d.length ≤ bigD then R.ok (Fl.nxt (σ.set i (some (.ownL d)))) h1 else .no) = .ok fl h' := q
    split at q
    · cases q
      exact List.getElem?_set_ne hi
    · cases q
  | exc c p h1 => rw [e1] at q; cases q; trivial
  | no => rw [e1] at q; cases q
theorem keep_oapp {i : Nat} {e : E} (hi : i ≠ 0) : Keep (sOApp i e) := fun σ h fl h' q => by
  unfold sOApp at q
  split at q
  · rename_i xs _
    cases e1 : e σ h with
    | ok d h1 =>
      rw [e1] at q
      have q : (if xs.length < bigD then R.ok (Fl.nxt (σ.set i (some (.ownL (xs ++ [d]))))) h1 else .no) = .ok fl h' := q
      split at q
      · cases q
        exact List.getElem?_set_ne hi
      · cases q
    | exc c p h1 => rw [e1] at q; cases q; trivial
    | no => rw [e1] at q; cases q
  · cases q
theorem keep_frz {i : Nat} (hi : i ≠ 0) : Keep (sFrz i) := fun σ h fl h' q => by
  unfold sFrz at q
  cases e : ownAt σ i with
  | none => rw [e] at q; cases q
  | some d =>
    rw [e] at q
    have q : R.ok (Fl.nxt (σ.set i (some d))) h = .ok fl h' := q
    cases q
    exact List.getElem?_set_ne hi
theorem keep_nil : Keep bNil := fun σ h fl h' q => by
  have q : R.ok (Fl.nxt σ) h = .ok fl h' := q
  cases q
  rfl
theorem keep_cons {s r : S} (a : Keep s) (b : Keep r) : Keep (bCons s r) := fun σ h fl h' q => by
  rw [bCons_ok] at q
  cases e : s σ h with
  | ok f1 h1 =>
    rw [e] at q
    have k1 := a σ h f1 h1 e
    cases f1 with
    | nxt σ' =>
      have k2 := b σ' h1 fl h' q
      have k1 : σ'[0]? = σ[0]? := k1
      cases fl with
      | nxt σ2 => exact Eq.trans k2 k1
      | brk σ2 => exact Eq.trans k2 k1
      | cnt σ2 => exact Eq.trans k2 k1
      | ret d => trivial
      | exc c p σ2 => trivial
    | ret d => cases q; trivial
    | brk σ' => cases q; exact k1
    | cnt σ' => cases q; exact k1
    | exc c p σ' => cases q; trivial
  | exc c p h1 => rw [e] at q; cases q
  | no => rw [e] at q; cases q
theorem keep_go {i : Nat} {b : S} (hi : i ≠ 0) (k : Keep b) : ∀ xs : List D, Keep (forGo (gLoc i) b xs)
  | [] => keep_nil
  | x :: xs => fun σ h fl h' q => by
    have q : (b (σ.set i (some x)) h).trn (forGo (gLoc i) b xs) = .ok fl h' := q
    have e0 : (σ.set i (some x))[0]? = σ[0]? := List.getElem?_set_ne hi
    cases e : b (σ.set i (some x)) h with
    | ok f1 h1 =>
      rw [e] at q
      have k1 := k _ h f1 h1 e
      have go : ∀ {σ' : Lo}, σ'[0]? = (σ.set i (some x))[0]? → forGo (gLoc i) b xs σ' h1 = .ok fl h' → Kp σ fl := fun {σ'} z q => by
        have k2 := keep_go hi k xs σ' h1 fl h' q
        cases fl with
        | nxt σ2 => exact Eq.trans k2 (z.trans e0)
        | brk σ2 => exact Eq.trans k2 (z.trans e0)
        | cnt σ2 => exact Eq.trans k2 (z.trans e0)
        | ret d => trivial
        | exc c p σ2 => trivial
      cases f1 with
      | nxt σ' => exact go k1 q
      | cnt σ' => exact go k1 q
      | brk σ' => cases q; exact Eq.trans k1 e0
      | ret d => cases q; trivial
      | exc c p σ' => cases q; trivial
    | exc c p h1 => rw [e] at q; cases q
    | no => rw [e] at q; cases q
theorem keep_for {i : Nat} {a : A} {b : S} (hi : i ≠ 0) (k : Keep b) : Keep (sFor (gLoc i) a b) := fun σ h fl h' q => by
  unfold sFor at q
  cases e : a σ h with
  | ok xs h1 => rw [e] at q; exact keep_go hi k xs σ h1 fl h' q
  | exc c p h1 => rw [e] at q; cases q; trivial
  | no => rw [e] at q; cases q
end IP

namespace IP
open PySem PySem.Spec PyProof.Rows L2
section
variable {X : Cx} {cl : Cl} {W : WX} {a e : Expr} {ea ee : E} {pos apos : Pos}
/-- l.append(e), l a list of ours -/
theorem snd_app (ho : PE X a (tE X.K cl W ea)) (he : PE X e (tE X.K cl W ee))
    (hbase : attributeBase a "append" X.env (eval a X.env) = eval a X.env := by rfl)
    (hfew : ((backTo pos (starEach [e] X.env)).all (fun x => !x.1) && (backToKw pos (keywordEach [] X.env)).all (fun x => x.1.isSome)
      && decide ([e].length + ([] : List Keyword).length + (if ([] : List Keyword).isEmpty then 0 else 1) < 30)) = true := by rfl)
    (hline : (apos.endLine == pos.line) = true := by rfl) (hs : starEach [e] X.env = (false, eval e X.env) :: starEach [] X.env := by rfl) (hplain : (backTo pos (starEach [] X.env)).any (·.1) = false := by rfl) :
    PE X (.Call (.Attribute a "append" apos) [e] [] pos) (tE X.K cl W (eApp ea ee)) :=
  pe_imp (pe_bm PySem.F.plainAttrs_list PySem.F.slot_list_append PySem.F.type_list_append mt_append ho (pa_cons he pa_nil hs) hbase hfew hline hs hplain) fun σV H Q ⟨m, σ, h, H0, L, C, w⟩ => tE.use L C w fun d h1 m1 H1 v e1 L1 C1 r1 w1 => by
    obtain ⟨ci, w1b⟩ := WP.grd w1
    clear w1
    cases r1 <;> first | (cases ci; done) | skip
    rename_i k n p hp
    have ty : ∃ vs0, H1 p = some (.lst vs0) := by
      unfold isL at ci
      cases q : h1.get k n with
      | none => simp only [q] at ci; cases ci
      | some ob =>
        simp only [q] at ci
        match ob, ci, q with
        | .lst xs, _, q => obtain ⟨vs, z, _⟩ := C1.obj k n _ p q hp; exact ⟨vs, z⟩
    obtain ⟨vs0, hH⟩ := ty
    refine ⟨.inl ⟨rfl, vs0, .inl (.inl hH)⟩, m1, σ, h1, H0, L1, C1, w1b.bnd.imp fun d2 h2 m2 H2 e2 C2 w2 v2 r2 => ?_⟩
    obtain ⟨⟨k', n', xs⟩, eq, w3⟩ := WP.opt w2
    unfold lstAt at eq
    cases q : h2.get k n with
    | none => simp only [q] at eq; cases eq
    | some ob =>
      simp only [q] at eq
      match ob, eq, q with
      | .lst ys, eq, q =>
        cases eq
        have hp2 := e2.pre _ _ _ hp
        obtain ⟨vs2, hH2, rs⟩ := C2.obj k n _ p q hp2
        obtain ⟨c, w4⟩ := WP.ite w3
        have ex : Ext m2 m2 H2 (upd H2 p (.lst (vs2 ++ [v2]))) := Ext.wr hp2 hH2 trivial
        exact ⟨p, vs2, v2, rfl, rfl, hH2, by rw [← rs.length]; exact line2 c, w4 m2 _ ex (C2.put q hp2 ex.imm ⟨_, upd_same, (rs.append (.cons r2 .nil)).upI ex.imm⟩ ⟨_, hH2, trivial⟩) _ .non⟩
end
section
variable {K : PySem.W.Frag} {cl : Cl}
theorem one_cf {c : Nat} (h : CF K cl c) : ∀ c' ∈ [c], CF K cl c' := fun c' hc => by rw [List.mem_singleton.mp hc]; exact h
theorem one_f {c i : Nat} {f : Str} (h : (cl.fld c)[i]? = some f) : ∀ c' ∈ [c], (cl.fld c')[i]? = some f := fun c' hc => by rw [List.mem_singleton.mp hc]; exact h
end
section
variable {X : Cx} {cl : Cl} {W : WX} {pos : Pos}
theorem op_eqLn (hu : X.A.units + 64 < cLine) : OpR X (compareOp .Eq) (rLn X.K false) := fun pins s σ H x y v u Q I rx ry h => by
  obtain ⟨a, b, xs, ys, rfl, rfl, qa, qb, ne, q⟩ := h
  cases (show v = Value.ref a from rx)
  cases (show u = Value.ref b from ry)
  obtain ⟨us, r1, p1, _⟩ := I.list qa
  obtain ⟨ws, r2, p2, _⟩ := I.list qb
  refine SeqAt.eq_list_lengthsAt p1.isList p2.isList ?_ (by omega) ⟨.bl false, H, I, rfl, q⟩
  rw [List.size_toArray, List.size_toArray, ← r1.length, ← r2.length]
  simpa using ne
theorem op_neLn (hu : X.A.units + 64 < cLine) : OpR X (compareOp .NotEq) (rLn X.K true) := fun pins s σ H x y v u Q I rx ry h => by
  obtain ⟨a, b, xs, ys, rfl, rfl, qa, qb, ne, q⟩ := h
  cases (show v = Value.ref a from rx)
  cases (show u = Value.ref b from ry)
  obtain ⟨us, r1, p1, _⟩ := I.list qa
  obtain ⟨ws, r2, p2, _⟩ := I.list qb
  refine (SeqAt.RcNeAt.lists_lengths p1.isList p2.isList ?_ (by omega)) _ _ _ _ ⟨.bl true, H, I, rfl, q⟩
  rw [List.size_toArray, List.size_toArray, ← r1.length, ← r2.length]
  simpa using ne
theorem op_eqA (hu : X.A.units + 64 < cLine) : OpR X (compareOp .Eq) (fun x y H Q => (rEq x y H Q ∨ rEqD X.K x y H Q) ∨ rLn X.K false x y H Q) := (op_eq.or (op_eqD hu)).or (op_eqLn hu)
theorem op_neA (hu : X.A.units + 64 < cLine) : OpR X (compareOp .NotEq) (fun x y H Q => (rNe x y H Q ∨ rNeD X.K x y H Q) ∨ rLn X.K true x y H Q) := (op_ne.or (op_neD hu)).or (op_neLn hu)
theorem snd_dispE {keys : List (Option Expr)} {values : List Expr} {ps : List (E × E)} (h : PPs X pos keys values (ps.map fun p => (tE X.K cl W p.1, tE X.K cl W p.2))) (hall : keys.all (·.isSome) = true) (hl : keys.length = values.length) (h0 : keys ≠ []) (h15 : keys.length ≤ 15) : PE X (.Dict keys values pos) (tE X.K cl W (eDisp ps)) := snd_dispG dend_val h hall hl h0 h15
theorem snd_dispRE {keys : List (Option Expr)} {values : List Expr} {ps : List (E × E)} (h : PPs X pos keys values (ps.map fun p => (tE X.K cl W p.1, tE X.K cl W p.2))) (hall : keys.all (·.isSome) = true) (hl : keys.length = values.length) (h0 : keys ≠ []) (h15 : keys.length ≤ 15) : PE X (.Dict keys values pos) (tE X.K cl W (eDispR ps)) := snd_dispG dend_ref h hall hl h0 h15
end
section
variable {P : Program} {w : World} {K : PySem.W.Frag} {mg : Str → Option Value} {base : Heap}
/-- a def that raises nothing -/
theorem calm0 {k : Nat} {f : Addr} {fd : FuncData} {ps : List Str} {sp : Sp} (F : FnOk P w K mg base (L2.CX P w) k f fd ps sp) : FnOk P w K mg base CX0 k f fd ps (fun vs H Q _ => sp vs H Q E0) :=
  ⟨fun vs H Q E q => F.len vs H Q E0 q, fun A outer s H args us vs Q E hr he hb hv hs => codeAny_mono (F.run A outer s H args us vs Q E0 hr he hb hv hs) fun r s' hq => by
    cases r with
    | ok fl => cases fl <;> exact hq
    | error e =>
      obtain ⟨_, _, _, _, _, _, _, _, _, _, _, _, z⟩ := hq
      exact z.elim⟩
end
end IP

/-! More of lists: how often, where first, one list behind another. -/
namespace IP
open PySem PySem.Spec PyProof.Rows L2 PySem.SeqAt
noncomputable section
def cntD : D → List D → Option Nat
  | .int i, xs => (match intsD xs with
    | some l => some (l.count i)
    | none => none)
  | .bl b, xs => (match blsD xs with
    | some l => some (l.count b)
    | none => none)
  | _, _ => none
/-- xs.count(x) -/
def eCnt (a e : E) : E := fun σ h => (a σ h).bnd fun d h => match d with
  | .lst xs => (e σ h).bnd fun x h => opt (cntD x xs) fun n => .ok (.int (n : Nat)) h
  | _ => .no
def whereI (i : Int) (l : List Int) : Option Nat := if l.contains i then some (l.idxOf i) else none
def whereB (i : Bool) (l : List Bool) : Option Nat := if l.contains i then some (l.idxOf i) else none
def whereS (i : Str) (l : List Str) : Option Nat := if l.any (eqS i) then some (l.idxOf i) else none
def idxD : D → List D → Option Nat
  | .int i, xs => (match intsD xs with
    | some l => whereI i l
    | none => none)
  | .bl b, xs => (match blsD xs with
    | some l => whereB b l
    | none => none)
  | _, _ => none
/-- xs.index(x), x is there -/
def eIxO (a e : E) : E := fun σ h => (a σ h).bnd fun d h => match d with
  | .lst xs => (e σ h).bnd fun x h => opt (idxD x xs) fun n => .ok (.int (n : Nat)) h
  | _ => .no
/-- x.extend([..]), x held by one name alone -/
def sOExA (i : Nat) (a : A) : S := fun σ h => match σ[i]? with
  | some (some (.ownL xs)) => (a σ h).stm σ fun ys h => if xs.length + ys.length ≤ bigD then .ok (.nxt (σ.set i (some (.ownL (xs ++ ys))))) h else .no
  | _ => .no
end
section
variable {K : PySem.W.Frag} {cl : Cl}
theorem intsV {m : Mp} {H : L2.Hp} : ∀ {ds : List D} {vs : List V} {is : List Int}, RDs K cl H m ds vs → intsD ds = some is → vs = is.map V.int
  | [], _, _, .nil, e => by cases e; rfl
  | d :: ds, _, is, .cons a r, e => by
    cases a <;> first | (cases e; done) | skip
    rename_i i
    unfold intsD at e
    cases q : intsD ds with
    | none => rw [q] at e; cases e
    | some js =>
      rw [q] at e
      cases e
      rw [intsV r q]
      rfl
theorem blsV {m : Mp} {H : L2.Hp} : ∀ {ds : List D} {vs : List V} {is : List Bool}, RDs K cl H m ds vs → blsD ds = some is → vs = is.map V.bl
  | [], _, _, .nil, e => by cases e; rfl
  | d :: ds, _, is, .cons a r, e => by
    cases a <;> first | (cases e; done) | skip
    rename_i i
    unfold blsD at e
    cases q : blsD ds with
    | none => rw [q] at e; cases e
    | some js =>
      rw [q] at e
      cases e
      rw [blsV r q]
      rfl
end
section
variable {X : Cx}
/-- a truth against values of truths -/
def sameB (k : Bool) (v : Value) : Bool := match v with
  | .bool n => n == k
  | _ => false
theorem bools_at {A : Around} {s : Shared} {k : Bool} : ∀ {l : List Bool} {us : List Value}, Vals (l.map V.bl) us → (∀ y ∈ us, EqAt A s y (.bool k) (sameB k y)) ∧ us.countP (sameB k) = l.count k ∧ us.length = l.length ∧ ∀ (j : Nat) (h1 : j < us.length) (h2 : j < l.length), us[j] = .bool l[j]
  | [], us, r => by
    rw [List.map_nil] at r
    cases r
    exact ⟨fun y hy => (by cases hy), rfl, rfl, fun j h1 _ => absurd h1 (Nat.not_lt_zero _)⟩
  | b :: l, us, r => by
    rw [List.map_cons] at r
    cases r with
    | @cons _ u _ us' a r' =>
      obtain rfl : u = Value.bool b := a
      obtain ⟨h1, h2, h3, h4⟩ := bools_at (A := A) (s := s) (k := k) r'
      refine ⟨fun y hy => ?_, ?_, by rw [List.length_cons, List.length_cons, h3], fun j q1 q2 => ?_⟩
      · rcases List.mem_cons.mp hy with rfl | hy
        · exact EqAt.bool_bool b k
        · exact h1 y hy
      · rw [List.countP_cons, List.count_cons, h2] <;> rfl
      · cases j with
        | zero => rfl
        | succ j => exact h4 j (Nat.lt_of_succ_lt_succ q1) (Nat.lt_of_succ_lt_succ q2)
def rCntB (K : PySem.W.Frag) : V → List V → L2.Hp → VK → Prop := fun x xs H Q => ∃ (p : Addr) (l : List Bool) (k : Bool), x = .ref p ∧ xs = [.bl k] ∧ SqL K H p (l.map V.bl) ∧ Q (.int (l.count k : Nat)) H
theorem mt_cntB : MtR X "list.count" (rCntB X.K) := by
  intro pins s σ H x xs v us Q I rx rxs h
  obtain ⟨p, l, k, rfl, rfl, hs, q⟩ := h
  cases rx
  obtain ⟨u, rfl, ru⟩ := rxs.one
  obtain rfl : u = Value.bool k := ru
  obtain ⟨its, rv, ⟨⟨cls, dd, data, sl⟩, n, ho, hc, hdn, hd⟩, hlen⟩ := I.list hs
  simp only at hc hd
  subst hc hd
  refine call_meets PySem.F.slot_list_count ⟨_, ho, rfl⟩ PySem.F.entry_list_count (PySem.F.args_list_count_2 _ _) (SeqAt.list_countAt p its.toArray n dd sl (.bool k) (sameB k)) ⟨ho, fun y hy => (bools_at rv).1 y (by simpa using hy), ?_⟩
  have ec : its.toArray.toList.countP (sameB k) = l.count k := (bools_at (A := X.A) (s := s) rv).2.1
  refine ⟨.int (l.count k : Nat), H, I.tok _, ⟨s.toks, ?_⟩, q⟩
  show Value.int ((its.toArray.toList.countP (sameB k) : Nat) : Int) s.toks = _
  rw [ec]
/-- the place of the first, ints or truths -/
def rIxO (K : PySem.W.Frag) : V → List V → L2.Hp → VK → Prop := fun x xs H Q => ∃ p : Addr, x = .ref p ∧ ((∃ (l : List Bool) (k : Bool), xs = [.bl k] ∧ SqL K H p (l.map V.bl) ∧ k ∈ l ∧ Q (.int (l.idxOf k : Nat)) H) ∨ (∃ (l : List Int) (k : Int), xs = [.int k] ∧ SqL K H p (l.map V.int) ∧ k ∈ l ∧ Q (.int (l.idxOf k : Nat)) H))
theorem mt_ixO : MtR X "list.index" (rIxO X.K) := by
  intro pins s σ H x xs v us Q I rx rxs h
  obtain ⟨p, rfl, ⟨l, k, rfl, hs, hk, q⟩ | ⟨l, k, rfl, hs, hk, q⟩⟩ := h
  · cases rx
    obtain ⟨u, rfl, ru⟩ := rxs.one
    obtain rfl : u = Value.bool k := ru
    obtain ⟨its, rv, pl, hlen⟩ := I.list hs
    rw [List.length_map] at hlen
    refine SeqAt.call_list_index (ks := l) (k := k) pl.isList ⟨(bools_at (A := X.A.in1) (s := s) (k := k) rv).2.2.1, fun j h1 h2 => ?_⟩ hlen hk ⟨.int (l.idxOf k : Nat), H, I.tok _, ⟨_, rfl⟩, q⟩
    rw [(bools_at (A := X.A.in1) (s := s) (k := k) rv).2.2.2 j h1 h2]
    have z := EqAt.bool_bool (A := X.A.in1) (s := s) l[j] k
    have e : (l[j] == k) = decide (l[j] = k) := by
      cases l[j] <;> cases k <;> rfl
    rw [← e]
    exact z
  · cases rx
    obtain ⟨u, rfl, ru⟩ := rxs.one
    obtain ⟨t, rfl⟩ := ru
    obtain ⟨its, rv, pl, hlen⟩ := I.list hs
    rw [List.length_map] at hlen
    exact SeqAt.list_index_ints pl.isList (ints_of_vals rv) hlen hk ⟨.int (l.idxOf k : Nat), H, I.tok _, ⟨_, rfl⟩, q⟩
theorem type_lcnt : typeOf (.builtin "list.count") = pure (.type "method_descriptor") := by show builtinType _ = _; rw [builtinType_eq_fast]; kernel_rfl
theorem type_lidx : typeOf (.builtin "list.index") = pure (.type "method_descriptor") := by show builtinType _ = _; rw [builtinType_eq_fast]; kernel_rfl
theorem type_lext : typeOf (.builtin "list.extend") = pure (.type "method_descriptor") := by show builtinType _ = _; rw [builtinType_eq_fast]; kernel_rfl
end
section
variable {X : Cx} {cl : Cl} {W : WX} {a e : Expr} {ea ee : E} {ae : A} {es : List Expr} {pos pos' apos npos lpos : Pos} {x : Str} {i : Nat}
theorem mt_cntA : MtR X "list.count" (fun x xs H Q => rCntB X.K x xs H Q ∨ rCntI X.K x xs H Q) := fun pins s σ H x xs v us Q I rx rxs h => h.elim (mt_cntB pins s σ H x xs v us Q I rx rxs) (mt_lcount pins s σ H x xs v us Q I rx rxs)
theorem snd_cnt (ho : PE X a (tE X.K cl W ea)) (he : PE X e (tE X.K cl W ee))
    (hbase : attributeBase a "count" X.env (eval a X.env) = eval a X.env := by rfl)
    (hfew : ((backTo pos (starEach [e] X.env)).all (fun x => !x.1) && (backToKw pos (keywordEach [] X.env)).all (fun x => x.1.isSome)
      && decide ([e].length + ([] : List Keyword).length + (if ([] : List Keyword).isEmpty then 0 else 1) < 30)) = true := by rfl)
    (hline : (apos.endLine == pos.line) = true := by rfl) (hs : starEach [e] X.env = (false, eval e X.env) :: starEach [] X.env := by rfl) (hplain : (backTo pos (starEach [] X.env)).any (·.1) = false := by rfl) :
    PE X (.Call (.Attribute a "count" apos) [e] [] pos) (tE X.K cl W (eCnt ea ee)) :=
  pe_imp (pe_bm PySem.F.plainAttrs_list PySem.F.slot_list_count type_lcnt mt_cntA ho (pa_cons he pa_nil hs) hbase hfew hline hs hplain) fun σV H Q ⟨m, σ, h, H0, L, C, w⟩ => tE.use L C w fun d h1 m1 H1 v e1 L1 C1 r1 w1 => by
    cases r1 <;> first | exact w1.elim | skip
    rename_i p o xs vs q r
    refine ⟨.inl ⟨rfl, vs, .inl (.inr ⟨o, q⟩)⟩, m1, σ, h1, H0, L1, C1, (WP.bnd w1).imp fun d2 h2 m2 H2 e2 C2 w2 v2 r2 => ?_⟩
    obtain ⟨n, en, w3⟩ := WP.opt w2
    have q2 := e2.frz _ _ _ q
    have r' := r.up e2
    cases r2 <;> first | (cases en; done) | skip
    · rename_i b
      unfold cntD at en
      cases z : blsD xs with
      | none => simp only [z] at en; cases en
      | some l =>
        simp only [z] at en
        cases en
        refine .inl ⟨p, l, b, rfl, rfl, .inl (.inr ⟨o, ?_⟩), WP.ok w3 C2 _ (.int _)⟩
        rw [← blsV r' z]
        exact q2
    · rename_i b
      unfold cntD at en
      cases z : intsD xs with
      | none => simp only [z] at en; cases en
      | some l =>
        simp only [z] at en
        cases en
        refine .inr ⟨p, l, b, rfl, rfl, .inl (.inr ⟨o, ?_⟩), WP.ok w3 C2 _ (.int _)⟩
        rw [← intsV r' z]
        exact q2
theorem snd_ixo (ho : PE X a (tE X.K cl W ea)) (he : PE X e (tE X.K cl W ee))
    (hbase : attributeBase a "index" X.env (eval a X.env) = eval a X.env := by rfl)
    (hfew : ((backTo pos (starEach [e] X.env)).all (fun x => !x.1) && (backToKw pos (keywordEach [] X.env)).all (fun x => x.1.isSome)
      && decide ([e].length + ([] : List Keyword).length + (if ([] : List Keyword).isEmpty then 0 else 1) < 30)) = true := by rfl)
    (hline : (apos.endLine == pos.line) = true := by rfl) (hs : starEach [e] X.env = (false, eval e X.env) :: starEach [] X.env := by rfl) (hplain : (backTo pos (starEach [] X.env)).any (·.1) = false := by rfl) :
    PE X (.Call (.Attribute a "index" apos) [e] [] pos) (tE X.K cl W (eIxO ea ee)) :=
  pe_imp (pe_bm PySem.F.plainAttrs_list PySem.F.slot_list_index type_lidx mt_ixO ho (pa_cons he pa_nil hs) hbase hfew hline hs hplain) fun σV H Q ⟨m, σ, h, H0, L, C, w⟩ => tE.use L C w fun d h1 m1 H1 v e1 L1 C1 r1 w1 => by
    cases r1 <;> first | exact w1.elim | skip
    rename_i p o xs vs q r
    refine ⟨.inl ⟨rfl, vs, .inl (.inr ⟨o, q⟩)⟩, m1, σ, h1, H0, L1, C1, (WP.bnd w1).imp fun d2 h2 m2 H2 e2 C2 w2 v2 r2 => ?_⟩
    obtain ⟨n, en, w3⟩ := WP.opt w2
    have q2 := e2.frz _ _ _ q
    have r' := r.up e2
    cases r2 <;> first | (cases en; done) | skip
    · rename_i b
      unfold idxD at en
      cases z : blsD xs with
      | none => simp only [z] at en; cases en
      | some l =>
        simp only [z] at en
        unfold whereB at en
        by_cases c : l.contains b = true
        · rw [if_pos c] at en
          cases en
          refine ⟨p, rfl, .inl ⟨l, b, rfl, .inl (.inr ⟨o, ?_⟩), by simpa using c, WP.ok w3 C2 _ (.int _)⟩⟩
          rw [← blsV r' z]
          exact q2
        · rw [if_neg c] at en; cases en
    · rename_i b
      unfold idxD at en
      cases z : intsD xs with
      | none => simp only [z] at en; cases en
      | some l =>
        simp only [z] at en
        unfold whereI at en
        by_cases c : l.contains b = true
        · rw [if_pos c] at en
          cases en
          refine ⟨p, rfl, .inr ⟨l, b, rfl, .inl (.inr ⟨o, ?_⟩), by simpa using c, WP.ok w3 C2 _ (.int _)⟩⟩
          rw [← intsV r' z]
          exact q2
        · rw [if_neg c] at en; cases en
/-- x.extend([..]) -/
theorem sns_oexA (hN : X.N[i]? = some x) (hv : Vis X.env.scope x) (ha : PA X es (tA X.K cl W ae)) (hd : (x == ("__debug__" : Str)) = false := by decide) (hcd : (x == ("__classdict__" : Str)) = false := by decide)
    (hbase : attributeBase (.Name x npos) "extend" X.env (eval (.Name x npos) X.env) = eval (.Name x npos) X.env := by rfl)
    (hfew : ((backTo pos' (starEach [.List es lpos] X.env)).all (fun x => !x.1) && (backToKw pos' (keywordEach [] X.env)).all (fun x => x.1.isSome)
      && decide ([(.List es lpos : Expr)].length + ([] : List Keyword).length + (if ([] : List Keyword).isEmpty then 0 else 1) < 30)) = true := by rfl)
    (hline : (apos.endLine == pos'.line) = true := by rfl) (hs : starEach [.List es lpos] X.env = (false, eval (.List es lpos) X.env) :: starEach [] X.env := by rfl) (hplain : (backTo pos' (starEach [] X.env)).any (·.1) = false := by rfl)
    (hsw : swapsWith (.Call (.Attribute (.Name x npos) "extend" apos) [.List es lpos] [] pos') none pos.line X.env = pure false := by rfl) :
    PS X (.Expr (.Call (.Attribute (.Name x npos) "extend" apos) [.List es lpos] [] pos') pos) (tS X.K cl W (sOExA i ae)) :=
  ps_imp (ps_expr (pe_bm PySem.F.plainAttrs_list PySem.F.slot_list_extend type_lext mt_extend (pe_var hN hv hd hcd) (pa_cons (pe_lst ha) pa_nil hs) hbase hfew hline hs hplain) hsw) fun De σV H ⟨m, σ, h, m0, H0, e0, L, C, w⟩ => by
    unfold sOExA at w
    cases hσ : σ[i]? with
    | none => simp only [hσ] at w; exact w.elim
    | some o =>
    cases o with
    | none => simp only [hσ] at w; exact w.elim
    | some d0 =>
    cases d0 <;> first | (simp only [hσ] at w; exact w.elim) | skip
    rename_i xs
    simp only [hσ] at w
    have w1 := WS.stm e0 L w
    obtain ⟨v0, hv0, a, vs0, rfl, hH, rs, n0, fr⟩ := L.loc i _ hσ
    refine ⟨.ref a, hv0, .inl ⟨rfl, vs0, .inl (.inl hH)⟩, m, σ, h, H0, L, C, w1.imp fun ys h1 m1 H1 e1 C1 w2 ws rw' => ?_⟩
    obtain ⟨f1, w2⟩ := w2
    by_cases c : xs.length + ys.length ≤ bigD
    · rw [if_pos c] at w2
      refine ⟨by rw [← rw'.length]; exact line1 (Nat.le_trans (Nat.le_add_left _ _) c), fun p n => ?_⟩
      have ex : Ext m1 m1 H1 (upd H1 p (.lst ws)) := Ext.lay n
      have L1 := (L.up e1).up ex
      have C1' := C1.lay (o := .lst ws) n
      obtain ⟨v1, hv1, a1, vs1, ea, hH1, rs1, _, fr1⟩ := L1.loc i _ hσ
      rw [hv0] at hv1
      cases hv1
      cases ea
      refine ⟨a, p, vs1, ws, rfl, rfl, hH1, upd_same, by rw [← rs1.length, ← rw'.length]; exact line1 c, ?_⟩
      exact own_step (h := h1) (d' := .ownL (xs ++ ys)) (f1.trans ex) L1 C1' hσ rfl hv0 hH1 trivial fr1 n0 ⟨a, vs1 ++ ws, rfl, upd_same, (rs1.append (rw'.up ex)).upI (Imm.wr hH1 trivial), n0, fr1⟩ (WS.up w2 ex.ex2)
    · rw [if_neg c] at w2
      exact w2.elim
end
end IP

/-! The error that is handled, as a value; a def that is handed it. -/
namespace IP
open PySem PySem.Spec PyProof.Rows L2
/-! ### no handled error within -/
mutual
def noX : D → Bool
  | .exn _ => false
  | .tup xs => noXs xs
  | .ctp xs => noXs xs
  | .lst xs => noXs xs
  | .scr xs => noXs xs
  | .dct _ rows => noXr rows
  | _ => true
def noXs : List D → Bool
  | [] => true
  | x :: xs => noX x && noXs xs
def noXr : List (D × D) → Bool
  | [] => true
  | p :: r => noX p.1 && noX p.2 && noXr r
end
theorem noX_kD (k : Key) : noX (kD k) = true := by
  cases k <;> rfl
theorem noXs_kD : ∀ k : List Key, noXs (k.map kD) = true
  | [] => rfl
  | a :: r => by
    show (noX (kD a) && noXs (r.map kD)) = true
    rw [noX_kD a, noXs_kD r]; rfl
section
variable {K : PySem.W.Frag} {cl : Cl} {m : Mp} {H : L2.Hp}
mutual
theorem RD.noX (o : cl.exOn = false) : ∀ {d : D} {v : V}, RD K cl H m d v → IP.noX d = true
  | _, _, .non => rfl
  | _, _, .bl _ => rfl
  | _, _, .int _ => rfl
  | _, _, .str _ => rfl
  | _, _, .tup _ r => RDs.noX o r
  | _, _, .ctp _ r => RDs.noX o r
  | _, _, .lst _ r => RDs.noX o r
  | _, _, .dK _ _ r => RKs.noX o r
  | _, _, .dT _ _ r => RTs.noX o r
  | _, _, .ref _ => rfl
  | _, _, .scr _ r _ => RDs.noX o r
  | _, _, .cls _ => rfl
  | _, _, .exn z => by rw [o] at z; cases z
theorem RDs.noX (o : cl.exOn = false) : ∀ {d : List D} {v : List V}, RDs K cl H m d v → IP.noXs d = true
  | _, _, .nil => rfl
  | _, _, .cons a r => by
    show (IP.noX _ && IP.noXs _) = true
    rw [RD.noX o a, RDs.noX o r]; rfl
theorem RKs.noX (o : cl.exOn = false) : ∀ {d : List (D × D)} {v : List (Key × V)}, RKs K cl H m d v → IP.noXr d = true
  | _, _, .nil => rfl
  | _, _, .cons a r => by
    show (IP.noX (kD _) && IP.noX _ && IP.noXr _) = true
    rw [noX_kD, RD.noX o a, RKs.noX o r]; rfl
theorem RTs.noX (o : cl.exOn = false) : ∀ {d : List (D × D)} {v : List (List Key × V)}, RTs K cl H m d v → IP.noXr d = true
  | _, _, .nil => rfl
  | _, _, .cons a r => by
    show (IP.noXs _ && IP.noX _ && IP.noXr _) = true
    rw [noXs_kD, RD.noX o a, RTs.noX o r]; rfl
end
end
/-- .. but for the handled error -/
structure SameCl (c1 c2 : Cl) : Prop where
  cv : c1.cv = c2.cv
  adr : c1.adr = c2.adr
  fld : c1.fld = c2.fld
  xf : c1.xf = c2.xf
  fnA : c1.fnA = c2.fnA
  tabs : c1.tabs = c2.tabs
  scr : c1.scr = c2.scr
theorem SameCl.symm {c1 c2 : Cl} (h : SameCl c1 c2) : SameCl c2 c1 := ⟨h.cv.symm, h.adr.symm, h.fld.symm, h.xf.symm, h.fnA.symm, h.tabs.symm, h.scr.symm⟩
section
variable {K : PySem.W.Frag} {c1 c2 : Cl} {m : Mp} {H : L2.Hp}
mutual
theorem RD.cl (e : SameCl c1 c2) : ∀ {d : D} {v : V}, IP.noX d = true → RD K c1 H m d v → RD K c2 H m d v
  | _, _, _, .non => .non
  | _, _, _, .bl b => .bl b
  | _, _, _, .int b => .int b
  | _, _, _, .str b => .str b
  | _, _, n, .tup a r => .tup a (RDs.cl e n r)
  | _, _, n, .ctp a r => .ctp a (RDs.cl e n r)
  | _, _, n, .lst a r => .lst a (RDs.cl e n r)
  | _, _, n, .dK a f r => .dK a f (RKs.cl e n r)
  | _, _, n, .dT a f r => .dT a f (RTs.cl e n r)
  | _, _, _, .ref a => .ref a
  | _, _, n, .scr a r s => .scr a (RDs.cl e n r) fun l q => s l (by rw [e.scr]; exact q)
  | _, _, _, .cls k => by rw [e.fnA]; exact .cls k
  | _, _, n, .exn z => by cases n
theorem RDs.cl (e : SameCl c1 c2) : ∀ {d : List D} {v : List V}, IP.noXs d = true → RDs K c1 H m d v → RDs K c2 H m d v
  | _, _, _, .nil => .nil
  | _, _, n, .cons a r => by
    have n : (IP.noX _ && IP.noXs _) = true := n
    rw [Bool.and_eq_true] at n
    exact .cons (RD.cl e n.1 a) (RDs.cl e n.2 r)
theorem RKs.cl (e : SameCl c1 c2) : ∀ {d : List (D × D)} {v : List (Key × V)}, IP.noXr d = true → RKs K c1 H m d v → RKs K c2 H m d v
  | _, _, _, .nil => .nil
  | _, _, n, .cons a r => by
    have n : (IP.noX (kD _) && IP.noX _ && IP.noXr _) = true := n
    rw [Bool.and_eq_true, Bool.and_eq_true] at n
    exact .cons (RD.cl e n.1.2 a) (RKs.cl e n.2 r)
theorem RTs.cl (e : SameCl c1 c2) : ∀ {d : List (D × D)} {v : List (List Key × V)}, IP.noXr d = true → RTs K c1 H m d v → RTs K c2 H m d v
  | _, _, _, .nil => .nil
  | _, _, n, .cons a r => by
    have n : (IP.noXs _ && IP.noX _ && IP.noXr _) = true := n
    rw [Bool.and_eq_true, Bool.and_eq_true] at n
    exact .cons (RD.cl e n.1.2 a) (RTs.cl e n.2 r)
end
/-- what stands at a place -/
def noXO : O → Bool
  | .lst xs => noXs xs
  | .dct _ _ rows => noXr rows
  | .ins _ fs => fs.all fun o => match o with
    | some d => noX d
    | none => true
  | .gone => true
theorem RO.noX (o : c1.exOn = false) {ob : O} {a : Addr} (hl : ∀ c fs fv, ob = .ins c fs → RF K c1 H m c fs fv → fs.length = (c1.fld c).length) (r : RO K c1 H m ob a) : noXO ob = true := by
  match ob, r with
  | .lst xs, r => obtain ⟨vs, _, r⟩ := r; exact r.noX o
  | .dct false false rows, r => obtain ⟨vs, _, r⟩ := r; exact r.noX o
  | .dct true false rows, r => obtain ⟨vs, _, r⟩ := r; exact r.noX o
  | .dct false true rows, r => obtain ⟨vs, od, _, r⟩ := r; exact r.noX o
  | .dct true true rows, r => obtain ⟨vs, od, _, r⟩ := r; exact r.noX o
  | .ins c fs, r =>
    obtain ⟨dx, fv, _, rf⟩ := r
    show (fs.all fun o => match o with
      | some d => IP.noX d
      | none => true) = true
    rw [List.all_eq_true]
    intro z hz
    cases z with
    | none => rfl
    | some d =>
      obtain ⟨i, hi, e⟩ := List.getElem_of_mem hz
      have hx : i < (c1.fld c).length := by rw [← rf.len]; exact hi
      obtain ⟨v, _, rd⟩ := rf.val i _ d (List.getElem?_eq_getElem hx) (by rw [List.getElem?_eq_getElem hi, e])
      exact rd.noX o
  | .gone, r => exact r.elim
theorem RO.cl (e : SameCl c1 c2) {ob : O} {a : Addr} (n : noXO ob = true) (r : RO K c1 H m ob a) : RO K c2 H m ob a := by
  match ob, r with
  | .lst xs, r => obtain ⟨vs, q, r⟩ := r; exact ⟨vs, q, r.cl e n⟩
  | .dct false false rows, r => obtain ⟨vs, q, r⟩ := r; exact ⟨vs, q, r.cl e n⟩
  | .dct true false rows, r => obtain ⟨vs, q, r⟩ := r; exact ⟨vs, q, r.cl e n⟩
  | .dct false true rows, r => obtain ⟨vs, od, q, r⟩ := r; exact ⟨vs, od, q, r.cl e n⟩
  | .dct true true rows, r => obtain ⟨vs, od, q, r⟩ := r; exact ⟨vs, od, q, r.cl e n⟩
  | .ins c fs, r =>
    obtain ⟨dx, fv, q, rf⟩ := r
    have n : (fs.all fun o => match o with
      | some d => IP.noX d
      | none => true) = true := n
    rw [List.all_eq_true] at n
    refine ⟨dx, fv, by rw [← e.adr]; exact q, ⟨by rw [← e.fld]; exact rf.len, rf.nd, fun x hx => by rw [← e.fld]; exact rf.sub x hx, fun i x d h1 h2 => ?_⟩⟩
    obtain ⟨v, h3, h4⟩ := rf.val i x d (by rw [e.fld]; exact h1) h2
    exact ⟨v, h3, h4.cl e (n _ (List.mem_of_getElem? h2))⟩
  | .gone, r => exact r.elim
theorem Hc.cl {h : Hp} (e : SameCl c1 c2) (n : ∀ k i o, h.get k i = some o → noXO o = true) (C : Hc K c1 m h H) : Hc K c2 m h H :=
  ⟨C.dom, C.inj, fun k i o a e1 e2 => (C.obj k i o a e1 e2).cl e (n k i o e1), C.oldE, by rw [← e.tabs]; exact C.tab⟩
theorem Hc.noX {h : Hp} (o : c1.exOn = false) (C : Hc K c1 m h H) : ∀ k i ob, h.get k i = some ob → noXO ob = true := fun k i ob e => by
  cases q : m k i with
  | none => exact absurd ((C.dom k i).mpr (by rw [e]; simp)) (by rw [q]; simp)
  | some a => exact (C.obj k i ob a e q).noX o (fun c fs fv _ rf => rf.len)
end
end IP

namespace IP
open PySem PySem.Spec PyProof.Rows L2
noncomputable section
/-- isinstance(e, C): bs tells it of each class -/
def fIsX (bs : List Bool) : D → Hp → R D
  | .exn c, h => opt (nth bs c) fun b => .ok (.bl b) h
  | _, _ => .no
end
/-- the error that is handled stands in the context -/
structure HeldX (X : Cx) (cl : Cl) : Prop where
  ex : ∃ (oe : Obj) (D : Addr), (cl.exA, oe) ∈ X.pn ∧ oe.cls = .ref D ∧ cl.cv cl.exC = .ref D ∧ (∃ vs, oe.data = .fields vs) ∧ (∀ dx, oe.dict = some dx → ∃ o, X.s_0.heap.get? dx = some o) ∧ ExcC X.K D
  no : X.ex = []
def rIsX (X : Cx) (cl : Cl) : List V → L2.Hp → VK → Prop := fun xs H Q => ∃ (c : V) (cv : Value) (b : Bool), xs = [.ref cl.exA, c] ∧ (∀ u, RelV c u → u = cv) ∧ (∀ D, cl.cv cl.exC = .ref D → PySem.W.kitOne X.K (.ref D) cv = some b) ∧ Q (.bl b) H
theorem call_isX {X : Cx} {cl : Cl} (hx : HeldX X cl) : CallR X (.builtin "isinstance") (rIsX X cl) := fun pins s σ H xs us Q I r h => by
  obtain ⟨c, cv, b, rfl, hcv, e, q⟩ := h
  obtain ⟨oe, D, hp, hcls, hD, ⟨vs, hdat⟩, hdic, C⟩ := hx.ex
  cases r with
  | cons rx rr =>
    cases rr with
    | cons rt rr =>
      cases rr
      cases rx
      have ec := hcv _ rt
      subst ec
      have hget := (I.pin (cl.exA, oe) (List.mem_append.mpr (.inl hp))).1
      have hcl : (PySem.W.clsIn X.K D).isSome = true := by
        obtain ⟨cd, h1, _⟩ := PySem.W.any_some C.hd
        rw [h1]; rfl
      have nc : PySem.W.notCls oe = true := by
        unfold PySem.W.notCls
        rw [hdat]
      obtain ⟨od, J⟩ : ∃ od, PySem.W.InstAt s.heap cl.exA oe D od := by
        cases hd : oe.dict with
        | none => exact ⟨none, hget, hcls, nc, by rw [hd]; trivial⟩
        | some dx =>
          obtain ⟨o, ho⟩ := hdic dx hd
          obtain ⟨o', ho'⟩ := I.base.there dx o ho (by rw [hx.no]; simp)
          exact ⟨some o', hget, hcls, nc, by rw [hd]; exact ho'⟩
      exact PySem.W.kia_one (PySem.W.kitx_exc hcl C.hg C.hk C.hs C.ha C.hn C.ht C.hm) I.kIn J (e D hD) (fun z => nomatch z) fun tk => ⟨.bl b, H, I.kept (t' := tk) fun _ _ z => z, rfl, q⟩
section
variable {X : Cx} {cl : Cl} {W : WX} {e : Expr} {ee : E} {pos p p2 : Pos} {y : Str} {bs : List Bool}
theorem snd_isXV {c : V} {cv : Value} (hx : HeldX X cl) (hg : Gl X "isinstance") (hm : X.mg "isinstance" = none) (hy : PE X (.Name y p2) (tC c)) (hc : ∀ u, RelV c u → u = cv) (tab : ∀ (k : Nat) (b : Bool), bs[k]? = some b → ∀ D, cl.cv k = .ref D → PySem.W.kitOne X.K (.ref D) cv = some b)
    (ha : PE X e (tE X.K cl W ee)) (he : starEach [e, .Name y p2] X.env = (false, eval e X.env) :: starEach [.Name y p2] X.env := by rfl) : PE X (.Call (.Name "isinstance" p) [e, .Name y p2] [] pos) (tE X.K cl W (one (fIsX bs) ee)) :=
  pe_imp (pe_callB (call_isX hx) hg hm boot_isi (pa_cons ha (pa_cons hy pa_nil) he) (by decide) (by decide) he rfl) fun σV H Q ⟨m, σ, h, H0, L, C, w⟩ => tE.use L C w fun d h1 m1 H1 v e1 L1 C1 r1 w1 => by
    cases r1 <;> first | exact w1.elim | skip
    rename_i on
    obtain ⟨b, eb, w2⟩ := WP.opt w1
    rw [nth_eq] at eb
    exact ⟨c, cv, b, rfl, hc, fun D hD => tab _ b eb D hD, WP.ok w2 C1 _ (.bl b)⟩
/-- .. of a class of the text -/
theorem snd_isX {a : Addr} (hx : HeldX X cl) (hg : Gl X "isinstance") (hm : X.mg "isinstance" = none) (hgy : Gl X y) (hmy : X.mg y = some (.ref a)) (tab : ∀ (k : Nat) (b : Bool), bs[k]? = some b → ∀ D, cl.cv k = .ref D → PySem.W.kitOne X.K (.ref D) (.ref a) = some b)
    (ha : PE X e (tE X.K cl W ee)) (hd : (y == ("__debug__" : Str)) = false := by decide) (he : starEach [e, .Name y p2] X.env = (false, eval e X.env) :: starEach [.Name y p2] X.env := by rfl) : PE X (.Call (.Name "isinstance" p) [e, .Name y p2] [] pos) (tE X.K cl W (one (fIsX bs) ee)) :=
  snd_isXV hx hg hm (pe_glob (v := .ref a) hgy hmy rfl hd) (fun _ r => r) tab ha he
/-- .. of a built-in class -/
theorem snd_isXB {t : String} (hx : HeldX X cl) (hg : Gl X "isinstance") (hm : X.mg "isinstance" = none) (hgy : Gl X y) (hmy : X.mg y = none) (hy : bootBuiltins y = some (.type t)) (tab : ∀ (k : Nat) (b : Bool), bs[k]? = some b → ∀ D, cl.cv k = .ref D → PySem.W.kitOne X.K (.ref D) (.type t) = some b)
    (ha : PE X e (tE X.K cl W ee)) (hn : y ≠ "__name__" := by decide) (hd : (y == ("__debug__" : Str)) = false := by decide) (he : starEach [e, .Name y p2] X.env = (false, eval e X.env) :: starEach [.Name y p2] X.env := by rfl) : PE X (.Call (.Name "isinstance" p) [e, .Name y p2] [] pos) (tE X.K cl W (one (fIsX bs) ee)) :=
  snd_isXV hx hg hm (pe_bltn (v := .ty t) hgy hmy hy rfl hn hd) (fun _ r => r) tab ha he
end
/-! ### a def that is handed the error -/
theorem _root_.L2H.RoomH.un65 {k : Nat} {A : Around} (r : L2H.RoomH k A) : A.units + 65 < cLine := by have := r.un; omega
theorem _root_.L2H.RoomH.un1 {k : Nat} {A : Around} (r : L2H.RoomH k A) : A.units + 1 < cLine := by have := r.un; omega
theorem _root_.L2H.RoomH.units {k : Nat} {A : Around} (r : L2H.RoomH k A) : A.units + 64 < cLine := by have := r.un; omega
section
variable {P : Program} {w : World} {K : PySem.W.Frag} {mg : Str → Option Value} {base : Heap} {cl : Cl}
/-- the error stands so -/
structure ErrAt (K : PySem.W.Frag) (cl : Cl) (c : Nat) (outer : List Env) (H : L2.Hp) (s : Shared) (p : Addr × Obj) : Prop where
  pin : L2H.PinOk outer H s p
  cls : ∃ D, p.2.cls = .ref D ∧ cl.cv c = .ref D ∧ ExcC K D
  dat : ∃ vs, p.2.data = .fields vs
  dic : ∀ dx, p.2.dict = some dx → ∃ o, s.heap.get? dx = some o
/-- .. of one parameter, the error: what it gives of an error of class c -/
theorem run_err {x qual : Str} {params : Arguments} {body : List Stmt} {scope : Scope} {f : Addr} {fd : FuncData} {N : List Str} {pa : Str} {k ns c : Nat} {b : S} {r : D} (F : FunD K x qual params body scope [] [] f fd) (Sc : FnScope N [pa] scope) (hn : N.length = ns)
    (hbody : ∀ (cdv : Value) (A : Around) (outer : List Env) (s : Shared) (H : L2.Hp) (E : XK) (p : Addr × Obj) (cl' : Cl), SameCl cl cl' → cl'.exOn = true → L2H.RoomH k (A.deeper (envOfC qual scope s.heap.objs.size f cdv)) → HeldX (L2H.cxH (L2.CX P w) P w K mg base N qual scope f cdv A outer s H E p) cl' →
      PSs (L2H.cxH (L2.CX P w) P w K mg base N qual scope f cdv A outer s H E p) body (tS K cl' (WE' E) b))
    (hb : Binds K fd [pa] []) (hr : ∀ h, b (entry ns [.exn c]) h = .ok (.ret r) h) (n : noX r = true) (eo : cl.exOn = false)
    {A : Around} {outer : List Env} {s : Shared} {H : L2.Hp} {p : Addr × Obj} {Q : VK} {E : XK} {m : Mp} {h : Hp} (hA : L2H.RoomH (k + 1) A) (he : ErrAt K cl c outer H s p) (e0 : Env0 P w K mg base A outer s H) (C : Hc K cl m h H)
    (q : ∀ m2 H2 v, Ext m m2 H H2 → Hc K cl m2 h H2 → RD K cl H2 m2 r v → Q v H2) : codeAny (model P w) A (.call (.ref f) ⟨[.ref p.1], []⟩) (CR (L2.CX P w) outer P w H s Q E) s := by
  obtain ⟨oc, od, dV, kV, doc, pm, an, cdv, ct, osl, rfl, lk, hcd, _, _⟩ := F.ex
  obtain ⟨D, hc1, hc2, hc3⟩ := he.cls
  have KX : K.In s.heap := e0.mod.kin.keeps fun b o e => (e0.bs b o e).1
  have lim : s.heap.NoLimit := e0.mod.nolimit.keeps fun b o e => (e0.bs b o e).1
  have hkind : ∀ y ∈ [pa].zip [(.ref p.1 : Value)], scope.names.lookup y.1 = some .local ∨ (scope.names.lookup y.1 = some .cell ∧ ((cellsFrom (s.heap.objs.size + 1) scope.names []).lookup y.1).isSome = true) := fun y hy =>
    (Sc.par y.1 (List.of_mem_zip (a := y.1) (b := y.2) hy).1).imp id fun q => ⟨q, PySem.W.cellsFrom_some _ _ _ (.inl q)⟩
  have bd := hb s [.ref p.1] KX rfl
  rw [List.append_nil] at bd
  refine codeAny_call_function hA.depth (KX _ _ lk) rfl Sc.co Sc.gen rfl (PySem.W.codeRec_of KX hcd) (bd _ _ _ _ ?_)
  refine wpAny_newFunctionEnv_cells Sc.kind hkind fun env ee s1 x => ?_
  subst ee
  refine ⟨lim.keeps x.toInCall.keep, codeAny_func ?_⟩
  have I := L2H.inv_startH (CX := L2.CX P w) (qual := qual) (f := f) (cd := cdv) (E := E) Sc he.pin e0 (vs := [.ref p.1]) rfl (.cons rfl .nil) x
  have same : SameCl cl { cl with exA := p.1, exC := c, exOn := true } := ⟨rfl, rfl, rfl, rfl, rfl, rfl, rfl⟩
  have held : HeldX (L2H.cxH (L2.CX P w) P w K mg base N qual scope f cdv A outer s H E p) { cl with exA := p.1, exC := c, exOn := true } :=
    ⟨⟨p.2, D, List.mem_singleton.mpr rfl, hc1, hc2, he.dat, he.dic, hc3⟩, rfl⟩
  have ht := hbody cdv A outer s H E p _ same rfl (hA.deeper _) held
  have nX := C.noX eo
  have C' : Hc K { cl with exA := p.1, exC := c, exOn := true } m h H := C.cl same nX
  have start : tS K { cl with exA := p.1, exC := c, exOn := true } (WE' E) b { nx := fun _ H' => Q .non H', rt := Q } (L2.start N [.ref p.1]) H := by
    refine ⟨m, entry ns [.exn c], h, m, H, Ext.refl, RDs.entry (.cons (.exn rfl) .nil) ns N hn, C', ?_⟩
    rw [hr h]
    exact fun m' H' v e _ c2 rv => q m' H' v e (c2.cl same.symm nX) (rv.cl same.symm n)
  refine wpAny_mono (ht.run [] s1 (L2.start N [.ref p.1]) H _ I start) (fun fl s' hs => ?_) fun e s' hs => hs
  have fin : ∀ {σ' : L2.St} {H' : L2.Hp} {v : V} {u : Value}, Inv (L2H.cxH (L2.CX P w) P w K mg base N qual scope f cdv A outer s H E p) [] σ' H' s' → RelV v u → Q v H' → CE outer P w H s Q u s' :=
    fun {σ' H' v u} J rv q => ⟨v, H', J.os, J.bare, J.base, J.hok, rv, q⟩
  cases fl with
  | next => exact let ⟨σ', H', J, q⟩ := hs; fin (v := V.non) (u := Value.none) J rfl q
  | ret u => exact let ⟨v, σ', H', J, rv, q⟩ := hs; fin J rv q
  | cont => exact let ⟨_, _, _, q⟩ := hs; q.elim
  | brk => exact let ⟨_, _, _, q⟩ := hs; q.elim
end
end IP

/-! try: return deed() / except X as e: return (word, kind(e)); a lambda handed to it. -/
namespace IP
open PySem PySem.Spec PyProof.Rows L2
noncomputable section
/-- what is told of a deed: what it gives, or that it was refused, and how -/
def eTold (nm : Nat → Option Str) (word : Str) (e : E) : E := fun σ h => match e σ h with
  | .ok d h => .ok d h
  | .exc c _ h => opt (nm c) fun s => .ok (.tup [.str word, .str s]) h
  | .no => .no
end
/-- the def that tells an error's kind -/
structure KindOk (P : Program) (w : World) (K : PySem.W.Frag) (mg : Str → Option Value) (base : Heap) (cl : Cl) (CE : Addr) (k : Nat) (f : Addr) (nm : Nat → Option Str) : Prop where
  run : ∀ (c : Nat) (s : Str), nm c = some s → ∀ (A : Around) (outer : List Env) (st : Shared) (H : L2.Hp) (p : Addr × Obj) (Q : VK) (E : XK) (m : Mp) (h : Hp), L2H.RoomH k A → ErrAt K cl c outer H st p → Env0 P w K mg base A outer st H → Hc K cl m h H →
    (∀ m2 H2 v, Ext m m2 H H2 → Hc K cl m2 h H2 → RD K cl H2 m2 (.str s) v → Q v H2) → codeAny (model P w) A (.call (.ref f) ⟨[.ref p.1], []⟩) (CR (L2.CX P w) outer P w H st Q E) st
  cls : ∀ (c : Nat) (s : Str), nm c = some s → ∃ D, cl.cv c = .ref D ∧ ExcC K D ∧ PySem.W.exmOne K (.ref D) (.ref CE) = some true
section
variable {X : Cx} {cl : Cl} {W : WX}
/-- what an error comes to -/
def Said (K : PySem.W.Frag) (cl : Cl) (nm : Nat → Option Str) (word : Str) (Q : VK) (cls : Value) (d : Option Addr) (H : L2.Hp) : Prop := ∃ (c : Nat) (s : Str) (m : Mp) (h : Hp), nm c = some s ∧ cls = cl.cv c ∧ Hc K cl m h H ∧ (∀ dx, d = some dx → ∃ fs, H dx = some (.xd fs)) ∧
  ∀ m2 H2, Ext m m2 H H2 → Hc K cl m2 h H2 → ∀ p, H2 p = none → Q (.ref p) (upd H2 p (.tup [.str word, .str s]))
def TSaid (K : PySem.W.Frag) (cl : Cl) (nm : Nat → Option Str) (word : Str) : (XK → L2.Hp → VK → Prop) → L2.Hp → VK → Prop := fun tl H Q => tl (Said K cl nm word Q) H Q
/-- kind(e), in the suite -/
theorem pe_kind {Y : Cx} {a : Addr} {oe : Obj} {pn : List (Addr × Obj)} {cls : Value} {d : Option Addr} {kn n : Str} {f CE : Addr} {i k : Nat} {nm : Nat → Option Str} {q p7 pos : Pos} (Ko : KindOk Y.prog Y.w Y.K Y.mg Y.base cl CE k f nm) (hr : L2H.RoomH k Y.A) (hg : Gl Y kn) (hm : Y.mg kn = some (.ref f)) (hk : PySem.W.keepIn Y.K (.ref f) = true)
    (hN : Y.N[i]? = some n) (hv : Vis Y.env.scope n) (hz : Zc cls d oe) (hf : ∃ vs, oe.data = .fields vs) (hdb : (kn == ("__debug__" : Str)) = false := by decide) (hd : (n == ("__debug__" : Str)) = false := by decide) (hcd : (n == ("__classdict__" : Str)) = false := by decide)
    (he : starEach [(.Name n p7 : Expr)] (Y.suite a ((a, oe) :: pn)).env = (false, eval (.Name n p7) (Y.suite a ((a, oe) :: pn)).env) :: starEach [] (Y.suite a ((a, oe) :: pn)).env := by rfl) :
    PE (Y.suite a ((a, oe) :: pn)) (.Call (.Name kn q) [.Name n p7] [] pos) (fun σ H Q => (∃ σ', σ = List.set σ' i (some (.ref a))) ∧ ∃ (c : Nat) (s : Str) (m : Mp) (h : Hp), nm c = some s ∧ cls = cl.cv c ∧ Hc Y.K cl m h H ∧ (∀ dx, d = some dx → ∃ fs, H dx = some (.xd fs)) ∧
      ∀ m2 H2 v, Ext m m2 H H2 → Hc Y.K cl m2 h H2 → RD Y.K cl H2 m2 (.str s) v → Q v H2) := by
  refine ⟨fun pins st σ H Q I h => ?_⟩
  obtain ⟨⟨σ', rfl⟩, c, s, m, h, e1, e2, C, dd, q⟩ := h
  have at_ : (List.set σ' i (some (V.ref a)))[i]? = some (some (.ref a)) := by
    have hl := I.len
    rw [List.length_set] at hl
    have hi : i < σ'.length := by rw [hl]; exact (List.getElem?_eq_some_iff.mp hN).1
    rw [List.getElem?_set_self hi]
  refine wpAny_Call_Name_kw (ld_glob I hg hm ?_ hdb)
  refine PySem.W.callWith_K (h₀ := Y.base) I.ok.mod.kin hk (thn ((pa_cons (pe_var (X := Y.suite a ((a, oe) :: pn)) (pos := p7) hN hv hd hcd) pa_nil).run pos pins st _ H (fun vs H1 => vs = [.ref a] ∧ H1 = H) I ⟨.ref a, at_, rfl, rfl⟩) fun us s1 ⟨vs, H1, I1, r, ev, eH⟩ => ⟨I1.kIn, ?_⟩) he (by rfl)
  subst ev
  subst eH
  obtain ⟨u, rfl, ru⟩ := r.one
  obtain rfl : u = Value.ref a := ru
  obtain ⟨D, c1, c2, c3⟩ := Ko.cls c s e1
  have P1 := I1.pin (a, oe) (List.mem_append_left _ List.mem_cons_self)
  have err : ErrAt Y.K cl c Y.stack H1 s1 (a, oe) := by
    refine ⟨⟨P1.1, P1.2.1, fun hm => (List.mem_cons.mp (I1.stkSub a hm)).elim P1.2.2.1 P1.2.2.2.1, P1.2.2.2.2⟩, ⟨D, ?_, c1, c2⟩, hf, fun dx e => ?_⟩
    · rw [← c1, ← e2]
      exact hz.1
    · have e' : oe.dict = some dx := e
      obtain ⟨fs, z⟩ := dd dx (by rw [← hz.2]; exact e')
      obtain ⟨o, ho⟩ := objOk_get (I1.hok dx _ z)
      exact ⟨o, ho⟩
  refine wpAny_call (codeAny_mono (Ko.run c s e1 _ Y.stack s1 H1 (a, oe) Q (fun _ _ _ => False) m h ⟨hr.dp, hr.un⟩ err I1.env0 C q) fun r s' hq => ?_)
  cases r with
  | error e =>
    obtain ⟨_, _, _, _, _, _, _, _, _, _, _, _, z⟩ := hq
    exact z.elim
  | ok fl =>
    cases fl with
    | ret u => exact I1.after hq
    | next => exact False.elim hq
    | brk => exact False.elim hq
    | cont => exact False.elim hq
/-- what tells so -/
theorem gives_told {Ng : List Str} {x a e n kn q word : Str} {sg : Scope} {g CE f0 : Addr} {cdg : Value} {j k : Nat} {k2} {nm : Nat → Option Str} {p1 p2 p3 p4 p5 p6 p7 p8 p9 p10 p11 p12 : Pos} (hr : Room (k + 1) X.A)
    (hge : sg.names.lookup e = some .globalImplicit) (hme : X.mg e = some (.ref CE)) (hde : (e == ("__debug__" : Str)) = false) (h0 : ∀ f : Addr, (L2.start Ng [V.ref f])[0]? = some (some (V.ref f)))
    (hNd : Ng.Nodup) (hn : Ng[1]? = some n) (hln : sg.names.lookup n = some .local) (Ko : KindOk X.prog X.w X.K X.mg X.base cl CE k f0 nm) (hgk : sg.names.lookup kn = some .globalImplicit) (hmk : X.mg kn = some (.ref f0)) (hkk : PySem.W.keepIn X.K (.ref f0) = true)
    (hdk : (kn == ("__debug__" : Str)) = false) (hdn : (n == ("__debug__" : Str)) = false) (hcn : (n == ("__classdict__" : Str)) = false) :
    LamX.GivesTo X Ng x sg g cdg [.Try [.Return (some (.Call (.Name a p1) [] [] p2)) p3] [.ExceptHandler (some (.Name e p4)) (some n) [.Return (some (.Tuple [.Constant (.str word) j p5, .Call (.Name kn p6) [.Name n p7] [] p8] k2 p9)) p10] p11] [] [] p12] a q (TSaid X.K cl nm word) := by
  intro f c' s H Q tl act hc h
  have hgl : Gl (cxOf C8.CX0 X.prog X.w X.K X.mg X.base Ng x sg g cdg X.A X.stack s H C8.E0).nox e := hge
  have room : ∀ ha, L2H.RoomH k ((cxOf C8.CX0 X.prog X.w X.K X.mg X.base Ng x sg g cdg X.A X.stack s H C8.E0).nox.A.mark ha) := fun ha => ⟨(hr.deeper (envOfC x sg s.heap.objs.size g cdg)).dp, (hr.deeper (envOfC x sg s.heap.objs.size g cdg)).un⟩
  refine ⟨_, pss_one (ps_try_as (X := (cxOf C8.CX0 X.prog X.w X.K X.mg X.base Ng x sg g cdg X.A X.stack s H C8.E0).nox) (c := .ref CE) (i := 1)
      (tb := fun W D σ H => ∃ Ech : XK, (∀ cls d σ' H', Ech cls d H' → W cls d σ' H') ∧ σ[0]? = some (some (.ref f)) ∧ H c' = some (LamX.CodeO c' q) ∧ tl Ech H D.rt)
      (ts := fun a cls d D σ H => (∃ σ', σ = List.set σ' 1 (some (.ref a))) ∧ Said X.K cl nm word D.rt cls d H)
      rfl rfl hNd hn hln ⟨hgl, hde, .inl hme⟩ LamX.takes0 (fun W pn xe tk _ => ?_) (fun a oe cls d pn hz hf => ?_)), ?_⟩
  · refine ⟨fun pins s' σ H' D I h' => ?_⟩
    obtain ⟨Ech, hW, h1, h2, h3⟩ := h'
    exact (pss_one (ps_ret (pos := p3) (act W pn xe Ech p1 p2 tk hW))).run pins s' σ H' D I ⟨h1, h2, h3⟩
  · have Ko' : KindOk (cxOf C8.CX0 X.prog X.w X.K X.mg X.base Ng x sg g cdg X.A X.stack s H C8.E0).nox.prog X.w X.K X.mg X.base cl CE k f0 nm := Ko
    refine pss_one (ps_imp (ps_ret (pe_tup (pa_cons pe_str (pa_cons (pe_kind (Y := (cxOf C8.CX0 X.prog X.w X.K X.mg X.base Ng x sg g cdg X.A X.stack s H C8.E0).nox) (i := 1) Ko' ?_ hgk hmk hkk hn (.inl hln) hz hf hdk hdn hcn) pa_nil)))) fun D σ H1 h1 => ?_)
    · exact ⟨(room none).dp, (room none).un⟩
    · obtain ⟨hs, c, sx, m, h2, e1, e2, C, dd, q⟩ := h1
      refine ⟨hs, c, sx, m, h2, e1, e2, C, dd, fun m2 H2 v ex C2 rv => ?_⟩
      cases rv
      exact ⟨line1 (n := 2) (by decide), fun p np => q m2 H2 ex C2 p np⟩
  · refine ⟨Said X.K cl nm word Q, fun cls d σ' H' hs => ?_, h0 f, hc, h⟩
    obtain ⟨c, sx, m, h2, e1, e2, r⟩ := id hs
    obtain ⟨D, d1, d2, d3⟩ := Ko.cls c sx e1
    exact ⟨true, by rw [e2, d1]; exact d3, fun _ a _ => ⟨⟨σ', rfl⟩, hs⟩, fun z => by cases z⟩
/-- told(lambda: e) -/
theorem snd_told {x a qn : Str} {g c P : Addr} {nm : Nat → Option Str} {word : Str} {k : Nat} {pg : Arguments} {bg : List Stmt} {sg : Scope} {Ng : List Str} {params : Arguments} {body : Expr} {scope : Scope} {eb : E} {p lpos pos : Pos} {fd : FuncData} (F : FunD X.K x x pg bg sg [] [] g fd) (hb : Binds X.K fd [a] []) (Sg : FnScope Ng [a] sg) (hNg : Ng[0]? = some a) (hva : Vis sg a)
    (hG : ∀ q cdg, LamX.GivesTo X Ng x sg g cdg bg a q (TSaid X.K cl nm word)) (TB : LamX.TabB X.base X.mg c P) (hcode : X.env.code = .ref c) (hq : X.env.qual ++ "<lambda>" = qn) (hmT : (P, qn) ∈ cl.tabs) (hu : ∀ z ∈ cl.tabs, z.1 = P → z.2 = qn) (hr : Room (k + 2) X.A) (L : LamX.LamS X.env.scope scope) (hdef : defaultsOf params X.env = ([], []))
    (hbind : ∀ (q : Str) (cl : List (Str × Addr)) (pm cv ctv : Value), bindArgs (PySem.W.kla_fn "<lambda>" q params body scope cl pm cv ctv) ⟨[], []⟩ = pure [])
    (hbody : ∀ (A : Around) (outer : List Env) (s : Shared) (H : L2.Hp) (E : XK) (f c' : Addr), Room k (A.deeper (LamX.lamEnv X scope s.heap.objs.size f c')) → Takes (LamX.lamCx X A outer s H E scope f c') (WE' E) → PE (LamX.lamCx X A outer s H E scope f c') body (tE X.K cl (WE' E) eb))
    (hg : Gl X x) (hm : X.mg x = some (.ref g)) (hdb : (x == ("__debug__" : Str)) = false := by decide) (hd : (a == ("__debug__" : Str)) = false := by decide) (hcd : (a == ("__classdict__" : Str)) = false := by decide) :
    PE X (.Call (.Name x p) [.Lambda params body scope lpos] [] pos) (tE X.K cl W (eTold nm word eb)) := by
  subst hq
  obtain ⟨oc, od, dV, kV, doc, pm, an, cdv, ct, osl, rfl, lk, hcg, _, _⟩ := F.ex
  refine pe_imp (LamX.pe_lamcall (T := cl.tabs) (TT := TSaid X.K cl nm word) (t := fun E => tE X.K cl (WE' E) eb) hg hm F.kp lk hcg hb Sg hNg hva (hG _ _) TB hcode hmT hu hr L hdef hbind (fun A outer s H E f c' hr' => hbody A outer s H E f c' hr' (takes_of rfl rfl rfl rfl)) hdb hd hcd) fun σV H Q ⟨m, σ, h, H0, Lx, C, w⟩ => ?_
  refine ⟨C.tab, fun H1 eN T1 => ?_⟩
  have keep : ∀ a o, NTb o → H a = some o → H1 a = some o := fun a o n e => eN a o e n
  have ex : Ext m m H H1 := ⟨fun _ _ _ z => z, fun _ _ _ z => .inl z, fun a xs e => keep a _ (fun ps z => by cases z) e, fun a o u e => keep a _ (fun ps z => by cases z) e, fun a o _ n e => keep a o n e, fun a e => by
    obtain ⟨u, e1, e2⟩ := not_emp_iff e
    exact not_emp (keep a u e2 e1) e2⟩
  have C1 : Hc X.K cl m h H1 := ⟨C.dom, C.inj, fun k i ob a e1 e2 => (C.obj k i ob a e1 e2).stay ex.imm fun u q => by
    refine keep a u (fun ps z => ?_) q
    exact C.oldE k i a e2 (fun v e3 => ⟨ps, by rw [q] at e3; cases e3; exact z⟩), fun k i a e => ex.old a (C.oldE k i a e), T1⟩
  show tE X.K cl (WE' (Said X.K cl nm word Q)) eb σV H1 Q
  refine ⟨m, σ, h, H0, Lx.up ex, C1, ?_⟩
  have w1 : WP X.K cl (wx X.K cl W σV) m H (match eb σ h with
    | .ok d h => .ok d h
    | .exc c _ h => opt (nm c) fun s => .ok (.tup [.str word, .str s]) h
    | .no => .no) (Rt X.K cl Q) := w
  cases eq : eb σ h with
  | ok d h' =>
    rw [eq] at w1
    exact WP.up (show WP X.K cl (wx X.K cl (WE' (Said X.K cl nm word Q)) σV) m H (R.ok d h') (Rt X.K cl Q) from w1) ex
  | no => rw [eq] at w1; exact w1.elim
  | exc c pl h' =>
    rw [eq] at w1
    obtain ⟨s, es, w2⟩ := WP.opt w1
    intro m' H' e' C'
    have fin : ∀ m2 H2, Ext m' m2 H' H2 → Hc X.K cl m2 h' H2 → ∀ p, H2 p = none → Q (.ref p) (upd H2 p (.tup [.str word, .str s])) := fun m2 H2 e2 C2 p np => by
      have e3 : Ext m2 m2 H2 (upd H2 p (.tup [.str word, .str s])) := Ext.lay np
      exact w2 m2 _ (((ex.trans e').trans e2).trans e3) (C2.lay np) _ (.tup upd_same (.cons (.str word) (.cons (.str s) .nil)))
    cases pl with
    | none => exact ⟨c, s, m', h', es, rfl, C', (fun dx z => by cases z), fin⟩
    | some d => exact fun dx v hx rv => ⟨c, s, m', h', es, rfl, C', (fun dx' z => by cases z; exact ⟨_, hx⟩), fin⟩
end
/-! ### the law's end, with tables -/
section
variable {P : Program} {w : World} {K : PySem.W.Frag} {mg : Str → Option Value} {base : Heap} {cl : Cl}
theorem pss_lockO {X : Cx} {sts : List Stmt} {t : TS} (p : PSs X sts t) : PSs X sts (fun D σ H => t D σ H ∨ ∃ a u, H a = some u ∧ Mut (some u) ∧ ∀ o, t D σ (upd H a (.frz o u))) :=
  ⟨fun pins s σ H D I h => h.elim (fun h => p.run pins s σ H D I h) fun h => (pss_lock p).run pins s σ H D I h⟩
/-- what the law's def promises: the script may have to be made firm first -/
def spL (K : PySem.W.Frag) (cl : Cl) (f : Fn) : Sp := fun vs H Q E => vs.length = 1 ∧ (spI K cl 1 f vs H Q E ∨ ∃ a u, H a = some u ∧ Mut (some u) ∧ ∀ o, spI K cl 1 f vs (upd H a (.frz o u)) Q E)
theorem fn_L {x qual : Str} {params : Arguments} {body : List Stmt} {scope : Scope} {dvs : List V} {kws : List (Str × V)} {f : Addr} {fd : FuncData} {N ps : List Str} {k ns : Nat} {b : S} {g : Fn} (F : FunD K x qual params body scope dvs kws f fd) (Sc : FnScope N ps scope) (hp : ps.length = 1) (hn : N.length = ns) (hg : g = mkFn 1 ns b)
    (hbody : ∀ (cdv : Value) (A : Around) (outer : List Env) (s : Shared) (H : L2.Hp) (E : XK), PySem.W.codeIn K cdv qual = true → fd.code = cdv → Room k (A.deeper (envOfC qual scope s.heap.objs.size f cdv)) → Takes (cxOf (L2.CX P w) P w K mg base N qual scope f cdv A outer s H E) (WE' E) →
      PSs (cxOf (L2.CX P w) P w K mg base N qual scope f cdv A outer s H E) body (tS K cl (WE' E) b)) :
    FnOk P w K mg base (L2.CX P w) (k + 1) f fd ps (spL K cl g) := by
  subst hg
  obtain ⟨oc, od, dV, kV, doc, pm, an, cdv, ct, osl, rfl, lk, hcd, _, _⟩ := F.ex
  refine fn_of lk hcd Sc (fun vs H Q E ⟨l, _⟩ => by rw [l, hp]) fun A outer s H vs Q E hr ⟨l, z⟩ => ⟨_, pss_lockO (hbody cdv A outer s H E hcd rfl hr (takes_of rfl rfl rfl rfl)), ?_⟩
  have one : ∀ H', spI K cl 1 (mkFn 1 ns b) vs H' Q E → tS K cl (WE' E) b { nx := fun _ H' => Q .non H', rt := Q } (L2.start N vs) H' := fun H' ⟨m, h, ds, C, r, l, z⟩ => by
    refine ⟨m, entry ns ds, h, m, H', Ext.refl, r.entry ns N hn, C, ?_⟩
    obtain ⟨_, z⟩ := WP.grd z
    cases q : b (entry ns ds) h with
    | ok fl h2 =>
      rw [q] at z
      cases fl with
      | nxt σ => exact fun m' H' σV e _ c _ => z m' H' e c _ .non
      | ret d => exact fun m' H' v e _ c rv => z m' H' e c v rv
      | exc c p σ => exact fun m' H' σV e _ cc _ => z m' H' e cc
      | brk σ => exact z.elim
      | cnt σ => exact z.elim
    | exc c p h2 => rw [q] at z; exact z.elim
    | no => rw [q] at z; exact z.elim
  exact z.imp (one H) fun ⟨a, u, h1, h2, h3⟩ => ⟨a, u, h1, h2, fun o => one _ (h3 o)⟩
/-- .. any def, its code object known -/
theorem fn_IC {x qual : Str} {params : Arguments} {body : List Stmt} {scope : Scope} {dvs : List V} {kws : List (Str × V)} {f : Addr} {fd : FuncData} {N ps : List Str} {k np ns : Nat} {b : S} {g : Fn} (F : FunD K x qual params body scope dvs kws f fd) (Sc : FnScope N ps scope) (hp : ps.length = np) (hn : N.length = ns) (hg : g = mkFn np ns b)
    (hbody : ∀ (cdv : Value) (A : Around) (outer : List Env) (s : Shared) (H : L2.Hp) (E : XK), fd.code = cdv → Room k (A.deeper (envOfC qual scope s.heap.objs.size f cdv)) → Takes (cxOf (L2.CX P w) P w K mg base N qual scope f cdv A outer s H E) (WE' E) →
      PSs (cxOf (L2.CX P w) P w K mg base N qual scope f cdv A outer s H E) body (tS K cl (WE' E) b)) :
    FnOk P w K mg base (L2.CX P w) (k + 1) f fd ps (spI K cl np g) := by
  subst hp hg
  obtain ⟨oc, od, dV, kV, doc, pm, an, cdv, ct, osl, rfl, lk, hcd, _, _⟩ := F.ex
  refine fn_of lk hcd Sc (fun vs H Q E ⟨m, h, ds, C, r, l, _⟩ => l) fun A outer s H vs Q E hr ⟨m, h, ds, C, r, l, z⟩ => ⟨_, hbody cdv A outer s H E rfl hr (takes_of rfl rfl rfl rfl), m, entry ns ds, h, m, H, Ext.refl, r.entry ns N hn, C, ?_⟩
  obtain ⟨_, z⟩ := WP.grd z
  cases q : b (entry ns ds) h with
  | ok fl h2 =>
    rw [q] at z
    cases fl with
    | nxt σ => exact fun m' H' σV e _ c _ => z m' H' e c _ .non
    | ret d => exact fun m' H' v e _ c rv => z m' H' e c v rv
    | exc c p σ => exact fun m' H' σV e _ cc _ => z m' H' e cc
    | brk σ => exact z.elim
    | cnt σ => exact z.elim
  | exc c p h2 => rw [q] at z; exact z.elim
  | no => rw [q] at z; exact z.elim
theorem scrD {H : L2.Hp} {m : Mp} : ∀ ns : List Int, RDs K cl H m (ns.map D.int) (ns.map V.int)
  | [] => .nil
  | i :: r => .cons (.int i) (scrD r)
theorem get_h0 (k n : Nat) : h0.get k n = none := by
  unfold h0
  rw [Hp.get_def]
  match k with
  | 0 | 1 | 2 | 3 | 4 | 5 | 6 => rfl
  | k + 7 => rfl
/-- the law gives True -/
theorem law_yesT {f : Fn} {H : L2.Hp} {a : Addr} {ns : List Int} (ht : LamX.Tabs cl.tabs H) (hs : ScrOk cl (ns.map D.int)) (q : SqL K H a (ns.map V.int)) (h : ∃ h', f [.scr (ns.map D.int)] h0 = .ok (.bl true) h') :
    spL K cl f [.ref a] H (fun v _ => v = .bl true) E0 := by
  have fin : ∀ H', LamX.Tabs cl.tabs H' → SqS K H' a (ns.map V.int) → spI K cl 1 f [.ref a] H' (fun v _ => v = .bl true) E0 := fun H' ht s => by
    obtain ⟨h', e⟩ := h
    refine ⟨fun _ _ => none, h0, [.scr (ns.map D.int)], ?_, .cons (.scr s (scrD ns) hs) .nil, rfl, ?_⟩
    · exact ⟨fun k n => ⟨fun z => absurd rfl z, fun z => absurd (get_h0 k n) z⟩, fun k n k' n' a e => (by cases e), fun k n o a _ e => (by cases e), fun k n a e => (by cases e), ht⟩
    · rw [e]
      intro m' H' _ _ v r
      cases r
      rfl
  refine ⟨rfl, ?_⟩
  rcases q with (q | q) | q
  · refine .inr ⟨a, _, q, trivial, fun o => fin _ (tabs_upd ht fun u e => by rw [q] at e; cases e; trivial) (.inl ⟨o, upd_same⟩)⟩
  · exact .inl (fin H ht (.inl q))
  · exact .inl (fin H ht (.inr q))
/-- a def that raises nothing -/
theorem calmL {k : Nat} {f : Addr} {fd : FuncData} {ps : List Str} {sp : Sp} (F : FnOk P w K mg base (L2.CX P w) k f fd ps sp) : FnOk P w K mg base CX0 k f fd ps (fun vs H Q _ => sp vs H Q E0) := calm0 F
end
/-- the end, where tables of code objects are read off the top -/
theorem walk_tab {l : PySem.W.OpenLaw} {n k : Nat} {q : Program} {loose : List Str} {XP : (Str → Option Value) → Heap → Prop} {YP : World → Heap → Prop} {d : DefRec} {CX : World → CXT} {x : Str} (hn : l.most = some n) (hs : n ≤ sizeLine) (hdf : d.params.defaults = []) (hr : Room k callerA)
    (F : ∀ (w : World) (mg mb : Str → Option Value) (mean : ExcName → Option Value) (fa : Addr) (h : Heap), YP w h → PyProof.Rows.Top q (PySem.W.looseW q loose) mean mg mb h → mg d.name = some (.ref fa) → ∃ K : PySem.W.Frag, K.In h ∧ LamX.LawAtS l w K (CX w) k n x mg fa h)
    (hCX : ∀ (w : World) (H : L2.Hp) (s : Shared) (e : Value) (s' : Shared), CX w [] H s (fun _ _ _ => False) e s' → False) : PySem.W.WalkO q loose XP YP l.row.toRowW d [] (fun f vs => PySem.call f vs) := by
  refine Att.attach_callB hn hdf fun w s₀ s₁ mg mb fa o pm cd doc a vs ns G Y ho hd hcd hmg hobj hints hlen hbits hg => ?_
  obtain ⟨K, KX, fd, cs, sp, hT, nT, C, hb, hsp, hF⟩ := F w mg mb _ fa _ Y G.T hmg
  exact LamX.law_callTs KX G.T.g G.T.b G.T.builtins G.T.nolimit hg hT nT C G.T.bmain hobj hints (Nat.le_trans hlen hs) hr hF hb (fun H hH hS => hsp H a ns hlen hbits hH hS) fun H e s' => hCX w H s₁ e s'
end IP

/-! raise C('..'); raise C(field=e), C with an __init__ of its own. -/
namespace IP
open PySem PySem.Spec PyProof.Rows L2
/-- a class of errors of the text -/
structure ErrC (K : PySem.W.Frag) (mg : Str → Option Value) (x : Str) (a : Addr) : Prop where
  q : PySem.W.excIn K a He.veBase "ValueError.__new__" = true
  kp : PySem.W.keepIn K (.ref a) = true
  sb : PySem.W.subIn K (.ref a) (.type "BaseException") = some true
  ty : PySem.W.typeIn K (.ref a) = some (.type "type")
  g : mg x = some (.ref a)
section
variable {X : Cx} {cl : Cl} {W : WX}
theorem sns_raise {x t : Str} {j c : Nat} {a : Addr} {p p2 pos pos' : Pos} (hc : X.calm = true) (tk : Takes X W) (E : ErrC X.K X.mg x a) (hv : cl.cv c = .ref a) (hg : Gl X x) (hdb : (x == ("__debug__" : Str)) = false := by decide) :
    PS X (.Raise (some (.Call (.Name x p) [.Constant (.str t) j p2] [] pos')) none pos) (tS X.K cl W (sRaise c)) :=
  ps_imp (ps_raise hc tk (pmk_own PySem.F.excBase_ValueError E.q E.g E.kp (raises_own E.sb E.ty) hg hdb)) fun D σV H ⟨m, σ, h, m0, H0, e0, L, C, w⟩ => by
    have z : wx X.K cl W σV c none m H := w m H σV e0 Ex2.refl C L
    rw [← hv]
    exact z
end
end IP
/-! ### a call by keywords alone of a class of errors with an __init__ of its own, at the machine's level -/
namespace IPX
open PySem PySem.Spec
section
variable {M : Model} {A : Around} {E : Value → Shared → Prop} {h : Heap} {g : Array GenState} {d : Drawn} {t : Nat} {os : OsState} {prog : Program} {w : World} {R : Result → Shared → Prop}
variable {nm q : Str} {C N : Addr} {bs bm bmB : List Value} {hdct : Bool} {sn : List Str} {sub : List Value} {ab : Bool} {col : Option Bool} {dd : Option Addr} {k0 k1 k2 k3 k5 : Option Value} {B newId initId : String} {kw : List (Str × Value)}
theorem look_new (F : ExcBaseFacts B newId initId bmB) (tail : ∀ Y : String, bm.contains (.type Y) = bmB.contains (.type Y)) {Q : Unit → Shared → Prop} (hC : h.get? C = some (excClassObj nm q C N bs bm hdct sn sub ab col dd k0 k1 k2 k3 k5 newId)) (z : Q () ⟨h, g, d, t, os⟩) :
    wpAny M A (checkBuiltinCall newId ⟨[.ref C], kw⟩) Q E ⟨h, g, d, t, os⟩ := by
  have below : (Value.ref C :: bm).contains (.type B) = true := by
    rw [List.contains_cons, tail, F.hasB, Bool.or_true]
  have few := F.noStar
  simp only [checkBuiltinCall, F.newRow, F.newKind, F.newSplit]
  repeat (first
    | refine wpAny_loadPart_at hC ?_
    | (refine wpAny_isSubtype_exc hC ?_; rw [below])
    | refine wpAny_staticBase_exc hC ?_
    | refine wpAny_madeBy_exc hC ?_
    | simp only [bne_self_eq_false, Bool.false_eq_true, if_false]
    | wp_step)
  exact z
theorem run_new (F : ExcBaseFacts B newId initId bmB) (tail : ∀ Y : String, bm.contains (.type Y) = bmB.contains (.type Y)) (hC : h.get? C = some (excClassObj nm q C N bs bm hdct sn sub ab col dd k0 k1 k2 k3 k5 newId))
    (z : R (.ok (.ret (.ref (h.objs.size + 1)))) ⟨(h.push (PySem.W.kdv_tup [])).push (PySem.HandSPX.excO C h.objs.size), g, d, t, os⟩) : codeAny (model prog w) A (.builtin newId ⟨[.ref C], kw⟩) R ⟨h, g, d, t, os⟩ := by
  have ends := F.ends
  have has : ∀ (Y : String) (b : Bool), bmB.contains (.type Y) = b → (Value.ref C == Value.type Y) = false → (Value.ref C :: bm).contains (.type Y) = b := fun Y b e ne => by
    rw [List.contains_cons, tail, e]
    have ne' : (Value.type Y == Value.ref C) = false := rfl
    rw [ne']; rfl
  have yB := has _ _ F.hasB rfl
  have yA := has _ _ F.noAttr rfl
  have yN := has _ _ F.noName rfl
  refine codeAny_builtinAt F.entry ?_
  unfold Builtin.«BaseException.__new__»
  refine wpAt_bind ?_
  show wpAt _ _ _ (stack >>= _) _ _ _
  refine wpAt_bind (wpAt_stack fun p below => wpAt_of_wpAny ?_)
  wp_walk
  refine wpAt_of_wpAny ?_
  rw [F.owner]
  repeat (first
    | with_reducible refine wpAny_madeHere_exc F.canon hC ?_
    | with_reducible refine wpAny_loadPart_at hC ?_
    | (with_reducible refine wpAny_isSubtype_exc hC ?_; first | rw [yB] | rw [yA] | rw [yN])
    | wp_step)
  show R _ _
  rw [Heap.size_push]
  exact z
theorem run_type (F : ExcBaseFacts B newId initId bmB) (tail : ∀ Y : String, bm.contains (.type Y) = bmB.contains (.type Y)) {fI : Addr} {Q : Fin → Shared → Prop} (hC : h.get? C = some (excClassObj nm q C N bs bm hdct sn sub ab col dd k0 k1 k2 k3 k5 newId))
    (hi : PySem.W.Looks (model prog w) h (typeLookup (.ref C) "__init__") (some (.ref fI))) (hb : ∀ me, PySem.W.Looks (model prog w) h (bindSpecial (.ref fI) me) (.ref fI, [me]))
    (z : codeAny (model prog w) A (.call (.ref fI) ⟨[.ref (h.objs.size + 1)], kw⟩) (fun r s' => match r with | .ok (.ret v) => v = .none ∧ Q (.done (.ret (.ref (h.objs.size + 1)))) s' | .ok _ => False | .error e => E e s')
      ⟨(h.push (PySem.W.kdv_tup [])).push (PySem.HandSPX.excO C h.objs.size), g, d, t, os⟩) :
    wpAny (model prog w) A (Builtin.«type.__call__» ⟨[.ref C], kw⟩) Q E ⟨h, g, d, t, os⟩ := by
  repeat (first
    | with_reducible refine wpAny_loadPart_at hC ?_
    | with_reducible refine wpAny_madeBy_exc hC ?_
    | wp_step)
  refine codeAny_call_builtin_code (Code.quiet_builtin _ F.quiet) (look_new F tail hC ?_)
  refine run_new F tail hC ?_
  show wpAny _ _ _ _ _ _
  have stay : ∀ b o, h.get? b = some o → ((h.push (PySem.W.kdv_tup [])).push (PySem.HandSPX.excO C h.objs.size)).get? b = some o := fun b o e => Heap.get?_push_of_some _ (Heap.get?_push_of_some _ e)
  have hC2 := stay _ _ hC
  have here : ((h.push (PySem.W.kdv_tup [])).push (PySem.HandSPX.excO C h.objs.size)).get? (h.objs.size + 1) = some (PySem.HandSPX.excO C h.objs.size) := by heap_get
  have itself : (Value.ref C :: bm).contains (.ref C) = true := by simp
  have i2 := hi.keeps stay
  have b2 := (hb (.ref (h.objs.size + 1))).keeps stay
  unfold isInstance
  repeat (first
    | with_reducible refine wpAny_loadPart_at here ?_
    | (with_reducible refine wpAny_isSubtype_exc hC2 ?_; rw [itself])
    | wp_step)
  show wpAny _ _ (typeLookup (.ref C) _) _ _ _
  refine i2.at ?_
  refine wpAny_holding (wpAny_bind (b2.at ?_))
  refine wpAny_bind (wpAny_call (codeAny_mono z fun r s' y => ?_))
  rcases r with e | (v | _ | _ | _)
  all_goals first
    | exact y
    | exact False.elim y
    | skip
  obtain ⟨rfl, y⟩ := y
  first
    | exact wpAny_pure (wpAny_pure y)
    | (wp_walk; exact y)
theorem call_kw (F : ExcBaseFacts B newId initId bmB) (tail : ∀ Y : String, bm.contains (.type Y) = bmB.contains (.type Y)) {fI : Addr} (hC : h.get? C = some (excClassObj nm q C N bs bm hdct sn sub ab col dd k0 k1 k2 k3 k5 newId))
    (hi : PySem.W.Looks (model prog w) h (typeLookup (.ref C) "__init__") (some (.ref fI))) (hb : ∀ me, PySem.W.Looks (model prog w) h (bindSpecial (.ref fI) me) (.ref fI, [me]))
    (z : codeAny (model prog w) (A.under (.builtin "type.__call__" ⟨[.ref C], kw⟩)) (.call (.ref fI) ⟨[.ref (h.objs.size + 1)], kw⟩) (PySem.W.InitBack (h.objs.size + 1) R) ⟨(h.push (PySem.W.kdv_tup [])).push (PySem.HandSPX.excO C h.objs.size), g, d, t, os⟩) :
    codeAny (model prog w) A (.call (.ref C) ⟨[], kw⟩) R ⟨h, g, d, t, os⟩ := by
  have l1 := PySem.tc_lookup
  have l2 := PySem.tc_bind (.ref C)
  have isT : (⟨h, g, d, t, os⟩ : Shared).TypeIs (.ref C) "type" := ⟨_, hC, rfl⟩
  refine codeAny_of_tree ?_
  show wpAny _ _ (callAny (.ref C) _) _ _ _
  repeat (any_goals (first
    | assumption
    | with_reducible refine wpAny_loadPart_at hC ?_
    | wp_step))
  refine ⟨rfl, ?_⟩
  refine codeAny_call_builtin_at (Code.quiet_builtin _ (by decide +kernel)) PySem.entry_typeCall (wpAny_check_type_call_sub hC (run_type F tail hC hi hb ?_))
  refine codeAny_mono z fun r s' y => ?_
  rcases r with e | (v | _ | _ | _) <;> exact y
end
end IPX

namespace IP
open PySem PySem.Spec PyProof.Rows L2
theorem oexB_ok {K : PySem.W.Frag} {C : Addr} (h : oexB K C = true) : OexC K C := by
  unfold oexB at h
  split at h
  · rename_i dd cd sl ho
    split at h
    · rename_i C' bm k0 k1 k2 k3 n k5 hm hs
      obtain ⟨h1, h⟩ := He.ba h
      obtain ⟨h2, h⟩ := He.ba h
      obtain ⟨h3, h⟩ := He.ba h
      obtain ⟨h4, h⟩ := He.ba h
      obtain ⟨h5, h⟩ := He.ba h
      obtain ⟨h6, h⟩ := He.ba h
      obtain ⟨h7, h⟩ := He.ba h
      obtain ⟨h8, h9⟩ := He.ba h
      have e1 : C' = C := eq_of_beq h1
      have e2 : n = "ValueError.__new__" := eq_of_beq h2
      subst e1 e2
      obtain ⟨nm, bs, mro, ns, qn, hd, sn, sub, ab, col, del⟩ := cd
      dsimp only at hm h3 h5
      subst hm h5
      have e3 : del = false := by simpa using h3
      subst e3
      have hsl : sl = #[k0, k1, k2, k3, some (.builtin "ValueError.__new__"), k5] := by
        obtain ⟨l⟩ := sl
        simp only at hs
        rw [hs]
      subst hsl
      exact ⟨⟨nm, qn, ns, bs, bm, sn, sub, ab, col, dd, k0, k1, k2, k3, k5, ho, h4⟩, He.eqO_ok h6, of_decide_eq_true h7, of_decide_eq_true h8, h9⟩
    · cases h
  · cases h
/-- C.__init__ is ValueError's -/
structure BaseI (K : PySem.W.Frag) (C : Addr) : Prop where
  rd : ClX.CRead K C (.type "type")
  at_ : PySem.W.findCls K (.ref C) (.type "type") "__init__" = some (.val (.builtin "ValueError.__init__"))
theorem baseIB_ok {K : PySem.W.Frag} {C : Addr} (h : baseIB K C = true) : BaseI K C := by
  obtain ⟨h1, h⟩ := He.ba h
  obtain ⟨h2, h3⟩ := He.ba h
  refine ⟨⟨h1, He.eqO_ok h2⟩, ?_⟩
  split at h3
  · rename_i n e
    rw [e, of_decide_eq_true h3]
  · cases h3
section
variable {X : Cx} {e : Expr} {es : List Expr} {ta : TA} {x : Str} {p1 p2 pos : Pos} {C : Addr}
theorem pe_baseinit {pl : Sem Bool} (hg : Gl X x) (hm : X.mg x = some (.ref C)) (B : BaseI X.K C) (ha : PA X (e :: es) ta)
    (hc : eval (.Call (.Attribute (.Name x p1) "__init__" p2) (e :: es) [] pos) X.env = (do
      let ov ← eval (.Name x p1) X.env
      standAt p2.atName
      let (f, first) ← holding [ov] (getMethod ov "__init__" pl)
      callWith pos f first (backTo pos (starEach (e :: es) X.env)) (backToKw pos (keywordEach [] X.env))) := by rfl)
    (hdb : (x == ("__debug__" : Str)) = false := by decide) (he : starEach (e :: es) X.env = (false, eval e X.env) :: starEach es X.env := by rfl) (hpl : (backTo pos (starEach es X.env)).any (·.1) = false := by rfl) :
    PE X (.Call (.Attribute (.Name x p1) "__init__" p2) (e :: es) [] pos) (tVeI X.K ta) := by
  refine ⟨fun pins s σ H Q I h => ?_⟩
  refine PySem.W.methodCall_KW (ld_glob I hg hm ?_ hdb) hc
  refine PySem.W.method_cls I.kIn B.rd.ga (PySem.W.cls_value I.kIn B.rd.rd B.at_ rfl ?_)
  show wpAny _ _ (callWith pos (Value.builtin "ValueError.__init__") [] (backTo pos (starEach (e :: es) X.env)) []) _ _ _
  refine PyProof.Rows.callWith_method1 (thn (ha.run pos pins _ σ H _ (I.tok _) h) fun us s1 ⟨vs, H1, I1, r1, a, D, ws, ev, hl, T, ea, q⟩ => ?_) he hpl
  subst ev
  cases r1 with
  | @cons _ u0 _ ur ra rest =>
    obtain rfl : u0 = Value.ref a := ra
    have short : ur.length ≤ sizeLine := by
      rw [← Paired.length rest]
      exact line1 (Nat.le_trans hl (by decide))
    exact oinit_ok T I1 ea short fun s' J => ⟨.non, H1, J, rfl, q⟩
end
/-- what such an __init__ promises: its one field is set -/
def spErr (K : PySem.W.Frag) (C : Addr) (f : Str) : Sp := fun vs H Q E => ∃ a v, vs = [.ref a, v] ∧ H a = some (exo a C none) ∧ ∀ dx, H dx = none → dx ≠ a → Q .non (upd (upd H dx (exd dx [(f, v)])) a (exo a C (some dx)))
section
variable {P : Program} {w : World} {K : PySem.W.Frag} {mg : Str → Option Value} {base : Heap}
theorem ok_errinit {qual ce sf g fl t : Str} {params : Arguments} {scope : Scope} {fI C CE : Addr} {fd : FuncData} {k j : Nat} {p1 p2 p3 p4 p5 p6 p7 p8 p9 p10 : Pos} (F : FunD K "__init__" qual params [.Expr (.Call (.Attribute (.Name ce p1) "__init__" p2) [.Name sf p3, .Constant (.str t) j p4] [] p5) p6, .Assign [.Attribute (.Name sf p7) fl p8] (.Name g p9) p10] scope [] [] fI fd)
    (Sc : FnScope [sf, g] [sf, g] scope) (T : OexC K C) (no : PySem.W.findIn K (.ref C) fl = some none) (B : BaseI K CE) (hm : mg ce = some (.ref CE)) (hgl : scope.names.lookup ce = some .globalImplicit) (v1 : Vis scope sf) (v2 : Vis scope g)
    (hc : ∀ env : Env, env.scope = scope → ∃ pl, eval (.Call (.Attribute (.Name ce p1) "__init__" p2) [.Name sf p3, .Constant (.str t) j p4] [] p5) env = (do
      let ov ← eval (.Name ce p1) env
      standAt p2.atName
      let (f, first) ← holding [ov] (getMethod ov "__init__" pl)
      callWith p5 f first (backTo p5 (starEach [.Name sf p3, .Constant (.str t) j p4] env)) (backToKw p5 (keywordEach [] env))))
    (hsw : ∀ env : Env, swapsWith (.Call (.Attribute (.Name ce p1) "__init__" p2) [.Name sf p3, .Constant (.str t) j p4] [] p5) none p6.line env = pure false) (hs2 : ∀ env : Env, env.scope = scope → swapsWith (.Name g p9) (some (.Attribute (.Name sf p7) fl p8)) p10.line env = pure false)
    (hdb : (ce == ("__debug__" : Str)) = false := by decide) (hd1 : (sf == ("__debug__" : Str)) = false := by decide) (hc1 : (sf == ("__classdict__" : Str)) = false := by decide) (hd2 : (g == ("__debug__" : Str)) = false := by decide) (hc2 : (g == ("__classdict__" : Str)) = false := by decide) :
    FnOk P w K mg base (L2.CX P w) (k + 1) fI fd [sf, g] (spErr K C fl) := by
  refine F.ok Sc (fun vs H Q E ⟨a, v, e, _⟩ => by rw [e]; rfl) fun cdv A outer s H vs Q E hr ⟨a, v, e, ha, q⟩ => ?_
  obtain ⟨pl, hcall⟩ := hc (envOfC qual scope s.heap.objs.size fI cdv) rfl
  have x1 : PE (cxOf (L2.CX P w) P w K mg base [sf, g] qual scope fI cdv A outer s H E) (.Name sf p3) (tVar 0) := pe_var (i := 0) rfl v1 hd1 hc1
  have x2 : PE (cxOf (L2.CX P w) P w K mg base [sf, g] qual scope fI cdv A outer s H E) (.Name sf p7) (tVar 0) := pe_var (i := 0) rfl v1 hd1 hc1
  have x3 : PE (cxOf (L2.CX P w) P w K mg base [sf, g] qual scope fI cdv A outer s H E) (.Name g p9) (tVar 1) := pe_var (i := 1) rfl v2 hd2 hc2
  refine ⟨_, pss_cons (ps_expr (pe_baseinit (X := cxOf (L2.CX P w) P w K mg base [sf, g] qual scope fI cdv A outer s H E) (pl := pl) hgl hm B (pa_cons x1 (pa_cons pe_str pa_nil)) hcall hdb) (hsw _)) (pss_one (ps_ost x2 x3 (hs2 _ rfl))), ?_⟩
  subst e
  refine ⟨.ref a, rfl, a, C, [.str t], rfl, (show 1 ≤ 1000 by decide), T, ha, ?_⟩
  exact ⟨v, rfl, .ref a, rfl, a, C, rfl, T, no, .inl ⟨ha, fun dx n ne => q dx n ne⟩⟩
end
section
variable {X : Cx} {cl : Cl} {W : WX}
def tMkK (C : Addr) (sp : Sp) (tk : TA) : L2.St → L2.Hp → XK → Prop := fun σ H Q => tk σ H fun ws H1 => ws.length = 1 ∧ ∀ a, H1 a = none → sp (.ref a :: ws) (upd H1 a (exo a C none))
  (fun v H2 => v = .non ∧ ∃ (d : Addr) (fs : List (Str × V)), H2 a = some (exo a C (some d)) ∧ H2 d = some (exd d fs) ∧ H1 d = none ∧ Q (.ref C) (some d) (upd (del H2 a) d (.xd fs))) (fun _ _ _ => False)
/-- C(f=e) -/
theorem pmk_kw {x f : Str} {C fI : Addr} {k : Nat} {fd : FuncData} {ps : List Str} {sp : Sp} {kws : List Keyword} {tk : TA} {p pos : Pos} (T : OexC X.K C) (iC : PySem.W.findIn X.K (.ref C) "__init__" = some (some (.ref fI))) (tI : PySem.W.typeIn X.K (.ref fI) = some (.type "function"))
    (F1 : FnOk X.prog X.w X.K X.mg X.base (L2.CX X.prog X.w) k fI fd ps sp) (hr : Room (k + 1) X.A) (hb : ∀ (s : Shared) (a v : Value), X.K.In s.heap → BindsTo s fd ⟨[a], [(f, v)]⟩ (ps.zip [a, v])) (hg : Gl X x) (hm : X.mg x = some (.ref C)) (hkw : PK X kws tk)
    (hall : (backToKw pos (keywordEach kws X.env)).all (·.1.isSome) = true := by rfl) (hks : (backToKw pos (keywordEach kws X.env)).filterMap (·.1) = [f] := by rfl) (hdb : (x == ("__debug__" : Str)) = false := by decide)
    (hpl : ((backTo pos (starEach [] X.env)).any (·.1) || (backToKw pos (keywordEach kws X.env)).any (·.1.isNone)) = false := by rfl) :
    PMk X (.Call (.Name x p) [] kws pos) (tMkK C sp tk) := by
  intro pins s σ H Q I h
  obtain ⟨nm, q, N, bs, bm, sn, sub, ab, col, dd, k0, k1, k2, k3, k5, hC, hbm⟩ := T.cls
  refine wpAny_Call_Name_kw (ld_glob I hg hm ?_ hdb)
  refine PySem.W.callWith_KW0 (h₀ := X.base) I.ok.mod.kin T.kC hall (thn (hkw.run pos pins s σ H _ I h) fun ws s1 ⟨vs, H1, I1, r1, hz, q1⟩ => ⟨I1.kIn, ?_⟩) hpl
  rw [hks]
  match vs, r1, hz, q1 with
  | [v], r1, _, q1 =>
  obtain ⟨u, rfl, ru⟩ := r1.one
  show wpAny _ _ (call (.ref C) [] [(f, u)]) _ _ _
  obtain ⟨hp, g, dr, tkn, os⟩ := s1
  have hsz : hp.objs.size ≤ hp.objs.size + 1 := Nat.le_succ _
  have hq := q1 (hp.objs.size + 1) (I1.hok.fresh hsz)
  have kk : ∀ b o, hp.get? b = some o → ((hp.push (PySem.W.kdv_tup [])).push (PySem.HandSPX.excO C hp.objs.size)).get? b = some o := fun b o e => Heap.get?_push_of_some _ (Heap.get?_push_of_some _ e)
  have here : ((hp.push (PySem.W.kdv_tup [])).push (PySem.HandSPX.excO C hp.objs.size)).get? (hp.objs.size + 1) = some (PySem.HandSPX.excO C hp.objs.size) := by heap_get
  have I2 : Inv X pins σ (upd H1 (hp.objs.size + 1) (exo (hp.objs.size + 1) C none)) ⟨(hp.push (PySem.W.kdv_tup [])).push (PySem.HandSPX.excO C hp.objs.size), g, dr, tkn, os⟩ := I1.laid kk hsz (exo_ok here)
  refine wpAny_call (IPX.call_kw PySem.F.excBase_ValueError (fun Y => PySem.HandSPX.refsVE_contains Y bm hbm) (I1.kIn _ _ hC) (PySem.W.looks_findIn I1.kIn iC) (fun me => PySem.W.bind_fn I1.kIn me tI)
    (codeAny_mono (F1.run _ X.stack _ _ ⟨[Value.ref (hp.objs.size + 1)], [(f, u)]⟩ [Value.ref (hp.objs.size + 1), u] [V.ref (hp.objs.size + 1), v] _ (fun _ _ _ => False) (hr.make C [] [(f, u)]) (I2.env0.make C [] [(f, u)]) (hb _ _ u I2.kIn) (.cons rfl (.cons ru .nil)) hq) fun r s' hq' => ?_))
  cases r with
  | error er =>
    obtain ⟨_, _, _, _, _, _, _, _, _, _, _, _, z⟩ := hq'
    exact z.elim
  | ok fl =>
    cases fl with
    | next => exact False.elim hq'
    | cont => exact False.elim hq'
    | brk => exact False.elim hq'
    | ret z =>
      obtain ⟨v2, H2, os2, bare2, un2, hok2, rv, ev, d, fs, ea, ed, hd1, q2⟩ := hq'
      subst ev
      obtain ⟨h2, g2, d2, t2, os'⟩ := s'
      exact ⟨rv, mk_end (raises_own T.exC T.tyC) I1 hsz kk un2 hok2 os2 bare2 ea ed hd1 q2⟩
/-- raise C(f=e) -/
theorem sns_raiseP {x f : Str} {C fI : Addr} {c k : Nat} {fd : FuncData} {ps : List Str} {e : Expr} {ee : E} {p kp pos pos' : Pos} (hc : X.calm = true) (tk : Takes X W) (T : OexC X.K C) (iC : PySem.W.findIn X.K (.ref C) "__init__" = some (some (.ref fI))) (tI : PySem.W.typeIn X.K (.ref fI) = some (.type "function"))
    (F1 : FnOk X.prog X.w X.K X.mg X.base (L2.CX X.prog X.w) k fI fd ps (spErr X.K C f)) (hr : Room (k + 1) X.A) (hb : ∀ (s : Shared) (a v : Value), X.K.In s.heap → BindsTo s fd ⟨[a], [(f, v)]⟩ (ps.zip [a, v])) (hm : X.mg x = some (.ref C)) (hv : cl.cv c = .ref C) (hx : cl.xf c = f) (he : PE X e (tE X.K cl W ee)) (hg : Gl X x)
    (hall : (backToKw pos' (keywordEach [⟨some f, e, kp⟩] X.env)).all (·.1.isSome) = true := by rfl) (hks : (backToKw pos' (keywordEach [⟨some f, e, kp⟩] X.env)).filterMap (·.1) = [f] := by rfl) (hdb : (x == ("__debug__" : Str)) = false := by decide)
    (hpl : ((backTo pos' (starEach [] X.env)).any (·.1) || (backToKw pos' (keywordEach [⟨some f, e, kp⟩] X.env)).any (·.1.isNone)) = false := by rfl) :
    PS X (.Raise (some (.Call (.Name x p) [] [⟨some f, e, kp⟩] pos')) none pos) (tS X.K cl W (sRaiseP c ee)) :=
  ps_imp (ps_raise hc tk (pmk_kw T iC tI F1 hr hb hg hm (pk_cons he pk_nil) hall hks hdb hpl)) fun D σV H ⟨m, σ, h, m0, H0, e0, L, C0, w⟩ => by
    show tCons (tE X.K cl W ee) tNil σV H _
    refine tE.stm e0 L C0 w fun d h1 m1 H1 v e1 f1 L1 C1 r1 w1 => ⟨rfl, fun a na => ⟨a, v, rfl, upd_same, fun dx nd ne => ⟨rfl, dx, [(f, v)], upd_same, ?_, ?_, ?_⟩⟩⟩
    · rw [upd_ne ne, upd_same]
    · rw [upd_ne ne] at nd
      exact nd
    · have nd' : H1 dx = none := by
        rw [upd_ne ne] at nd
        exact nd
      have eH : upd (del (upd (upd (upd H1 a (exo a C none)) dx (exd dx [(f, v)])) a (exo a C (some dx))) a) dx (.xd [(f, v)]) = upd H1 dx (.xd [(f, v)]) := by
        funext b
        by_cases hb : b = dx
        · rw [hb, upd_same, upd_same]
        · rw [upd_ne hb, upd_ne hb]
          by_cases hb2 : b = a
          · rw [hb2, del_same, na]
          · rw [del_ne hb2, upd_ne hb2, upd_ne hb, upd_ne hb2]
      rw [eH]
      have ex : Ext m1 m1 H1 (upd H1 dx (.xd [(f, v)])) := Ext.lay nd'
      have z := w1 m1 (upd H1 dx (.xd [(f, v)])) σV (f1.trans ex) ex.ex2 (C1.lay nd') (L1.up ex) dx v (by rw [hx]; exact upd_same) (r1.up ex)
      rw [← hv]
      exact z
end
end IP

/-! x, y, .. = e, [..], .. : what the names hold, lists held by one name alone among it. -/
namespace IP
open PySem PySem.Spec PyProof.Rows L2
noncomputable section
/-- an item that is a new list -/
def aOwnL (a r : A) : A := fun σ h => (a σ h).bnd fun xs h => if xs.length ≤ bigD then (r σ h).bnd fun ys h => .ok (.ownL xs :: ys) h else .no
def setAll : List Nat → List D → Lo → Option Lo
  | [], [], σ => some σ
  | i :: is, d :: ds, σ => setAll is ds (σ.set i (some d))
  | _, _, _ => none
def sMix (is : List Nat) (a : A) : S := fun σ h => (a σ h).stm σ fun ds h => grd (decide (ds.length ≤ 1000)) (opt (setAll is ds σ) fun σ => .ok (.nxt σ) h)
end
section
variable (K : PySem.W.Frag) (cl : Cl)
/-- values, new lists among them (at the addresses as, new since Hs) -/
inductive LM (m : Mp) (H0 H Hs : L2.Hp) : List D → List V → List Addr → Prop
  | nil : LM m H0 H Hs [] [] []
  | val {d : D} {v : V} {ds : List D} {vs : List V} {as : List Addr} : RD K cl H m d v → LM m H0 H Hs ds vs as → LM m H0 H Hs (d :: ds) (v :: vs) as
  | own {xs : List D} {p : Addr} {ds : List D} {vs : List V} {as : List Addr} : LD K cl m H0 H (.ownL xs) (.ref p) → Emp Hs p → p ∉ as → LM m H0 H Hs ds vs as → LM m H0 H Hs (.ownL xs :: ds) (.ref p :: vs) (p :: as)
def tM (W : WX) (a : A) : TA := fun σV H Q => ∃ m σ h m0 H0, Ext m0 m H0 H ∧ Lc K cl m H0 H σ σV ∧ Hc K cl m h H ∧ WP K cl (wx K cl W σV) m H (a σ h) fun ds h' m' H' => ∀ vs as, LM K cl m' H0 H' H ds vs as → (∀ p ∈ as, Emp H p) → Q vs H'
end
section
variable {K : PySem.W.Frag} {cl : Cl}
theorem LM.len {m : Mp} {H0 H Hs : L2.Hp} {ds : List D} {vs : List V} {as : List Addr} (r : LM K cl m H0 H Hs ds vs as) : ds.length = vs.length := by
  induction r with
  | nil => rfl
  | val _ _ ih => simp [ih]
  | own _ _ _ _ ih => simp [ih]
end
theorem back_emp {m m' : Mp} {H H1 : L2.Hp} {p : Addr} (n : H1 p = none) (e : Ext m m' H H1) : Emp H p := e.none0 n
section
variable {X : Cx} {cl : Cl} {W : WX} {e : Expr} {es items : List Expr} {ee : E} {aa ar : A} {lpos : Pos}
theorem snm_nil : PA X [] (tM X.K cl W aNil) := pa_imp pa_nil fun σV H Q ⟨m, σ, h, m0, H0, e0, L, C, w⟩ => WP.ok (a := ([] : List D)) (h := h) w C [] [] .nil fun p hp => by cases hp
theorem snm_cons (ha : PE X e (tE X.K cl W ee)) (hr : PA X es (tM X.K cl W ar)) (hs : starEach (e :: es) X.env = (false, eval e X.env) :: starEach es X.env := by rfl) : PA X (e :: es) (tM X.K cl W (aCons ee ar)) :=
  pa_imp (pa_cons ha hr hs) fun σV H Q ⟨m, σ, h, m0, H0, e0, L, C, w⟩ => tE.use L C w fun d h1 m1 H1 v e1 L1 C1 r1 w1 => ⟨m1, σ, h1, m0, H0, e0.trans e1, L1, C1, (WP.bnd w1).imp fun ds h2 m2 H2 e2 C2 w2 vs as r fr => by
    have back : ∀ p, Emp H1 p → Emp H p := fun p z => Classical.byContradiction fun n => e1.old p n z
    have conv : ∀ {ds vs as}, LM X.K cl m2 H0 H2 H1 ds vs as → LM X.K cl m2 H0 H2 H ds vs as := fun {ds vs as} r => by
      induction r with
      | nil => exact .nil
      | val a _ ih => exact .val a ih
      | own a b c _ ih => exact .own a (back _ b) c ih
    exact WP.ok (a := d :: ds) (h := h2) w2 C2 _ _ (.val (r1.up e2) (conv r)) fun p hp => back p (fr p hp)⟩
theorem snm_own (hi : PA X items (tA X.K cl W aa)) (hr : PA X es (tM X.K cl W ar)) (hs : starEach (.List items lpos :: es) X.env = (false, eval (.List items lpos) X.env) :: starEach es X.env := by rfl) : PA X (.List items lpos :: es) (tM X.K cl W (aOwnL aa ar)) :=
  pa_imp (pa_cons (pe_lst hi) hr hs) fun σV H Q ⟨m, σ, h, m0, H0, e0, L, C, w⟩ => tA.use L C w fun xs h1 m1 H1 vs1 e1 L1 C1 r1 w1 => by
    obtain ⟨c, w1⟩ := WP.ite w1
    refine ⟨by rw [← r1.length]; exact line1 c, fun p n => ?_⟩
    have ex : Ext m1 m1 H1 (upd H1 p (.lst vs1)) := Ext.lay n
    have fr0 : Free m1 p := fun k j z => C1.old k j p z n
    have e01 := (e0.trans e1).trans ex
    refine ⟨m1, σ, h1, m0, H0, e01, L1.up ex, C1.lay n, (WP.bnd (WP.up w1 ex)).imp fun ds h2 m2 H2 e2 C2 w2 vs as r fr => ?_⟩
    have back : ∀ q, Emp (upd H1 p (.lst vs1)) q → q ≠ p ∧ Emp H q := fun q z => by
      have ne : q ≠ p := fun y => by
        subst y
        exact absurd z (not_emp upd_same fun ps z => by cases z)
      refine ⟨ne, Classical.byContradiction fun nn => ?_⟩
      have := ex.old q (e1.old q nn)
      exact this z
    have conv : ∀ {ds vs as}, LM X.K cl m2 H0 H2 (upd H1 p (.lst vs1)) ds vs as → LM X.K cl m2 H0 H2 H ds vs as := fun {ds vs as} r => by
      induction r with
      | nil => exact .nil
      | val a _ ih => exact .val a ih
      | own a b c _ ih => exact .own a (back _ b).2 c ih
    have hp2 : H2 p = some (.lst vs1) := e2.frm p _ fr0 (fun ps z => by cases z) upd_same
    have ownp : LD X.K cl m2 H0 H2 (.ownL xs) (.ref p) := ⟨p, vs1, rfl, hp2, (r1.up ex).up e2, (e0.trans e1).none0 n, e2.free fr0 (not_emp upd_same fun ps z => by cases z)⟩
    exact WP.ok (a := D.ownL xs :: ds) (h := h2) w2 C2 _ _ (.own ownp ((back_emp n e1)) (fun z => (back _ (fr p z)).1 rfl) (conv r)) fun q hq => by
      rcases List.mem_cons.mp hq with rfl | hq
      · exact back_emp n e1
      · exact (back q (fr q hq)).2
/-- x, y, .. = .. -/
theorem names_set {K : PySem.W.Frag} {m : Mp} {H0 H Hs : L2.Hp} : ∀ {is : List Nat} {ds : List D} {vs : List V} {as : List Addr} {σ σ' : Lo} {σV : L2.St}, LM K cl m H0 H Hs ds vs as → Lc K cl m H0 H σ σV →
    (∀ (j : Nat) (e : D) (p : Addr), p ∈ as → σ[j]? = some (some e) → isOwn e = true → σV[j]? ≠ some (some (.ref p))) → setAll is ds σ = some σ' → ∃ σV', Lc K cl m H0 H σ' σV' ∧ (is.zip vs).foldl (fun z q => z.set q.1 (some q.2)) σV = σV' ∧ is.length = vs.length
  | [], _, _, _, σ, σ', σV, .nil, L, _, e => by cases e; exact ⟨σV, L, rfl, rfl⟩
  | [], _, _, _, _, _, _, .val _ _, _, _, e => by cases e
  | [], _, _, _, _, _, _, .own _ _ _ _, _, _, e => by cases e
  | i :: is, _, _, _, _, _, _, .nil, _, _, e => by cases e
  | i :: is, _, _, _, σ, σ', σV, @LM.val _ _ _ _ _ _ d v ds vs as a r, L, n, e => by
    have e : setAll is ds (σ.set i (some d)) = some σ' := e
    obtain ⟨σV', h1, h2, h3⟩ := names_set r (L.set a) (fun j x p hp q o z => by
      rcases set_at q with ⟨rfl, hl, e1⟩ | ⟨hj, q⟩
      · cases e1
        rw [a.notOwn] at o
        cases o
      · rw [List.getElem?_set_ne hj] at z
        exact n j x p hp q o z) e
    exact ⟨σV', h1, h2, by simp [h3]⟩
  | i :: is, _, _, _, σ, σ', σV, @LM.own _ _ _ _ _ _ xs p ds vs as a b c r, L, n, e => by
    have e : setAll is ds (σ.set i (some (.ownL xs))) = some σ' := e
    obtain ⟨σV', h1, h2, h3⟩ := names_set r (L.setL a fun _ j x _ q o z => n j x p List.mem_cons_self q o z) (fun j x p' hp q o z => by
      rcases set_at q with ⟨rfl, hl, e1⟩ | ⟨hj, q⟩
      · rw [List.getElem?_set_self (L.len ▸ hl)] at z
        cases z
        exact c hp
      · rw [List.getElem?_set_ne hj] at z
        exact n j x p' (List.mem_cons_of_mem _ hp) q o z) e
    exact ⟨σV', h1, h2, by simp [h3]⟩
/-- targets that are names, at these slots -/
inductive NmsOk (X : Cx) : List Expr → List Nat → Prop
  | nil : NmsOk X [] []
  | cons {x : Str} {p : Pos} {i : Nat} {es : List Expr} {is : List Nat} : X.N[i]? = some x → Loc X.env.scope x → (X.fn x = true ∨ X.env.scope.names.lookup x = some .local) → (assignEach (.Name x p :: es) X.env).map (·.2) = assign (.Name x p) X.env :: (assignEach es X.env).map (·.2) → NmsOk X es is → NmsOk X (.Name x p :: es) (i :: is)
theorem pgs_names (hN : X.N.Nodup) : ∀ {es : List Expr} {is : List Nat}, NmsOk X es is → PGs X es (fun vs σ H Q => is.length = vs.length ∧ Q ((is.zip vs).foldl (fun z q => z.set q.1 (some q.2)) σ) H)
  | _, _, .nil => pgs_imp pgs_nil fun vs σ H Q ⟨e, q⟩ => by
    cases vs with
    | nil => exact ⟨rfl, q⟩
    | cons _ _ => cases e
  | _, _, @NmsOk.cons _ x p i es is hi hx hf hs r => pgs_imp (pgs_cons (pg_name hN hi hx hf) (pgs_names hN r) hs) fun vs σ H Q ⟨e, q⟩ => by
    cases vs with
    | nil => cases e
    | cons v vs => exact ⟨v, vs, rfl, by simpa using e, q⟩
theorem sns_mix {ts vs : List Expr} {is : List Nat} {kt k2 n : Nat} {pt pt2 pos : Pos} (hc : X.calm = true) (hN : X.N.Nodup) (nm : NmsOk X ts is) (hv : PA X vs (tM X.K cl W ar)) (hn2 : is.length = n := by rfl)
    (hs : swapsWithSole [.Tuple ts kt pt] (.Tuple vs k2 pt2) pos.line X.env = pure false := by rfl) (hw : swappedStores [.Tuple ts kt pt] (.Tuple vs k2 pt2) X.env = pure none := by rfl)
    (h1 : (assignEach [.Tuple ts kt pt] X.env).map (·.2) = [assign (.Tuple ts kt pt) X.env] := by rfl) (hn : (assignEach ts X.env).length = n := by rfl) (hst : (assignEach ts X.env).findIdx? (·.1) = none := by rfl) :
    PS X (.Assign [.Tuple ts kt pt] (.Tuple vs k2 pt2) pos) (tS X.K cl W (sMix is ar)) :=
  ps_imp (ps_asg (pe_tup hv) (pg_tup hc (pgs_names hN nm) hn hst) hs hw h1) fun De σV H ⟨m, σ, h, m0, H0, e0, L, C, w⟩ => by
    have w1 := WS.stm e0 L w
    refine ⟨m, σ, h, m0, H0, e0, L, C, w1.imp fun ds h1 m1 H1 e1 C1 w2 us as r fr => ?_⟩
    obtain ⟨f1, w2⟩ := w2
    have L1 := L.up e1
    have w2 : WS X.K cl W De m0 H0 m1 H1 (grd (decide (ds.length ≤ 1000)) (opt (setAll is ds σ) fun σ => .ok (.nxt σ) h1)) := w2
    cases hl : decide (ds.length ≤ 1000) with
    | false => rw [hl] at w2; exact w2.elim
    | true =>
      rw [hl] at w2
      have w3 : WS X.K cl W De m0 H0 m1 H1 (opt (setAll is ds σ) fun σ => .ok (.nxt σ) h1) := w2
      cases hsa : setAll is ds σ with
      | none => rw [hsa] at w3; exact w3.elim
      | some σ' =>
        rw [hsa] at w3
        have w4 : WS X.K cl W De m0 H0 m1 H1 (.ok (.nxt σ') h1) := w3
        refine ⟨by rw [← r.len]; exact line1 (Nat.le_trans (of_decide_eq_true hl) (by decide)), fun p n => ?_⟩
        obtain ⟨σV', g1, g2, g3⟩ := names_set r L1 (fun j x q hq e o z => by
          have z2 := L.loc j x e
          obtain ⟨v, v1, v2⟩ := z2
          rw [z] at v1
          cases v1
          have nE : ¬ Emp H q := by
            match x, o, v2 with
            | .ownL xs, _, v2 => obtain ⟨a, b, ea, c, _⟩ := v2; cases ea; exact not_emp c fun ps z => by cases z
            | .ownD false rows, _, v2 => obtain ⟨a, b, ea, c, _⟩ := v2; cases ea; exact not_emp c fun ps z => by cases z
            | .ownD true rows, _, v2 => obtain ⟨a, b, ea, c, _⟩ := v2; cases ea; exact not_emp c fun ps z => by cases z
          exact nE (fr q hq)) hsa
        have ex : Ext m1 m1 H1 (upd H1 p (.tup us)) := Ext.lay n
        refine ⟨p, us, rfl, .inl (.inl upd_same), by rw [← g3, hn2], g3, ?_⟩
        rw [g2]
        exact w4 m1 _ σV' (f1.trans ex) ex.ex2 (C1.lay n) (g1.up ex)
end
end IP

/-! Slices; x is True; list(range(..)); reversed(range(..)). -/
namespace IP
open PySem PySem.Spec PyProof.Rows L2
noncomputable section
/-- x[lo:hi] of tuples of the text, too -/
def fSlA : D → Option Int → Option Int → Hp → R D
  | .ctp xs, l, u, h => .ok (.ctp (cut xs l u)) h
  | d, l, u, h => fSl d l u h
def eSlA (e : E) (a b : Pt) : E := fun σ h => (e σ h).bnd fun x h => (a σ h).bnd fun l h => (b σ h).bnd fun u h => fSlA x l u h
/-- x is True, x is False -/
def isB (b : Bool) : D → Option Bool
  | .bl c => some (c == b)
  | .non => some false
  | .int _ => some false
  | .str _ => some false
  | .tup _ => some false
  | .ctp _ => some false
  | .lst _ => some false
  | .ref _ _ => some false
  | _ => none
def fIsB (b : Bool) : D → Hp → R D := fun d h => opt (isB b d) fun r => .ok (.bl r) h
def fNotB (b : Bool) : D → Hp → R D := fun d h => opt (isB b d) fun r => .ok (.bl (!r)) h
def eLRng (a : E) : E := fun σ h => (iRng a σ h).bnd fun xs h => .ok (.lst xs) h
def eLRng2 (a b : E) : E := fun σ h => (iRng2 a b σ h).bnd fun xs h => .ok (.lst xs) h
end
theorem sIx_eq (n d : Nat) (o : Option Int) : HT.sIx n d o = sIx n d o := by cases o <;> rfl
theorem RDs.cut {K : PySem.W.Frag} {cl : Cl} {m : Mp} {H : L2.Hp} {ds : List D} {vs : List V} (r : RDs K cl H m ds vs) (l u : Option Int) : RDs K cl H m (IP.cut ds l u) (cutV vs l u) := by
  unfold IP.cut cutV
  rw [sIx_eq, sIx_eq, ← r.length]
  exact (r.drop _).take _
section
variable (K : PySem.W.Frag) (cl : Cl) (W : WX)
def tP (e : Pt) : TO := fun σV H Q => ∃ m σ h H0, Lc K cl m H0 H σ σV ∧ Hc K cl m h H ∧ WP K cl (wx K cl W σV) m H (e σ h) fun o h' m' H' => Q o H'
end
section
variable {X : Cx} {cl : Cl} {W : WX} {a b c e : Expr} {ea eb ec ee : E} {pos p p2 : Pos} {lo hi : Option Expr} {pl ph : Pt}
theorem po_imp {e : Option Expr} {t t' : TO} (p : PO X e t) (i : ∀ σ H Q, t' σ H Q → t σ H Q) : PO X e t' := ⟨fun pins s σ H Q I q => p.run pins s σ H Q I (i σ H Q q)⟩
theorem snp_no : PO X none (tP X.K cl W pNo) := po_imp po_none fun σV H Q ⟨m, σ, h, H0, L, C, w⟩ => WP.ok (a := (none : Option Int)) (h := h) w C
theorem snp_at (he : PE X e (tE X.K cl W ee)) : PO X (some e) (tP X.K cl W (pAt ee)) := po_imp (po_some he) fun σV H Q ⟨m, σ, h, H0, L, C, w⟩ => tE.use L C w fun d h1 m1 H1 v e1 L1 C1 r1 w1 => by
  cases r1 with
  | int i => exact ⟨i, rfl, WP.ok (a := some i) (h := h1) w1 C1⟩
  | _ => exact w1.elim
theorem tP.use {α : Type} {e : Pt} {k : Option Int → L2.Hp → Prop} {kk : Option Int → Hp → R α} {post : α → Hp → Mp → L2.Hp → Prop} {σV : L2.St} {H H0 : L2.Hp} {m : Mp} {σ : Lo} {h : Hp} (L : Lc X.K cl m H0 H σ σV) (C : Hc X.K cl m h H) (w : WP X.K cl (wx X.K cl W σV) m H ((e σ h).bnd kk) post)
    (q : ∀ d h1 m1 H1, Ext m m1 H H1 → Lc X.K cl m1 H0 H1 σ σV → Hc X.K cl m1 h1 H1 → WP X.K cl (wx X.K cl W σV) m1 H1 (kk d h1) post → k d H1) : tP X.K cl W e σV H k :=
  ⟨m, σ, h, H0, L, C, w.bnd.imp fun d h1 m1 H1 e1 C1 w1 => q d h1 m1 H1 e1 (L.up e1) C1 w1⟩
theorem cutV_all {vs : List V} {l u : Option Int} (z : HT.sIx vs.length 0 l = 0 ∧ HT.sIx vs.length vs.length u = vs.length) : cutV vs l u = vs := by
  unfold cutV
  rw [z.1, z.2]
  simp
theorem snd_sl (he : PE X e (tE X.K cl W ee)) (hl : PO X lo (tP X.K cl W pl)) (hh : PO X hi (tP X.K cl W ph)) : PE X (.Subscript e (.Slice lo hi none p2) pos) (tE X.K cl W (eSl ee pl ph)) :=
  pe_imp (pe_fq (pe_slice ((sl_list.or sl_tupA).or sl_str) he hl hh)) fun σV H Q ⟨m, σ, h, H0, L, C, w⟩ => tE.use L C w fun d h1 m1 H1 v e1 L1 C1 r1 w1 => tP.use L1 C1 w1 fun l h2 m2 H2 e2 L2' C2 w2 => tP.use L2' C2 w2 fun u h3 m3 H3 e3 L3 C3 w3 => by
    have r3 := (r1.up e2).up e3
    cases r3 <;> first | exact w3.elim | skip
    · rename_i s
      obtain ⟨c, w4⟩ := WP.ite w3
      refine .inr ⟨s, rfl, line1 c, .inl ?_⟩
      have z := WP.ok w4 C3 _ (.str _)
      unfold cut at z
      unfold cutS
      rw [sIx_eq, sIx_eq]
      have el : s.cps.toList.length = s.length := by rw [Array.length_toList]; rfl
      rw [el] at z
      exact z
    · rename_i a xs vs q r
      refine .inl (.inr ⟨a, vs, rfl, .inl (.inl q), fun z => ?_, fun z p n => ?_⟩)
      · have rc := r.cut l u
        rw [cutV_all z] at rc
        exact .inl (WP.ok (a := D.tup (cut xs l u)) (h := h3) w3 C3 _ (.tup q rc))
      · have e : Ext m3 m3 H3 (upd H3 p (.tup (cutV vs l u))) := Ext.lay n
        exact .inl (w3 m3 _ e (C3.lay n) _ (.tup upd_same ((r.cut l u).up e)))
    · rename_i a o xs vs q r
      exact .inl (.inl ⟨a, vs, rfl, .inl (.inr ⟨o, q⟩), fun p n => fq_new C3 (r.cut l u) w3 n⟩)
theorem snd_rev {k : Nat} {p1 p3 p4 : Pos} (he : PE X e (tE X.K cl W ee)) : PE X (.Subscript e (.Slice none none (some (.UnaryOp .USub (.Constant (.int 1) k p1) p3)) p4) pos) (tE X.K cl W (one fRev ee)) :=
  pe_imp (pe_fq (pe_revL he)) fun σV H Q ⟨m, σ, h, H0, L, C, w⟩ => tE.use L C w fun d h1 m1 H1 v e1 L1 C1 r1 w1 => by
    cases r1 <;> first | exact w1.elim | skip
    rename_i a o xs vs q r
    exact ⟨a, vs, rfl, .inl (.inr ⟨o, q⟩), fun p n => fq_new C1 r.reverse w1 n⟩
/-! ### x is True -/
theorem op_isBl : OpR X (compareOp .Is) (fun x y H Q => ∃ b, y = .bl b ∧ Q (.bl (decide (x = .bl b))) H) := by
  intro pins s σ H x y v u Q I rx ry h
  obtain ⟨b, rfl, q⟩ := h
  obtain rfl : u = Value.bool b := ry
  cases x <;> first
    | (obtain ⟨t, rfl⟩ := rx; exact wpAny_is_plain rfl (fin_bl I q rfl))
    | (cases rx; exact wpAny_is_plain rfl (fin_bl I q rfl))
    | skip
  rename_i c
  obtain rfl : v = Value.bool c := rx
  exact wpAny_is_plain rfl (fin_bl I q (by cases c <;> cases b <;> rfl))
theorem op_notBl : OpR X (compareOp .IsNot) (fun x y H Q => ∃ b, y = .bl b ∧ Q (.bl (!decide (x = .bl b))) H) := by
  intro pins s σ H x y v u Q I rx ry h
  obtain ⟨b, rfl, q⟩ := h
  obtain rfl : u = Value.bool b := ry
  cases x <;> first
    | (obtain ⟨t, rfl⟩ := rx; exact wpAny_isNot_plain rfl (fin_bl I q rfl))
    | (cases rx; exact wpAny_isNot_plain rfl (fin_bl I q rfl))
    | skip
  rename_i c
  obtain rfl : v = Value.bool c := rx
  exact wpAny_isNot_plain rfl (fin_bl I q (by cases c <;> cases b <;> rfl))
theorem isB_of {K : PySem.W.Frag} {H : L2.Hp} {m : Mp} {d : D} {v : V} {b r : Bool} (rd : RD K cl H m d v) (e : isB b d = some r) : decide (v = .bl b) = r := by
  cases rd <;> first | (cases e; done) | skip
  all_goals first
    | (cases e; rfl)
    | skip
  all_goals (rename_i c; cases e; cases c <;> cases b <;> rfl)
theorem snd_isB {j : Nat} {bb : Bool} {pc : Pos} (ha : PE X e (tE X.K cl W ee)) (hm : behindInMarks .Is (.Constant (.bool bb) j pc) = false := by rfl) : PE X (.Compare e [.Is] [.Constant (.bool bb) j pc] pos) (tE X.K cl W (one (fIsB bb) ee)) :=
  pe_imp (pe_cmpR op_isBl ha pe_bl hm) fun σV H Q ⟨m, σ, h, H0, L, C, w⟩ => tE.use L C w fun d h1 m1 H1 v e1 L1 C1 r1 w1 => by
    obtain ⟨r, er, w2⟩ := WP.opt w1
    exact ⟨bb, rfl, by rw [isB_of r1 er]; exact WP.ok w2 C1 _ (.bl r)⟩
theorem snd_notB {j : Nat} {bb : Bool} {pc : Pos} (ha : PE X e (tE X.K cl W ee)) (hm : behindInMarks .IsNot (.Constant (.bool bb) j pc) = false := by rfl) : PE X (.Compare e [.IsNot] [.Constant (.bool bb) j pc] pos) (tE X.K cl W (one (fNotB bb) ee)) :=
  pe_imp (pe_cmpR op_notBl ha pe_bl hm) fun σV H Q ⟨m, σ, h, H0, L, C, w⟩ => tE.use L C w fun d h1 m1 H1 v e1 L1 C1 r1 w1 => by
    obtain ⟨r, er, w2⟩ := WP.opt w1
    exact ⟨bb, rfl, by rw [isB_of r1 er]; exact WP.ok w2 C1 _ (.bl (!r))⟩
/-! ### ranges -/
theorem rng_rds {K : PySem.W.Frag} {H : L2.Hp} {m : Mp} : ∀ (n : Nat) (lo : Int), RDs K cl H m (rng lo n) ((List.range n).map fun i => V.int (lo + (i : Nat)))
  | 0, _ => .nil
  | n + 1, lo => by
    have ih := rng_rds (K := K) (H := H) (m := m) n (lo + 1)
    have e : ((List.range (n + 1)).map fun i => V.int (lo + (i : Nat))) = V.int lo :: ((List.range n).map fun i => V.int (lo + 1 + (i : Nat))) := by
      rw [List.range_succ_eq_map, List.map_cons, List.map_map]
      congr 1
      · simp
      · apply List.map_congr_left
        intro i _
        simp only [Function.comp]
        congr 1
        omega
    rw [e]
    exact .cons (.int lo) ih
theorem snd_lrng {q : Pos} (hc : X.calm = true) (hl : Gl X "list") (ml : X.mg "list" = none) (hg : Gl X "range") (hm : X.mg "range" = none) (ha : PE X a (tE X.K cl W ea)) (na : starEach [a] X.env = (false, eval a X.env) :: starEach [] X.env := by rfl)
    (nb : starEach [(.Call (.Name "range" p) [a] [] pos : Expr)] X.env = (false, eval (.Call (.Name "range" p) [a] [] pos) X.env) :: starEach [] X.env := by rfl) :
    PE X (.Call (.Name "list" p2) [.Call (.Name "range" p) [a] [] pos] [] q) (tE X.K cl W (eLRng ea)) :=
  pe_imp (pe_fq (pe_listRg hc hl ml (prg_1 hg hm ha na) nb)) fun σV H Q ⟨m, σ, h, H0, L, C, w⟩ => by
    have w : WP X.K cl (wx X.K cl W σV) m H (((ea σ h).bnd fun d h => match d with
      | .int j => grd (okRng j) (.ok (rng 0 j.toNat) h)
      | _ => .no).bnd fun xs h => .ok (.lst xs) h) (Rt X.K cl Q) := w
    refine ⟨m, σ, h, H0, L, C, (WP.bnd (WP.bnd w)).imp fun d h1 m1 H1 e1 C1 w1 v r1 => ?_⟩
    cases r1 <;> first | exact w1.elim | skip
    rename_i j
    obtain ⟨c, w2⟩ := WP.grd w1
    obtain ⟨c1, c2⟩ := okRng_of c
    refine ⟨j, rfl, ⟨by omega, by omega, by omega, by omega, by omega⟩, fun p n => ?_⟩
    have w3 := WP.ok w2 C1
    have r := rng_rds (cl := cl) (K := X.K) (H := H1) (m := m1) j.toNat 0
    have e : rgV 0 j = (List.range j.toNat).map fun i => V.int (0 + (i : Nat)) := by
      unfold rgV
      rw [Int.sub_zero]
    rw [e]
    exact fq_new C1 r w3 n
theorem snd_lrng2 {q : Pos} (hc : X.calm = true) (hl : Gl X "list") (ml : X.mg "list" = none) (hg : Gl X "range") (hm : X.mg "range" = none) (ha : PE X a (tE X.K cl W ea)) (hb : PE X b (tE X.K cl W eb)) (na : starEach [a, b] X.env = (false, eval a X.env) :: starEach [b] X.env := by rfl) (nb2 : starEach [b] X.env = (false, eval b X.env) :: starEach [] X.env := by rfl) (np : (backTo pos (starEach [b] X.env)).any (·.1) = false := by rfl)
    (nb : starEach [(.Call (.Name "range" p) [a, b] [] pos : Expr)] X.env = (false, eval (.Call (.Name "range" p) [a, b] [] pos) X.env) :: starEach [] X.env := by rfl) :
    PE X (.Call (.Name "list" p2) [.Call (.Name "range" p) [a, b] [] pos] [] q) (tE X.K cl W (eLRng2 ea eb)) :=
  pe_imp (pe_fq (pe_listRg hc hl ml (prg_2 hg hm ha hb na nb2 np) nb)) fun σV H Q ⟨m, σ, h, H0, L, C, w⟩ => by
    have w : WP X.K cl (wx X.K cl W σV) m H (((ea σ h).bnd fun d h => (eb σ h).bnd fun e h => match d, e with
      | .int i, .int j => grd (okRng i && okRng j) (.ok (rng i (j - i).toNat) h)
      | _, _ => .no).bnd fun xs h => .ok (.lst xs) h) (Rt X.K cl Q) := w
    refine ⟨m, σ, h, H0, L, C, (WP.bnd (WP.bnd w)).imp fun d h1 m1 H1 e1 C1 w1 v r1 => ?_⟩
    refine ⟨m1, σ, h1, H0, L.up e1, C1, ?_⟩
    have w1' : WP X.K cl (wx X.K cl W σV) m1 H1 (eb σ h1) _ := WP.bnd w1
    refine w1'.imp fun d2 h2 m2 H2 e2 C2 w2 v2 r2 => ?_
    cases r1 <;> first | exact w2.elim | skip
    rename_i i
    cases r2 <;> first | exact w2.elim | skip
    rename_i j
    obtain ⟨c, w3⟩ := WP.grd w2
    rw [Bool.and_eq_true] at c
    obtain ⟨c1, c2⟩ := okRng_of c.1
    obtain ⟨c3, c4⟩ := okRng_of c.2
    refine ⟨i, j, rfl, rfl, ⟨by omega, by omega, by omega, by omega, by omega⟩, fun p n => ?_⟩
    have r := rng_rds (K := X.K) (cl := cl) (H := H2) (m := m2) (j - i).toNat i
    exact fq_new C2 r (WP.ok w3 C2) n
end
end IP

/-! What is looked at: classes of errors, tables of code objects. -/
namespace IP
open PySem PySem.Spec PyProof.Rows L2
/-! ### errors -/
theorem excCB_ok {K : PySem.W.Frag} {D : Addr} (h : excCB K D = true) : ExcC K D := by
  obtain ⟨h1, h⟩ := He.ba h
  obtain ⟨h2, h⟩ := He.ba h
  obtain ⟨h3, h⟩ := He.ba h
  obtain ⟨h4, h⟩ := He.ba h
  obtain ⟨h5, h⟩ := He.ba h
  obtain ⟨h6, h⟩ := He.ba h
  obtain ⟨h7, h8⟩ := He.ba h
  exact ⟨He.eqO_ok h1, He.eqO_ok h2, of_decide_eq_true h3, h4, He.eqO_ok h5, He.eqO_ok h6, of_decide_eq_true h7, of_decide_eq_true h8⟩
structure Errs (es : List Str) (base : Str) (K : PySem.W.Frag) : Prop where
  exc : ∀ i, i < es.length → ExcC K (He.ga K (eAt es i))
  exm : ∀ i, i < es.length → PySem.W.exmOne K (.ref (He.ga K (eAt es i))) (.ref (He.ga K base)) = some true
  val : ∀ i, i < es.length → PySem.W.kitOne K (.ref (He.ga K (eAt es i))) (.type "ValueError") = some true
  kit : ∀ i j, i < es.length → j < es.length → PySem.W.kitOne K (.ref (He.ga K (eAt es i))) (.ref (He.ga K (eAt es j))) = some (Nat.beq i j)
theorem errsB_ok {es : List Str} {base : Str} {K : PySem.W.Frag} (h : errsB es base K = true) : Errs es base K := by
  have h := List.all_eq_true.mp h
  have k : ∀ i, i < es.length → _ := fun i hi => h i (List.mem_range.mpr hi)
  refine ⟨fun i hi => excCB_ok (He.ba (k i hi)).1, fun i hi => of_decide_eq_true (He.ba (He.ba (k i hi)).2).1, fun i hi => of_decide_eq_true (He.ba (He.ba (He.ba (k i hi)).2).2).1, fun i j hi hj => ?_⟩
  have z := List.all_eq_true.mp (He.ba (He.ba (He.ba (k i hi)).2).2).2 j (List.mem_range.mpr hj)
  exact of_decide_eq_true z
def hot (n j : Nat) : List Bool := (List.range n).map fun i => Nat.beq i j
def allT (n : Nat) : List Bool := List.replicate n true
theorem hot_at {n j k : Nat} {b : Bool} (h : (hot n j)[k]? = some b) : k < n ∧ b = Nat.beq k j := by
  unfold hot at h
  rw [List.getElem?_map] at h
  by_cases hk : k < n
  · rw [List.getElem?_range hk] at h
    cases h
    exact ⟨hk, rfl⟩
  · rw [List.getElem?_eq_none (by simpa using hk)] at h
    cases h
theorem allT_at {n k : Nat} {b : Bool} (h : (allT n)[k]? = some b) : k < n ∧ b = true := by
  unfold allT at h
  rw [List.getElem?_replicate] at h
  split at h
  · rename_i hk
    cases h
    exact ⟨hk, rfl⟩
  · cases h
theorem Errs.hot {es : List Str} {base : Str} {K : PySem.W.Frag} (E : Errs es base K) {cv : Nat → Value} (hc : cv = fun c => .ref (He.ga K (eAt es c))) (j : Nat) (hj : j < es.length) {x : Str} (hx : eAt es j = x) : ∀ (k : Nat) (b : Bool), (IP.hot es.length j)[k]? = some b → ∀ D, cv k = .ref D → PySem.W.kitOne K (.ref D) (.ref (He.ga K x)) = some b := fun k b h D hD => by
  obtain ⟨hk, rfl⟩ := hot_at h
  subst hc hx
  cases hD
  exact E.kit k j hk hj
theorem Errs.allT {es : List Str} {base : Str} {K : PySem.W.Frag} (E : Errs es base K) {cv : Nat → Value} (hc : cv = fun c => .ref (He.ga K (eAt es c))) : ∀ (k : Nat) (b : Bool), (IP.allT es.length)[k]? = some b → ∀ D, cv k = .ref D → PySem.W.kitOne K (.ref D) (.type "ValueError") = some b := fun k b h D hD => by
  obtain ⟨hk, rfl⟩ := allT_at h
  subst hc
  cases hD
  exact E.val k hk
/-- the names of the kinds -/
def nmOf (es : List Str) (c : Nat) : Option Str := if c < es.length then some (eAt es c) else none
/-! ### tables -/
def lamN (x : Str) : Str := x ++ ".<locals>." ++ "<lambda>"
structure TabsK (ds : List Str) (K : PySem.W.Frag) : Prop where
  at_ : ∀ x ∈ ds, PySem.W.tabIn K x = some (tabC K x, tabP K x)
  no : ∀ x ∈ ds, K.lookup (tabP K x) = none
  nd : (ds.map (tabP K)).Nodup
theorem tabsB_ok {ds : List Str} {K : PySem.W.Frag} (h : tabsB ds K = true) : TabsK ds K := by
  obtain ⟨h1, h2⟩ := He.ba h
  have h1 := List.all_eq_true.mp h1
  refine ⟨fun x hx => ?_, fun x hx => ?_, of_decide_eq_true h2⟩
  · have q := (He.ba (h1 x hx)).1
    unfold tabC tabP
    cases e : PySem.W.tabIn K x with
    | none => rw [e] at q; cases q
    | some p => rfl
  · have q := (He.ba (h1 x hx)).2
    cases e : K.lookup (tabP K x) with
    | none => rfl
    | some o => rw [e] at q; cases q
def csOf (ds : List Str) (K : PySem.W.Frag) : List (Addr × Addr) := ds.map fun x => (tabC K x, tabP K x)
def tabsOf (ds : List Str) (K : PySem.W.Frag) : List (Addr × Str) := ds.map fun x => (tabP K x, lamN x)
theorem TabsK.uniq {ds : List Str} {K : PySem.W.Frag} (T : TabsK ds K) {x : Str} (hx : x ∈ ds) : ∀ z ∈ tabsOf ds K, z.1 = tabP K x → z.2 = lamN x := fun z hz e => by
  obtain ⟨y, hy, rfl⟩ := List.mem_map.mp hz
  have e : tabP K y = tabP K x := e
  have : y = x := by
    obtain ⟨i, hi, e1⟩ := List.getElem_of_mem hx
    obtain ⟨j, hj, e2⟩ := List.getElem_of_mem hy
    have hi' : i < (ds.map (tabP K)).length := by simpa using hi
    have hj' : j < (ds.map (tabP K)).length := by simpa using hj
    have q : (ds.map (tabP K))[j] = (ds.map (tabP K))[i] := by simp [e1, e2, e]
    have ij := (List.getElem_inj T.nd).mp q
    subst ij
    rw [← e1, ← e2]
  rw [this]
theorem tabs_mem {ds : List Str} {K : PySem.W.Frag} {x : Str} (hx : x ∈ ds) : (tabP K x, lamN x) ∈ tabsOf ds K := List.mem_map.mpr ⟨x, hx, rfl⟩
theorem cs_mem {ds : List Str} {K : PySem.W.Frag} {x : Str} (hx : x ∈ ds) : (tabC K x, tabP K x) ∈ csOf ds K := List.mem_map.mpr ⟨x, hx, rfl⟩
/-- a def's code object -/
theorem TabsK.code {ds : List Str} {K : PySem.W.Frag} (T : TabsK ds K) {x qual : Str} {params : Arguments} {body : List Stmt} {scope : Scope} {dvs : List V} {kws : List (Str × V)} {fd : FuncData} (hx : x ∈ ds) (F : FunD K x qual params body scope dvs kws (He.ga K x) fd) (hn : PySem.W.nsIn K mainGlobals x = some (some (.ref (He.ga K x)))) : fd.code = .ref (tabC K x) := by
  obtain ⟨oc, od, dV, kV, doc, pm, an, cdv, ct, osl, rfl, lk, _, _, _⟩ := F.ex
  have e := T.at_ x hx
  unfold PySem.W.tabIn at e
  rw [hn] at e
  simp only [lk] at e
  split at e
  · rename_i c hc _
    split at e
    · split at e
      · cases e
        first
          | exact hc
          | rfl
      · cases e
    · cases e
  · cases e
/-! ### the draws' results in place of the draws -/
structure Way where
  ns : List Int
  t : List (Int × Int × Int)
  ok : ∀ k m c, (k, m, c) ∈ t → ∀ h, fPick [scr ns, .int k, .int m] h = .ok (.int c) h
theorem stub_any {t : List (Int × Int × Int)} {ds : List D} {h : Hp} (n : ∀ xs r, ds ≠ .scr xs :: r) : stub t ds h = fPick ds h := by
  unfold stub
  split
  · rename_i xs k m
    exact absurd rfl (n xs _)
  · rfl
section
variable {P : Program} {w : World} {K : PySem.W.Frag} {mg : Str → Option Value} {base : Heap} {cl : Cl}
theorem ok_stub {CX : CXT} {k : Nat} {fa : Addr} {fd : FuncData} {ps : List Str} (W : Way) (hs : cl.scr = some (W.ns.map D.int)) (F : FnOk P w K mg base CX k fa fd ps (spI K cl 3 fPick)) : FnOk P w K mg base CX k fa fd ps (spI K cl 3 (stub W.t)) := by
  have conv : ∀ vs H Q E, spI K cl 3 (stub W.t) vs H Q E → spI K cl 3 fPick vs H Q E := fun vs H Q E ⟨m, h, ds, C, r, l, z⟩ => by
    refine ⟨m, h, ds, C, r, l, ?_⟩
    have e : stub W.t ds h = fPick ds h := by
      match ds, r with
      | [], _ => exact stub_any fun xs r z => by cases z
      | d :: ds, r =>
        by_cases hd : ∃ xs, d = .scr xs
        · obtain ⟨xs, rfl⟩ := hd
          cases r with
          | cons a r =>
            cases a with
            | scr q r2 s =>
              have e := s _ hs
              subst e
              exact stub_eq W.ok ds h
        · exact stub_any fun xs r z => hd ⟨xs, by cases z; rfl⟩
    rw [← e]
    exact z
  exact ⟨fun vs H Q E q => F.len vs H Q E (conv vs H Q E q), fun A outer s H args us vs Q E hr he hb hv q => F.run A outer s H args us vs Q E hr he hb hv (conv vs H Q E q)⟩
end
/-- the law, at the top's end -/
theorem lawAtS {ι : Type} {l : PySem.W.OpenLaw} {w : World} {K : PySem.W.Frag} {k : Nat} {x : Str} {mg mb : Str → Option Value} {mean : ExcName → Option Value} {fa : Addr} {h : Heap} {q : Program} {loose ds : List Str} {fd : FuncData} {cl : ι → Cl} {f : ι → Fn} (T : PyProof.Rows.Top q loose mean mg mb h) (KX : K.In h) (DT : TabsK ds K)
    (hr : (ds.all fun x => ((recsOf q).find? fun e => e.name == x).isSome) = true) (ht : ∀ i, (cl i).tabs = tabsOf ds K) (hb : ∀ (s : Shared) (u : Value), BindsTo s fd ⟨[u], []⟩ [(x, u)]) (yes : ∀ ns : List Int, ns.length ≤ 63 → ∃ i, ScrOk (cl i) (ns.map D.int) ∧ ∃ h', f i [.scr (ns.map D.int)] h0 = .ok (.bl true) h')
    (F : ∀ i, ∀ base : Heap, K.In base → base.Ns mainGlobals mg → (∀ p ∈ csOf ds K, LamX.TabB base mg p.1 p.2) → FnOk l.prog w K mg base CX0 k fa fd [x] (fun vs H Q _ => spL K (cl i) (f i) vs H Q E0)) : LamX.LawAtS l w K CX0 k 63 x mg fa h := by
  have hr := List.all_eq_true.mp hr
  have one : ∀ y ∈ ds, PySem.W.CodeHd h (tabC K y) (tabP K y) ∧ h.get? (tabP K y) = some (PySem.W.tabObj #[]) := fun y hy => by
    obtain ⟨d, hd⟩ := Option.isSome_iff_exists.mp (hr y hy)
    exact PySem.W.tab_of T KX hd (DT.at_ y hy)
  refine ⟨fd, csOf ds K, fun vs H Q _ => ∃ i, spL K (cl i) (f i) vs H Q E0, fun p hp => ?_, fun p hp => ?_, fun p hp => ?_, hb, fun H a ns hl _ hH hS => ?_, fun base b1 b2 b3 => ?_⟩
  · obtain ⟨y, hy, rfl⟩ := List.mem_map.mp hp
    exact (one y hy).2
  · obtain ⟨y, hy, rfl⟩ := List.mem_map.mp hp
    exact DT.no y hy
  · obtain ⟨y, hy, rfl⟩ := List.mem_map.mp hp
    exact (one y hy).1
  · obtain ⟨i, so, hy⟩ := yes ns hl
    refine ⟨i, law_yesT ?_ so hS hy⟩
    rw [ht]
    intro p hp
    obtain ⟨y, hy, rfl⟩ := List.mem_map.mp hp
    exact LamX.TabS.nil (hH _ (cs_mem hy))
  · exact ⟨fun vs H Q E ⟨i, q⟩ => (F i base b1 b2 b3).len vs H Q E q, fun A outer s H args us vs Q E hr he hb hv ⟨i, q⟩ => (F i base b1 b2 b3).run A outer s H args us vs Q E hr he hb hv q⟩
end IP

/-! x in xs where all are instances of one class that has no == of its own. -/
namespace IP
open PySem PySem.Spec PyProof.Rows L2
noncomputable section
/-- an instance of class c -/
def insAt (c : Nat) (h : Hp) : D → Option (Nat × Nat)
  | .ref k n => (match h.get k n with
    | some (.ins c' _) => if Nat.beq c' c then some (k, n) else none
    | _ => none)
  | _ => none
def inInsL (c : Nat) (h : Hp) (p : Nat × Nat) : List D → Option Bool
  | [] => some false
  | d :: r => (match insAt c h d with
    | some q => (match inInsL c h p r with
      | some b => some ((Nat.beq q.1 p.1 && Nat.beq q.2 p.2) || b)
      | none => none)
    | none => none)
def fInI (c : Nat) : D → D → Hp → R D := fun x y h => match y with
  | .lst xs => opt (insAt c h x) fun p => opt (inInsL c h p xs) fun b => .ok (.bl b) h
  | _ => .no
def fNotInI (c : Nat) : D → D → Hp → R D := fun x y h => (fInI c x y h).bnd notR
end
section
variable {prog : Program} {w : World} {A : Around} {E : Value → Shared → Prop} {s : Shared} {K : PySem.W.Frag} {x y C : Addr} {ox oy : Obj} {od od' : Option Obj}
theorem call_otherI {Q : Value → Shared → Prop} (X : K.In s.heap) (I : PySem.W.InstAt s.heap x ox C od) (J : PySem.W.InstAt s.heap y oy C od') (hxy : x ≠ y) (hm : PySem.W.mroIn K C (.type "object") = some true) (hq : Q .notImplemented s) :
    wpAny (model prog w) A (call (.builtin "object.__eq__") [.ref x, .ref y]) Q E s :=
  wpAny_call (codeAny_call_builtin F.cmp_object.eq.plain F.cmpEntry_eq (PySem.W.check_slot F.cmpKind_eq F.cmpSplit_eq (I.type.andThen (PySem.W.looks_mroIn X hm)) (F.cmpArgs_eq _ _) (objEq_entry_other hxy I.at_ J.at_ (by rw [I.cls]; nofun) hq)))
theorem declI (X : K.In s.heap) (I : PySem.W.InstAt s.heap x ox C od) (J : PySem.W.InstAt s.heap y oy C od') (hxy : x ≠ y) (hm : PySem.W.mroIn K C (.type "object") = some true) (hs : PySem.W.findIn K (.ref C) "__eq__" = some (some (.builtin "object.__eq__"))) :
    wpAny (model prog w) A (tryCompare (.ref x) "__eq__" (.ref y)) (fun r s' => r = none ∧ s' = s) E s := by
  unfold tryCompare
  exact wpAny_bind (HN.ifBound_objEq X I hs (call_otherI X I J hxy hm (wpAny_pure ⟨rfl, rfl⟩)))
theorem rc_otherI (hu : A.units < cLine) (X : K.In s.heap) (I : PySem.W.InstAt s.heap x ox C od) (J : PySem.W.InstAt s.heap y oy C od') (hxy : x ≠ y) (hm : PySem.W.mroIn K C (.type "object") = some true) (hs : PySem.W.findIn K (.ref C) "__eq__" = some (some (.builtin "object.__eq__"))) :
    SeqAt.RcAt A s (.ref x) (.ref y) false := fun prog w E Q h => by
  simp only [richCompare, cmpInfo_Eq, oneThing_ref]
  refine wpAny_holding (wpAny_bind (wpAny_cRoomFor hu ?_))
  refine wpAny_bind (I.type.here ?_)
  refine wpAny_bind (J.type.here ?_)
  split
  · rename_i q
    exact absurd q (by simp)
  · refine wpAny_bind (wpAny_pure ?_)
    simp only [Bool.false_eq_true, if_false, Bool.not_false, if_true]
    refine wpAny_bind (m := tryCompare (.ref x) _ (.ref y)) (wpAny_mono (declI X I J hxy hm hs) (fun r s1 z => ?_) fun _ _ e => e)
    obtain ⟨z1, z2⟩ := z
    subst z1
    subst z2
    refine wpAny_bind (m := tryCompare (.ref y) _ (.ref x)) (wpAny_mono (declI X J I hxy.symm hm hs) (fun r s2 z => ?_) fun _ _ e => e)
    obtain ⟨z1, z2⟩ := z
    subst z1
    subst z2
    exact wpAny_bind (wpAny_rule (wpAny_bind (wpAny_isSame_ref_other hxy I.at_ J.at_ (by rw [I.cls]; nofun) (wpAny_pure h))))
/-- is it this one -/
def isRefV (a : Addr) : Value → Bool
  | .ref b => decide (b = a)
  | _ => false
theorem eqAt_I (hu : A.units < cLine) (X : K.In s.heap) (I : PySem.W.InstAt s.heap x ox C od) (J : PySem.W.InstAt s.heap y oy C od') (hm : PySem.W.mroIn K C (.type "object") = some true) (hs : PySem.W.findIn K (.ref C) "__eq__" = some (some (.builtin "object.__eq__"))) :
    SeqAt.EqAt A s (.ref x) (.ref y) (isRefV y (.ref x)) := by
  by_cases hxy : x = y
  · subst hxy
    rw [show isRefV x (.ref x) = true from decide_eq_true rfl]
    exact SeqAt.EqAt.same _
  · rw [show isRefV y (.ref x) = false from decide_eq_false hxy]
    exact fun prog w E Q h => by
      unfold eqBool
      refine wpAny_holding ?_
      refine wpAny_ite_split (fun hab => absurd (by simpa using hab) hxy) (fun _ => ?_)
      exact wpAny_bind (rc_otherI hu X I J hxy hm hs prog w E _ (wpAny_truthy_bool h))
end
/-- an instance of the class at C -/
def InsV (H : L2.Hp) (C : Addr) (z : V) : Prop := ∃ a dx fs, z = .ref a ∧ H a = some (.ins C dx fs)
def isRef (a : Addr) : V → Bool
  | .ref b => decide (b = a)
  | _ => false
/-- what a class without an == of its own shows -/
structure NoEq (K : PySem.W.Frag) (C : Addr) : Prop where
  mro : PySem.W.mroIn K C (.type "object") = some true
  eq : PySem.W.findIn K (.ref C) "__eq__" = some (some (.builtin "object.__eq__"))
def rInI (C : Addr) (K : PySem.W.Frag) (neg : Bool) : R2 := fun x y H Q => ∃ a p xs, x = .ref a ∧ y = .ref p ∧ SqL K H p xs ∧ InsV H C (.ref a) ∧ (∀ z ∈ xs, InsV H C z) ∧ Q (.bl (if neg then !xs.any (isRef a) else xs.any (isRef a))) H
section
variable {X : Cx} {C : Addr}
theorem any_isRef {a : Addr} : ∀ {xs : List V} {us : List Value}, Vals xs us → (∀ z ∈ xs, ∃ b, z = V.ref b) → us.any (isRefV a) = xs.any (isRef a)
  | _, _, .nil, _ => rfl
  | y :: xs, u :: us, .cons r t, f => by
    obtain ⟨b, rfl⟩ := f y (List.mem_cons_self ..)
    cases r
    rw [List.any_cons, List.any_cons, any_isRef t fun z hz => f z (List.mem_cons_of_mem _ hz)]
    rfl
theorem ins_inst {pins : List (Addr × Obj)} {σ : L2.St} {H : L2.Hp} {s : Shared} {a : Addr} (I : Inv X pins σ H s) (i : InsV H C (.ref a)) : ∃ ox od, PySem.W.InstAt s.heap a ox C od := by
  obtain ⟨b, dx, fs, e, ha⟩ := i
  cases e
  obtain ⟨mA, O, _⟩ := ins_get I.hok ha
  obtain ⟨od, J, _⟩ := O.look
  exact ⟨_, _, J⟩
theorem mem_I {A : Around} {pins : List (Addr × Obj)} {σ : L2.St} {H : L2.Hp} {s : Shared} {a : Addr} (I : Inv X pins σ H s) (hu : A.units < cLine) (n : NoEq X.K C) (ia : InsV H C (.ref a)) : ∀ {xs : List V} {us : List Value}, Vals xs us → (∀ z ∈ xs, InsV H C z) → ∀ u ∈ us, SeqAt.EqAt A s u (.ref a) (isRefV a u)
  | _, _, .nil, _ => fun u hu' => by cases hu'
  | y :: xs, u :: us, .cons r t, f => fun u' hu' => by
    rcases List.mem_cons.mp hu' with e | hu'
    · subst e
      obtain ⟨b, dx, fs, rfl, hb⟩ := f y (List.mem_cons_self ..)
      cases r
      obtain ⟨ox, od, J⟩ := ins_inst I ia
      obtain ⟨oy, od', J'⟩ := ins_inst (a := b) I ⟨b, dx, fs, rfl, hb⟩
      exact eqAt_I hu I.kIn J' J n.mro n.eq
    · exact mem_I I hu n ia t (fun z hz => f z (List.mem_cons_of_mem _ hz)) u' hu'
theorem op_inI (hu : X.A.units + 65 < cLine) (n : NoEq X.K C) : OpR X (compareOp .In) (rInI C X.K false) := by
  intro pins s σ H x y v u Q I rx ry h
  obtain ⟨a, p, xs, rfl, rfl, hq, ia, f, q⟩ := h
  cases rx
  cases ry
  obtain ⟨its, rv, hl, _⟩ := I.list hq
  have hu1 : X.A.in1.units < cLine := by show X.A.units + 1 < cLine; omega
  refine SeqAt.in_listAt (isRefV a) hl.isList (fun z hz => mem_I I hu1 n ia rv f z (by simpa using hz)) ⟨.bl _, H, I, rfl, ?_⟩
  rw [show its.toArray.any (isRefV a) = its.any (isRefV a) by simp, any_isRef rv fun z hz => let ⟨b, _, _, e, _⟩ := f z hz; ⟨b, e⟩]
  exact q
theorem op_notInI (hu : X.A.units + 65 < cLine) (n : NoEq X.K C) : OpR X (compareOp .NotIn) (rInI C X.K true) := by
  intro pins s σ H x y v u Q I rx ry h
  obtain ⟨a, p, xs, rfl, rfl, hq, ia, f, q⟩ := h
  cases rx
  cases ry
  obtain ⟨its, rv, hl, _⟩ := I.list hq
  have hu1 : X.A.in1.units < cLine := by show X.A.units + 1 < cLine; omega
  refine SeqAt.notIn_listAt (isRefV a) hl.isList (fun z hz => mem_I I hu1 n ia rv f z (by simpa using hz)) ⟨.bl _, H, I, rfl, ?_⟩
  rw [show its.toArray.any (isRefV a) = its.any (isRefV a) by simp, any_isRef rv fun z hz => let ⟨b, _, _, e, _⟩ := f z hz; ⟨b, e⟩]
  exact q
end
section
variable {K : PySem.W.Frag} {cl : Cl} {m : Mp} {h : Hp} {H : L2.Hp} {c : Nat}
theorem insAt_of {d : D} {v : V} {q : Nat × Nat} (C : Hc K cl m h H) (r : RD K cl H m d v) (e : insAt c h d = some q) : ∃ a, v = .ref a ∧ m q.1 q.2 = some a ∧ InsV H (cl.adr c) (.ref a) := by
  cases r <;> first | (cases e; done) | skip
  rename_i k n a hm
  unfold insAt at e
  cases z : h.get k n with
  | none => simp only [z] at e; cases e
  | some ob =>
    simp only [z] at e
    match ob, e with
    | .ins c' fs, e =>
      have e : (if Nat.beq c' c = true then some (k, n) else none) = some q := e
      by_cases hc : Nat.beq c' c = true
      · rw [if_pos hc] at e
        cases e
        obtain rfl := Nat.eq_of_beq_eq_true hc
        obtain ⟨dx, fv, ha, _⟩ := C.obj k n _ a z hm
        exact ⟨a, rfl, hm, a, dx, fv, rfl, ha⟩
      · rw [if_neg hc] at e
        cases e
theorem inInsL_of {p : Nat × Nat} {a : Addr} (C : Hc K cl m h H) (hp : m p.1 p.2 = some a) : ∀ {xs : List D} {vs : List V} {b : Bool}, RDs K cl H m xs vs → inInsL c h p xs = some b → (∀ z ∈ vs, InsV H (cl.adr c) z) ∧ vs.any (isRef a) = b
  | _, _, b, .nil, e => by
    cases e
    exact ⟨fun z hz => (by cases hz), rfl⟩
  | d :: xs, v :: vs, b, .cons r t, e => by
    unfold inInsL at e
    cases e1 : insAt c h d with
    | none => simp only [e1] at e; cases e
    | some q =>
      simp only [e1] at e
      cases e2 : inInsL c h p xs with
      | none => simp only [e2] at e; cases e
      | some b' =>
        simp only [e2] at e
        cases e
        obtain ⟨a', rfl, hq, iv⟩ := insAt_of C r e1
        obtain ⟨f, g⟩ := inInsL_of C hp t e2
        refine ⟨fun z hz => ?_, ?_⟩
        · rcases List.mem_cons.mp hz with rfl | hz
          · exact iv
          · exact f z hz
        · rw [List.any_cons, g]
          congr 1
          show decide (a' = a) = _
          rw [Bool.eq_iff_iff, decide_eq_true_iff, Bool.and_eq_true, Nat.beq_eq, Nat.beq_eq]
          constructor
          · rintro rfl
            exact C.inj _ _ _ _ _ hq hp
          · rintro ⟨z1, z2⟩
            rw [z1, z2, hp] at hq
            cases hq
            rfl
theorem inI_cases {x y : D} {v u : V} {E : XW} (C : Hc K cl m h H) (rx : RD K cl H m x v) (ry : RD K cl H m y u) (post : D → Hp → Mp → L2.Hp → Prop) (w : WP K cl E m H (fInI c x y h) post) :
    ∃ b, post (.bl b) h m H ∧ ((∀ Q, Q (.bl b) H → rInI (cl.adr c) K false v u H Q) ∧ (∀ Q, Q (.bl (!b)) H → rInI (cl.adr c) K true v u H Q)) := by
  cases ry <;> first | (exact w.elim) | skip
  rename_i a o xs vs q r
  obtain ⟨p, e, w⟩ := WP.opt w
  obtain ⟨b, e2, w⟩ := WP.opt w
  obtain ⟨a', rfl, hp, iv⟩ := insAt_of C rx e
  obtain ⟨f, g⟩ := inInsL_of C hp r e2
  have L : SqL K H a vs := .inl (.inr ⟨o, q⟩)
  refine ⟨b, WP.ok w C, fun Q z => ⟨a', a, vs, rfl, rfl, L, iv, f, ?_⟩, fun Q z => ⟨a', a, vs, rfl, rfl, L, iv, f, ?_⟩⟩
  · rw [g]; exact z
  · rw [g]; exact z
theorem ops_inI : OpS K cl (fInI c) (rInI (cl.adr c) K false) := fun x y v u E m h H Q C rx ry w => by
  obtain ⟨b, p, i, _⟩ := inI_cases C rx ry _ w
  exact i Q (p _ (.bl b))
theorem ops_notInI : OpS K cl (fNotInI c) (rInI (cl.adr c) K true) := fun x y v u E m h H Q C rx ry w => by
  have w1 : WP K cl E m H ((fInI c x y h).bnd notR) (Rt K cl Q) := w
  obtain ⟨b, p, _, i⟩ := inI_cases C rx ry _ w1.bnd
  exact i Q (WP.ok (a := D.bl (!b)) (h := h) p C _ (.bl _))
end
end IP

/-! d.values(), whatever the keys; x[i] read twice. -/
namespace IP
open PySem PySem.Spec PyProof.Rows L2
/-- the values of a dict whose keys are tuples -/
def Itdt (d : Addr) (o : Obj) (kvs : List (List Key × V)) : It :=
  ⟨fun i H => H d = some (.frz o (.dT kvs)) ∧ i < kvs.length, fun i H x H' => H' = H ∧ ∃ k, kvs[i]? = some (k, x), fun i H => H d = some (.frz o (.dT kvs)) ∧ kvs.length ≤ i⟩
theorem frzTV {X : Cx} {pins : List (Addr × Obj)} {σ : L2.St} {H : L2.Hp} {s : Shared} {d : Addr} {o : Obj} {kvs : List (List Key × V)} (I : Inv X pins σ H s) (h : H d = some (.frz o (.dT kvs))) :
    (d == sysModules) = false ∧ s.heap.get? d = some o ∧ o.ExactDict ∧ ∃ (es : Array DictEntry) (ep : Nat), o.data = .dict es ep ∧ es.size = kvs.length ∧
      ∀ (i : Nat) (k : List Key) (v : V), kvs[i]? = some (k, v) → ∃ (en : DictEntry), es[i]? = some en ∧ RelV v en.val := by
  obtain ⟨hd, z, hs, xs, pr, o', es, ep, ho, hx, hdt, he, _⟩ := I.hok d _ h
  rw [hd] at ho
  cases ho
  have l1 : es.size = xs.length := size_of_entries he
  have l2 : kvs.length = xs.length := Paired.length pr
  refine ⟨hs, hd, hx, es, ep, hdt, by omega, fun i k v e => ?_⟩
  obtain ⟨b, hb, e1, _, e2⟩ := paired_get pr e
  have hi : i < es.size := by
    have := (List.getElem?_eq_some_iff.mp e).1
    omega
  have en := entry_at he i
  rw [hb, Array.getElem?_eq_getElem hi] at en
  have en' := Option.some.inj en
  refine ⟨es[i], Array.getElem?_eq_getElem hi, ?_⟩
  rw [en']
  exact e2
section
variable {P : Program} {w : World} {K : PySem.W.Frag} {tg : Expr} {d : Addr} {o : Obj} {es : Array DictEntry} {ep : Nat}
theorem turn_valsT {kvs : List (List Key × V)} (it : Addr) (hod : o.data = .dict es ep) : Turn P w K tg (Itdt d o kvs) [it] it (fun i h => h.IsValIter it d i kvs.length ep) where
  mem := by simp
  obj := fun i h st b hb => by
    have e : b = it := by simpa using hb
    subst e
    obtain ⟨oi, e, c, dd⟩ := st
    exact ⟨oi, e, fun v z => by rw [dd] at z; cases z⟩
  keep := fun i h h' st k => st.at fun oi e => k it (by simp) oi e
  item := by
    intro X hP hw hK hc i pins s σ H E I hf st hg
    subst hP hw hK
    obtain ⟨hd, hi⟩ := hg
    obtain ⟨f0, f1, f2, f3, f4, f5⟩ := hf it (by simp)
    obtain ⟨hs, hgd, hx, es', ep', hdt, hsz, ent⟩ := frzTV I hd
    obtain ⟨rfl, rfl⟩ := dict_ep hod hdt
    obtain ⟨⟨k, v⟩, hkv⟩ : ∃ p, kvs[i]? = some p := ⟨kvs[i], List.getElem?_eq_getElem hi⟩
    obtain ⟨en, hen, rv⟩ := ent i k v hkv
    have hlt : i < es'.size := by omega
    rw [Array.getElem?_eq_getElem hlt] at hen
    cases hen
    rw [← hsz] at st
    refine wpAny_pyNext_values_item_raw st ⟨o, hgd, hx, hdt⟩ hlt fun h' st' sb => ?_
    have I1 : Inv X pins σ H { s with heap := h' } := I.turned (t' := s.toks) (fun b ob hb e => (sb.2 b hb).trans e) f0 f1 f3 f4 f5
    obtain ⟨oi, e, c, dd⟩ := id st'
    refine ⟨es'[i].val, rfl, go_of (s := { s with heap := h' }) e c dd (by decide) ⟨v, H, I1, rv, ⟨rfl, k, hkv⟩, ?_, fun b hb => (hf b hb).1⟩⟩
    show h'.IsValIter it d (i + 1) kvs.length _
    rw [← hsz]
    exact st'
  done := by
    intro X hP hw hK hc i pins s σ H E I hf st hg
    subst hP hw hK
    obtain ⟨hd, hi⟩ := hg
    obtain ⟨f0, f1, f2, f3, f4, f5⟩ := hf it (by simp)
    obtain ⟨hs, hgd, hx, es', ep', hdt, hsz, ent⟩ := frzTV I hd
    obtain ⟨rfl, rfl⟩ := dict_ep hod hdt
    rw [← hsz] at st
    exact wpAny_pyNext_values_end_raw (I.ok.hd hc) st ⟨o, hgd, hx, hdt⟩ (by omega) fun h' eb => ⟨rfl, I.turned (t' := s.toks) (fun b ob hb e => eb b ob hb e) f0 f1 f3 f4 f5⟩
  self := fun A i s Q E st h => wpAny_pyIter_valiter st h
end
section
variable {X : Cx} {tg e : Expr} {td : TE} {apos cpos : Pos}
def iValsA (td : TE) : TI := fun σ H R => td σ H fun x H1 => ∃ d o, x = .ref d ∧ ((∃ kvs, H1 d = some (.frz o (.dK kvs)) ∧ R (Itd d o kvs) H1) ∨ ∃ kvs, H1 d = some (.frz o (.dT kvs)) ∧ R (Itdt d o kvs) H1)
theorem pi_valuesA (he : PE X e td) (hbase : attributeBase e "values" X.env (eval e X.env) = eval e X.env := by rfl) (hline : (apos.endLine == cpos.line) = true := by rfl) : PI X tg (.Call (.Attribute e "values" apos) [] [] cpos) (iValsA td) := by
  refine ⟨fun pins s σ H R I h => ?_⟩
  refine wpAny_Call_method (T := "dict") (id := "dict.values") hbase rfl hline F.plainAttrs_dict F.slot_dict_values F.type_dict_values (thn (he.run pins s σ H _ I h) fun u s1 ⟨x, H1, I1, rx, d, o, ex, q⟩ => ?_)
  subst ex
  obtain rfl : u = Value.ref d := rx
  rcases q with ⟨kvs, hd, q⟩ | ⟨kvs, hd, q⟩
  · obtain ⟨hs, hgd, hx, es, ep, vs, hdt, hsz, kv, hm⟩ := I1.frzK hd
    have hl : kvs.length = vs.length := Paired.length kv
    refine ⟨hm.dictOf.typeIs, hm.dictOf.mapOf.noDict, ?_⟩
    have I2 : Inv X pins σ H1 { s1 with heap := s1.heap.push { cls := .type "dict_values", data := .fields #[.ref d] } } := I1.kept (t' := s1.toks) fun b ob q => Heap.get?_push_of_some _ q
    have fin : wpAny (model X.prog X.w) X.A (pyIter (.ref s1.heap.objs.size)) (PIE X pins σ tg R) X.xe { s1 with heap := s1.heap.push { cls := .type "dict_values", data := .fields #[.ref d] } } := by
      refine wpAny_pyIter_values (d := d) (knd := mixKind X.prog X.w) ⟨_, Heap.get?_push_size _ rfl, rfl, rfl⟩ (hm.push _) (pi_one (tk := s1.toks) I2 _ (turn_vals _ hdt) ⟨_, Heap.get?_push_size _ rfl, rfl, ?_⟩ q)
      rw [hl] <;> rfl
    show wpAny _ _ (callWith cpos (.builtin "dict.values") [.ref d] [] []) _ X.xe s1
    exact method_meetsIn F.slot_dict_values F.entry_dict_values rfl (PySem.evalArgs_none ⟨rfl, hm.dictOf.typeIs, F.args_dict_values_1 _, _, meets_dict_values (mixKind X.prog X.w) d hs, ⟨vs, hm.dictOf⟩, fin⟩)
  · obtain ⟨hs, hgd, hx, es, ep, hdt, hsz, ent⟩ := frzTV I1 hd
    have hm : s1.heap.DictRaw d es ep := ⟨o, hgd, hx, hdt⟩
    refine ⟨hm.typeIs, fun b q => ?_, ?_⟩
    · cases q
      exact ⟨o, hgd, hx.2.1⟩
    have I2 : Inv X pins σ H1 { s1 with heap := s1.heap.push { cls := .type "dict_values", data := .fields #[.ref d] } } := I1.kept (t' := s1.toks) fun b ob q => Heap.get?_push_of_some _ q
    have fin : wpAny (model X.prog X.w) X.A (pyIter (.ref s1.heap.objs.size)) (PIE X pins σ tg R) X.xe { s1 with heap := s1.heap.push { cls := .type "dict_values", data := .fields #[.ref d] } } := by
      refine wpAny_pyIter_values_raw (d := d) ⟨_, Heap.get?_push_size _ rfl, rfl, rfl⟩ (hm.at fun o e => Heap.get?_push_of_some _ e) (pi_one (tk := s1.toks) I2 _ (turn_valsT _ hdt) ⟨_, Heap.get?_push_size _ rfl, rfl, ?_⟩ q)
      rw [hsz] <;> rfl
    show wpAny _ _ (callWith cpos (.builtin "dict.values") [.ref d] [] []) _ X.xe s1
    exact method_meetsIn F.slot_dict_values F.entry_dict_values rfl (PySem.evalArgs_none ⟨rfl, hm.typeIs, F.args_dict_values_1 _, _, meets_dict_values_raw d hs, ⟨_, _, hm⟩, fin⟩)
end
theorem pi_ofA {X : Cx} {tg e : Expr} {t t' : TI} (p : PI X tg e t) (i : ∀ σ H R, t' σ H R → t σ H R) : PI X tg e t' := pi_imp p i
section
variable {K : PySem.W.Frag} {cl : Cl} {m : Mp} {H : L2.Hp} {a : Addr}
theorem wk_valsT {o : Obj} {rows : List (D × D)} {kvs : List (List Key × V)} (q : H a = some (.frz o (.dT kvs))) (r : RTs K cl H m rows kvs) : Wk K cl (Itdt a o kvs) m (rows.map Prod.snd) H :=
  wk_at (n := kvs.length) (G := fun H => H a = some (.frz o (.dT kvs))) (Y := fun i H x H' => H' = H ∧ ∃ k, kvs[i]? = some (k, x)) ⟨fun _ _ hi q => ⟨q, hi⟩, fun _ q => ⟨q, Nat.le_refl _⟩, fun _ _ _ _ _ _ y => y⟩ (by rw [List.length_map]; exact r.length) (fun m' H' e => e.frz _ _ _ q) fun i x m' H1 v H' e hx y => by
    obtain ⟨rfl, k, e1⟩ := y
    refine ⟨Ext.refl, fun _ c => c, ?_⟩
    have key : ∀ {rows : List (D × D)} {kvs : List (List Key × V)} {i : Nat}, RTs K cl H m rows kvs → kvs[i]? = some (k, v) → (rows.map Prod.snd)[i]? = some x → RD K cl H m x v := by
      intro rows
      induction rows with
      | nil => intro kvs i _ _ h; simp at h
      | cons p rows ih =>
        intro kvs i r h1 h2
        cases r with
        | cons a r =>
          cases i with
          | zero =>
            simp at h1 h2
            obtain ⟨_, rfl⟩ := h1
            subst h2
            exact a
          | succ i => exact ih r (by simpa using h1) (by simpa using h2)
    exact (key r e1 hx).upI e.imm
end
section
variable {X : Cx} {cl : Cl} {W : WX} {apos cpos : Pos}
/-- .. of a dict of ours that is locked -/
theorem sni_vals {tg e : Expr} {ee : E} (ha : PE X e (tE X.K cl W ee)) (hbase : attributeBase e "values" X.env (eval e X.env) = eval e X.env := by rfl) (hline : (apos.endLine == cpos.line) = true := by rfl) : PI X tg (.Call (.Attribute e "values" apos) [] [] cpos) (tI X.K cl W (iLk true ee)) :=
  pi_imp (pi_valuesA ha hbase hline) fun σV H Rj ⟨m, σ, h, H0, L, C, w⟩ => tE.use L C w fun d h1 m1 H1 v e1 L1 C1 r1 w1 => by
    cases r1 <;> first | (exact w1.elim) | skip
    rename_i k n a hm
    have w1 : WP X.K cl (wx X.K cl W σV) m1 H1 (match h1.get k n with
      | some (.dct _ true rows) => .ok (if true then rows.map Prod.snd else rows.map Prod.fst) h1
      | _ => .no) _ := w1
    cases q : h1.get k n with
    | none => rw [q] at w1; exact w1.elim
    | some ob =>
      rw [q] at w1
      match ob, q, w1 with
      | .dct t true rows, q, w1 =>
        obtain ⟨od, ⟨rfl, kvs, z, r⟩ | ⟨rfl, kvs, z, r⟩⟩ := lkd_of C1 hm q
        · exact ⟨a, od, rfl, .inl ⟨kvs, z, WP.ok w1 C1 _ (wk_vals z r)⟩⟩
        · exact ⟨a, od, rfl, .inr ⟨kvs, z, WP.ok w1 C1 _ (wk_valsT z r)⟩⟩
end
/-- x[i] of a dict, read only -/
theorem pure_get {K : PySem.W.Frag} {cl : Cl} {ea eb : E} (pa : PureE K cl ea) (pb : PureE K cl eb) : PureE K cl (two fGetD ea eb) := fun σV H H0 m σ h d h' L C e => by
  unfold two at e
  cases e1 : ea σ h with
  | exc c p h0 => rw [e1] at e; cases e
  | no => rw [e1] at e; cases e
  | ok x h1 =>
    obtain ⟨rfl, v, rv⟩ := pa _ _ _ _ _ _ _ _ L C e1
    rw [e1] at e
    have e : (eb σ h1).bnd (fun y h => fGetD x y h) = .ok d h' := e
    cases e2 : eb σ h1 with
    | exc c p h0 => rw [e2] at e; cases e
    | no => rw [e2] at e; cases e
    | ok y h2 =>
      obtain ⟨rfl, u, ru⟩ := pb _ _ _ _ _ _ _ _ L C e2
      rw [e2] at e
      have e : opt (dctAt x h2) (fun p => grd (isKey p.1 y) (opt (look y p.2) fun d => R.ok d h2)) = .ok d h' := e
      cases e3 : dctAt x h2 with
      | none => rw [e3] at e; cases e
      | some p =>
        rw [e3] at e
        have e : grd (isKey p.1 y) (opt (look y p.2) fun d => R.ok d h2) = .ok d h' := e
        cases hk : isKey p.1 y with
        | false => rw [hk] at e; cases e
        | true =>
          rw [hk] at e
          have e : opt (look y p.2) (fun d => R.ok d h2) = .ok d h' := e
          obtain ⟨a, o, _, _, r⟩ := dget_of C rv ru e3 hk
          rcases r with ⟨e4, _⟩ | ⟨d1, v1, e4, _, rz⟩
          · rw [e4] at e; cases e
          · rw [e4] at e
            cases e
            exact ⟨rfl, v1, rz⟩
end IP

/-! y = {k: v for ..}; list(d); d.pop(k), {k: v} where the keys are tuples. -/
namespace IP
open PySem PySem.Spec PyProof.Rows L2
noncomputable section
def fListD : D → Hp → R D := fun d h => opt (dctAt d h) fun p => grd (!p.1) (.ok (.lst (p.2.map Prod.fst)) h)
/-- d.pop(k), k a tuple that is there -/
def fPopT : D → D → Hp → R D := fun x k h => opt (wdAt x h) fun p => grd (p.2.2.1 && isKey true k) (opt (look k p.2.2.2) fun v => .ok v (h.put p.1 p.2.1 (.dct true false (dropR k p.2.2.2))))
def ePopT (o a : E) : E := fun σ h => (o σ h).bnd fun x h => grd (isD x h) ((a σ h).bnd fun k h => fPopT x k h)
/-- {k: v}, k a tuple; the dict will change -/
def eDispT (k v : E) : E := fun σ h => ((k σ h).bnd fun a h => (v σ h).bnd fun d h => .ok (a, d) h).calm.bnd fun (p : D × D) h => grd (isKey true p.1) (lay 1 (.dct true false [(p.1, p.2)]) h)
end
section
variable {K : PySem.W.Frag} {cl : Cl}
theorem bis_listD : BiS K cl fListD (fun xs H Q => ∃ (a : Addr) (kvs : List (Key × V)), xs = [.ref a] ∧ Rd H a (.dK kvs) ∧ ∀ p, H p = none → Q (.ref p) (upd H p (.lst (kvs.map fun kv => kV kv.1)))) := fun x v E m h H Q C rx w => by
  obtain ⟨p, e, w⟩ := WP.opt w
  obtain ⟨hk, w⟩ := WP.grd w
  obtain ⟨t, rows⟩ := p
  obtain ⟨a, rfl, ⟨rfl, kvs, z, r⟩ | ⟨rfl, kvs, z, r⟩⟩ := dctAt_of C rx e
  · refine ⟨a, kvs, rfl, z, fun p n => ?_⟩
    have ek : RDs K cl H m (rows.map Prod.fst) (kvs.map fun kv => kV kv.1) := by
      rw [r.keys]
      have e2 : kvs.map (fun kv => kV kv.1) = (kvs.map Prod.fst).map kV := by rw [List.map_map]; rfl
      rw [e2]
      have e3 : kvs.map (fun p => kD p.1) = (kvs.map Prod.fst).map kD := by rw [List.map_map]; rfl
      first
        | exact RDs.ofKeys _
        | (rw [e3]; exact RDs.ofKeys _)
    exact fq_new C ek w n
  · cases hk
end
section
variable {X : Cx} {cl : Cl} {W : WX} {e o k : Expr} {ea eo ek ee ev : E} {pos p apos cpos : Pos}
theorem snd_listD (hc : X.calm = true) (hg : Gl X "list") (hm : X.mg "list" = none) (ha : PE X e (tE X.K cl W ea)) (he : starEach [e] X.env = (false, eval e X.env) :: starEach [] X.env := by rfl) : PE X (.Call (.Name "list" p) [e] [] pos) (tE X.K cl W (one fListD ea)) := snd_ty1 (call_listD hc) bis_listD hg hm boot_lst ha (by decide) (by decide) he
/-! ### y = {k: v for ..} -/
theorem sw_trueD {kx vx : Expr} {gs : List Comprehension} {scope : Scope} {pos py : Pos} {y : Str} {l : Nat} {env : Env} (hk : env.scope.kind = .function) (hy : env.scope.names.lookup y = some .local) (hl : (py.line == pos.line) = true)
    (ha : (scope.names.any fun (n, k) => n == y && (k == .local || k == .cell)) = false) : swapsWith (.DictComp kx vx gs scope pos) (some (.Name y py)) l env = pure true := by
  have ky : env.kindOf y = some .local := hy
  have hb : env.blockKind = .function := by unfold Env.blockKind; rw [hk]; rfl
  unfold swapsWith
  simp only [hb, ky, ha, Expr.pos, hl]
  rfl
theorem ps_setDc {i : Nat} {y : Str} {py : Pos} {kx vx tg iter : Expr} {ifs : List Expr} {scope : Scope} {own : List (Str × Nat)} {pos spos : Pos} {wi : TI} {g : TG} {tt : TT} {tk tv : TE} (hc : X.calm = true) (hN : X.N.Nodup) (hy : X.N[i]? = some y) (hyl : X.env.scope.names.lookup y = some .local)
    (hsw : swapsWith (.DictComp kx vx [⟨tg, iter, ifs, 0⟩] scope pos) (some (.Name y py)) spos.line X.env = pure true) (hi : PI X tg iter wi) (ok : BlkOk X.N X.env.scope scope own)
    (hg : ∀ (s : Shared) (H : L2.Hp) (C : Addr) (cl : List (Str × Addr)) (fp : List Addr), PG (X.blk s H scope (compEnvC scope cl C X.env) fp) tg g) (ht : ∀ (s : Shared) (H : L2.Hp) (C : Addr) (cl : List (Str × Addr)) (fp : List Addr), PTs (X.blk s H scope (compEnvC scope cl C X.env) fp) ifs tt)
    (hk : ∀ (s : Shared) (H : L2.Hp) (C : Addr) (cl : List (Str × Addr)) (fp : List Addr), PE (X.blk s H scope (compEnvC scope cl C X.env) fp) kx tk)
    (he : ∀ (s : Shared) (H : L2.Hp) (C : Addr) (cl : List (Str × Addr)) (fp : List Addr), PE (X.blk s H scope (compEnvC scope cl C X.env) fp) vx tv) (hs : ∀ x, foldedSetIterable iter X.env x = pure x := by intro _; rfl) :
    PS X (.Assign [.Name y py] (.DictComp kx vx [⟨tg, iter, ifs, 0⟩] scope pos) spos) (tAsg (tDc wi g tt tk tv (own.map (·.2))) (gName i)) := by
  refine ⟨fun pins s σ H D I h => ?_⟩
  rw [exec_Assign_Name_used _ _ _ _ hsw]
  refine wpAny_bind (wpAny_standAt (wpAny_bind ?_))
  show wpAny _ X.A (do let _ ← comprehension (.DictComp kx vx [⟨tg, iter, ifs, 0⟩] scope pos) scope X.env (firstIterPos [⟨tg, iter, ifs, 0⟩] pos) newDict false (eval iter X.env) (some (assign (.Name y py) X.env))) _ _ s
  have h : tDc wi g tt tk tv (own.map (·.2)) σ H (fun x H1 => gName i x σ H1 D.nx) := h
  refine wpAny_bind (thn (dc_core (Qf := fun _ s' => SP X pins D .next s') hc hN I hi ok hg ht hk he hs h fun L C s' m H' I' q hn f => ?_) fun _ s' hq => wpAny_pure (wpAny_pure hq))
  show wpAny _ _ (assign (.Name y py) X.env (.ref L)) _ _ _
  refine wpAny_assign_Name (store_ok2 (v := V.ref L) I' hN hy (.inl hyl) rfl (fun s2 I2 ⟨a, sb, ha⟩ => ?_) (.inr hyl))
  obtain ⟨f0, f1, f2, f3, f4, f5⟩ := f
  have haC : C ≠ a := by
    rcases ha with z | z
    · rw [z]; exact f1
    · exact fun e => f4 y a z e.symm
  refine ⟨m, hn.sameBut sb haC, fun h3 sb3 => ?_⟩
  exact ⟨_, H', I2.turned (t' := s2.toks) (fun b o hb e => (sb3.2 b hb).trans e) f0 f1 f3 f4 f5, q⟩
theorem sns_setDc {ws : List Nat} {i : Nat} {y : Str} {py : Pos} {kx vx tg iter : Expr} {ifs : List Expr} {scope : Scope} {own : List (Str × Nat)} {pos spos : Pos} {ii : A} {g : G} {t : T} (hc : X.calm = true) (hN : X.N.Nodup) (hy : X.N[i]? = some y) (hyl : X.env.scope.names.lookup y = some .local)
    (hsw : swapsWith (.DictComp kx vx [⟨tg, iter, ifs, 0⟩] scope pos) (some (.Name y py)) spos.line X.env = pure true) (hi : PI X tg iter (tI X.K cl W ii)) (ok : BlkOk X.N X.env.scope scope own) (hws : ∀ k ∈ ws, k ∈ own.map (·.2))
    (hg : ∀ (s : Shared) (H : L2.Hp) (C : Addr) (cl' : List (Str × Addr)) (fp : List Addr), PG (X.blk s H scope (compEnvC scope cl' C X.env) fp) tg (tH X.K cl ws g)) (ht : ∀ (s : Shared) (H : L2.Hp) (C : Addr) (cl' : List (Str × Addr)) (fp : List Addr), PTs (X.blk s H scope (compEnvC scope cl' C X.env) fp) ifs (tT X.K cl W0 t))
    (hk : ∀ (s : Shared) (H : L2.Hp) (C : Addr) (cl' : List (Str × Addr)) (fp : List Addr), PE (X.blk s H scope (compEnvC scope cl' C X.env) fp) kx (tE X.K cl W0 ek))
    (he : ∀ (s : Shared) (H : L2.Hp) (C : Addr) (cl' : List (Str × Addr)) (fp : List Addr), PE (X.blk s H scope (compEnvC scope cl' C X.env) fp) vx (tE X.K cl W0 ev)) (hs : ∀ x, foldedSetIterable iter X.env x = pure x := by intro _; rfl) :
    PS X (.Assign [.Name y py] (.DictComp kx vx [⟨tg, iter, ifs, 0⟩] scope pos) spos) (tS X.K cl W (sAsg (gLoc i) (eDc false (own.map (·.2)) g ii t ek ev))) :=
  ps_imp (ps_fq (ps_setDc hc hN hy hyl hsw hi ok hg ht hk he hs)) fun De σV H w => by
    have w1 : tAsg (tE X.K cl W (eDc false (own.map (·.2)) g ii t ek ev)) (gName i) De σV H := asg_use (W := W) (fun _ _ _ _ z => gName_of z) w
    have w2 : tE X.K cl W (eDc false (own.map (·.2)) g ii t ek ev) σV H (fun v H => De.nx (σV.set i (some v)) H) := w1
    refine dc_use dend_val hws (fun v H q => ?_) w2
    rcases q with q | ⟨a, u, e1, e2, mu, q⟩
    · exact .inl q
    · subst e1
      exact .inr ⟨a, u, e2, mu, q⟩
end
/-! ### d.pop(k), k a tuple -/
section
variable {prog : Program} {w : World} {K : Type} [DecidableEq K] {knd : HeapKind prog w K}
theorem meetsPop1 {d b : Addr} {k : K} :
    MeetsIn prog w (Builtin.«dict.pop» ⟨[.ref d, .ref b], []⟩) (fun A R s => ∃ xs p, knd.room A.in1 ∧ knd.is s.heap k b ∧ s.heap.DictOfH knd d xs ∧ xs.length ≤ sizeLine ∧ atKey xs k = some p ∧
      ∀ h' tk, h'.DictOfH knd d (DT.dropH xs k) → Heap.SameBut d s.heap h' → R (.ok (.ret p.2)) { s with heap := h', toks := tk }) :=
  .of_wp fun A R s ⟨xs, p, hu, hkey, hm, hsz, hp, hsome⟩ => by
    obtain ⟨o, es, ep, ho, hc, hdat, he, his, hn⟩ := id hm
    have hes : es.size = xs.length := size_of_entries he
    have hpart : (keyPart (Value.ref b)).isSome = false := rfl
    unfold Builtin.«dict.pop»
    refine wpAny_bind ?_
    unfold Builtin.Dict.keyAndDefault
    refine wpAny_bind (wpAny_notOrdered_dict hm.typeIs ?_)
    show wpAny _ _ (pure (d, Value.ref b, none)) _ _ s
    refine wpAny_pure ?_
    simp only [hpart, Bool.false_eq_true, if_false]
    refine wpAny_bind (wpAny_dictEntries ho hdat (wpAny_bind (wpAny_pure ?_)))
    cases hem : es.isEmpty with
    | true =>
      have h0 : xs = [] := by
        have z : es.size = 0 := by simpa using hem
        exact List.length_eq_zero_iff.mp (by omega)
      rw [h0] at hp
      cases hp
    | false =>
      simp only [Bool.false_eq_true, if_false]
      refine wpAny_bind (DT.takeH hu hkey hm hsz (fun hno => ?_) fun p' e hp' hev h' hm' hs' => ?_)
      · rw [hp] at hno
        cases hno
      · rw [hp] at hp'
        cases hp'
        simp only [Option.isNone_some, Bool.false_eq_true, if_false]
        exact wpAny_bind (wpAny_letGo (wpAny_pure ⟨e.val, rfl, by rw [hev]; exact hsome h' _ hm' hs'⟩))
end
section
variable {X : Cx} {cl : Cl} {W : WX} {e o k v : Expr} {eo ek ev : E} {td ty tk tv : TE} {pos apos cpos : Pos}
def tDPopT (td ty : TE) : TE := fun σ H Q => td σ H fun x H1 => ∃ a, x = .ref a ∧ IsD H1 a ∧ ty σ H1 fun y H2 => ∃ kvs b ks v, H2 a = some (.dT kvs) ∧ y = .ref b ∧ H2 b = some (.tup (ks.map kV)) ∧ valV kvs ks = some v ∧ Q v (upd H2 a (.dT (dropK kvs ks)))
theorem pe_dpopT (hu : X.A.units + 1 < cLine) (ho : PE X o td) (he : PE X e ty) (m : M1 X o "pop" apos e cpos) : PE X (.Call (.Attribute o "pop" apos) [e] [] cpos) (tDPopT td ty) := by
  refine ⟨fun pins s σ H Q I h => ?_⟩
  refine wpAny_Call_method m.base m.few m.line PySem.F.plainAttrs_dict PySem.F.slot_dict_pop PySem.F.type_dict_pop (thn (ho.run pins s σ H _ I h) fun u s1 ⟨x, H1, I1, rx, a, ex, d, q1⟩ => ?_)
  subst ex
  obtain rfl : u = Value.ref a := rx
  obtain ⟨t1, t2, _⟩ := isD_at I1 d
  refine ⟨t1, t2, ?_⟩
  rw [m.trees]
  refine Calls.callWith_builtin rfl (Calls.evalArgs_plain (Calls.spliced_cons (thn (he.run pins s1 σ H1 _ I1 q1) fun iv s2 ⟨y, H2, I2, ry, kvs, b, ks, v, ea, ey, eb, l, q2⟩ => Calls.spliced_nil ?_)))
  subst ey
  obtain rfl : iv = Value.ref b := ry
  obtain ⟨z, hd, xs', rel, dd⟩ := dt_of I2.hok ea
  have hz : xs'.length ≤ sizeLine := by rw [← Paired.length rel]; exact z
  have r := rel.val ks
  rw [l] at r
  obtain ⟨p, hp, rv⟩ : ∃ p, atKey xs' ks = some p ∧ RelV v p.2 := by
    cases ev : atKey xs' ks with
    | none =>
      rw [ev] at r
      exact (show False from r).elim
    | some p =>
      rw [ev] at r
      exact ⟨p, rfl, r⟩
  refine call_meetsIn PySem.F.slot_dict_pop dd.typeIs PySem.F.entry_dict_pop (PySem.F.args_dict_pop_2 _ _) (meetsPop1 (knd := tupleKind (mixKind X.prog X.w)) (k := ks))
    ⟨xs', p, tupleKind_room_in1 hu, key_of I2.hok eb, dd, hz, hp, fun h' tk dd' hs => ?_⟩
  obtain ⟨o', es, ep, hq, h2, h3, h4, _, h5⟩ := dd'
  have I3 : Inv X pins σ (upd H2 a (.dT (dropK kvs ks))) { s2 with heap := h', toks := tk } :=
    d_write I2 (by rw [ea]; exact True.intro) hs ⟨o', hq⟩ ⟨Nat.le_trans (dropK_le kvs ks) z, hd, _, (L2.DX.KT_drop ks rel).keeps (fun c ys ec => (by rw [upd_ne (ne_of ec ea (fun z => nomatch z))]; exact ec)), o', es, ep, hq, h2, h3, h4, h5⟩
  exact ⟨v, _, I3, rv, q2⟩
theorem RTs.drop {K : PySem.W.Frag} {m : Mp} {H : L2.Hp} (ks : List Key) : ∀ {r : List (D × D)} {s : List (List Key × V)}, RTs K cl H m r s → RTs K cl H m (dropR (.tup (ks.map kD)) r) (dropK s ks)
  | _, _, .nil => .nil
  | _, _, @RTs.cons _ _ _ _ k' d' r v' s b t => by
    unfold dropK
    show RTs K cl H m (if eqKey (.tup (k'.map kD)) (.tup (ks.map kD)) = true then dropR (.tup (ks.map kD)) r else (.tup (k'.map kD), d') :: dropR (.tup (ks.map kD)) r) _
    rw [eqKey_t]
    by_cases e : k' = ks
    · rw [if_pos (decide_eq_true e), List.filter_cons_of_neg (by simpa using e)]
      exact RTs.drop ks t
    · rw [if_neg (by simpa using e), List.filter_cons_of_pos (by simpa using e)]
      exact .cons b (RTs.drop ks t)
theorem snd_popT (hu : X.A.units + 1 < cLine) (ho : PE X o (tE X.K cl W eo)) (hk : PE X k (tE X.K cl W ek)) (m : M1 X o "pop" apos k cpos) : PE X (.Call (.Attribute o "pop" apos) [k] [] cpos) (tE X.K cl W (ePopT eo ek)) :=
  pe_imp (pe_dpopT hu ho hk m) fun σV H Q ⟨m, σ, h, H0, L, C, w⟩ => tE.use L C w fun d h1 m1 H1 v e1 L1 C1 r1 w1 => by
    obtain ⟨hd, w1⟩ := WP.grd w1
    obtain ⟨a, rfl, i⟩ := isD_of C1 r1 hd
    refine ⟨a, rfl, i, tE.use L1 C1 w1 fun d2 h2 m2 H2 v2 e2 L2' C2 r2 w2 => ?_⟩
    obtain ⟨pr, e, w2⟩ := WP.opt w2
    obtain ⟨hk, w2⟩ := WP.grd w2
    obtain ⟨d3, e3, w2⟩ := WP.opt w2
    rw [Bool.and_eq_true] at hk
    obtain ⟨a', ea, hm, hg, ⟨et, kvs, z, r⟩ | ⟨et, kvs, z, r⟩⟩ := wdAt_of C2 (r1.up e2) e
    · rw [et] at hk
      cases hk.1
    · cases ea
      rw [et] at hg
      obtain ⟨ks, b, rfl, rfl, eb⟩ := isT_of r2 hk.2
      rcases r.look ks with ⟨e4, _⟩ | ⟨d', zv, e4, e5, rz⟩
      · rw [e3] at e4; cases e4
      · rw [e3] at e4
        cases e4
        refine ⟨kvs, b, ks, zv, z, rfl, eb, e5, ?_⟩
        have ex : Ext m2 m2 H2 (upd H2 a (.dT (dropK kvs ks))) := Ext.wr hm z trivial
        exact w2 m2 _ ex (C2.put hg hm ex.imm ⟨_, upd_same, (RTs.drop ks r).upI ex.imm⟩ ⟨_, z, trivial⟩) _ (rz.up ex)
end
end IP

/-! {k: v}, k a tuple. -/
namespace IP
open PySem PySem.Spec PyProof.Rows L2
section
variable {prog : Program} {w : World} {K : Type} [DecidableEq K] {knd : HeapKind prog w K} {A : Around} {E : Value → Shared → Prop} {s : Shared} {env : Env}
theorem wpAny_Dict1H {keys : List (Option Expr)} {values : List Expr} {pos : Pos} {Q : Value → Shared → Prop} (hall : keys.all (·.isSome) = true) (hl : keys.length = values.length) (h0 : keys.length = 1)
    (h : wpAny (model prog w) A (evalPairs (pairTrees keys values env pos)) (fun vs s₁ => ∃ a k v, vs = [(.ref a, v)] ∧ knd.room A ∧ knd.is s₁.heap k a ∧ s₁.heap.DictOfH knd s.heap.objs.size [] ∧
      ∀ h' tk, h'.DictOfH knd s.heap.objs.size [(k, a, v)] → Heap.SameBut s.heap.objs.size s₁.heap h' → Q (.ref s.heap.objs.size) { s₁ with heap := h', toks := tk }) E
      { s with heap := s.heap.push { cls := .type "dict", data := .dict #[] } }) :
    wpAny (model prog w) A (eval (.Dict keys values pos) env) Q E s := by
  have hn := pairTrees_length keys values env pos hall hl
  have hp : pairTrees keys values env pos ≠ [] := by
    intro he
    rw [he] at hn
    simp at hn
    omega
  rw [arm_eval_Dict, zip_pairTrees keys values env pos hall hl, dictDisplay_pairs _ hp (by omega)]
  refine wpAny_bind (wpAny_standAt (wpAny_bind ?_))
  unfold subDict
  refine wpAny_bind (wpAny_alloc ?_)
  refine wpAny_bind (wpAny_holding ?_)
  rw [if_pos (by omega)]
  refine wpAny_bind (wpAny_mono h (fun vs s₁ h₁ => ?_) fun _ _ e => e)
  obtain ⟨a, k, v, rfl, hr, hk, hm, hQ⟩ := h₁
  refine wpAny_holding ?_
  refine wpAny_bind ?_
  rw [List.forIn_cons]
  refine wpAny_bind (wpAny_bind (wpAny_dictSet_heap (hsz := Nat.zero_le _) hr hk hm fun h' hm' hs' => wpAny_pure ?_))
  dsimp only
  rw [List.forIn_nil]
  exact wpAny_pure (wpAny_pure (wpAny_pure (wpAny_pure (hQ h' _ hm' hs'))))
end
section
variable {X : Cx} {cl : Cl} {W : WX} {k v : Expr} {ek ev : E} {tk tv : TE} {pos : Pos}
def tDisp1T (tk tv : TE) : TE := fun σ H Q => ∀ p, H p = none → tk σ (upd H p (.dT [])) fun x H1 => tv σ H1 fun y H2 => ∃ a ks, x = .ref a ∧ H2 a = some (.tup (ks.map kV)) ∧ H2 p = some (.dT []) ∧ Q (.ref p) (upd H2 p (.dT [(ks, y)]))
theorem pe_disp1T (hu : X.A.units + 1 < cLine) (hk : PE X k tk) (hv : PE X v tv) : PE X (.Dict [some k] [v] pos) (tDisp1T tk tv) := by
  refine ⟨fun pins s σ H Q I q => ?_⟩
  have hn := I.hok.fresh (Nat.le_refl s.heap.objs.size)
  have I1 := I.laid (a := s.heap.objs.size) (o := .dT []) (h' := s.heap.push { cls := .type "dict", data := .dict #[] }) (t' := s.toks) (fun _ _ q => Heap.get?_push_of_some _ q) (Nat.le_refl _) (dt_empty s.heap I.big)
  refine wpAny_Dict1H (knd := tupleKind (mixKind X.prog X.w)) rfl rfl rfl (pairTrees_cons_walk (thn (hk.run pins _ σ _ _ I1 (q _ hn)) fun u s1 ⟨x, H1, I2, rx, q1⟩ => thn (hv.run pins s1 σ H1 _ I2 q1) fun u2 s2 ⟨y, H2, I3, ry, a, ks, ex, ha, hp, q2⟩ => pairTrees_nil_walk ?_))
  subst ex
  obtain rfl : u = Value.ref a := rx
  obtain ⟨z, hd, xs', rel, dd⟩ := dt_of I3.hok hp
  cases rel
  refine ⟨a, ks, u2, rfl, (Nat.lt_of_succ_lt hu), key_of I3.hok ha, dd, fun h' tk dd' hs => ?_⟩
  obtain ⟨o', es, ep, hq, h2, h3, h4, _, h5⟩ := dd'
  have ne : a ≠ s.heap.objs.size := ne_of ha hp (fun z => nomatch z)
  have I4 : Inv X pins σ (upd H2 s.heap.objs.size (.dT [(ks, y)])) { s2 with heap := h', toks := tk } :=
    d_write I3 (by rw [hp]; exact True.intro) hs ⟨o', hq⟩ ⟨by rw [sizeLine_eq]; simp, hd, _, .cons (b := (ks, a, u2)) ⟨rfl, by rw [upd_ne ne]; exact ha, ry⟩ .nil, o', es, ep, hq, h2, h3, h4, h5⟩
  exact ⟨.ref s.heap.objs.size, _, I4, rfl, q2⟩
theorem snd_disp1T (hu : X.A.units + 1 < cLine) (hk : PE X k (tE X.K cl W ek)) (hv : PE X v (tE X.K cl W ev)) : PE X (.Dict [some k] [v] pos) (tE X.K cl W (eDispT ek ev)) :=
  pe_imp (pe_disp1T hu hk hv) fun σV H Q ⟨m, σ, h, H0, L, C, w⟩ q n => by
    have ex : Ext m m H (upd H q (.dT [])) := Ext.lay n
    have fr : Free m q := fun k n' z => C.old k n' q z n
    have w : WP X.K cl (wx X.K cl W σV) m H (((ek σ h).bnd fun a h => (ev σ h).bnd fun d h => .ok (a, d) h).calm.bnd fun (p : D × D) h => grd (isKey true p.1) (lay 1 (.dct true false [(p.1, p.2)]) h)) (Rt X.K cl Q) := w
    obtain ⟨p, h1, key⟩ := calm_ok w
    rw [key] at w
    obtain ⟨c, w2⟩ := WP.grd (r := lay 1 (.dct true false [(p.1, p.2)]) h1) w
    have wk : WP X.K cl (wx X.K cl W σV) m (upd H q (.dT [])) ((ek σ h).bnd fun a h => (ev σ h).bnd fun d h => .ok (a, d) h) (fun p' h' m' H' => p' = p ∧ h' = h1 ∧ Ext m m' (upd H q (.dT [])) H' ∧ Hc X.K cl m' h1 H') := WP.known key
    refine ⟨m, σ, h, H0, L.up ex, C.lay n, wk.bnd.imp fun a h2 m2 H2 e2 C2 w3 va ra => ⟨m2, σ, h2, H0, (L.up ex).up e2, C2, (WP.bnd w3).imp fun d h3 m3 H3 e3 C3 w4 vd rd => ?_⟩⟩
    obtain ⟨z1, z2, e4, C4⟩ := WP.ok (a := (a, d)) (h := h3) w4 C3
    subst z1 z2
    obtain ⟨ks, b, rfl, rfl, eb⟩ := isT_of (ra.up e3) c
    obtain ⟨fr3, hD⟩ := e4.aside fr upd_same
    refine ⟨b, ks, rfl, eb, hD, ?_⟩
    obtain ⟨hk, w5⟩ := WP.ite w2
    have hm : m3 1 (h3.len 1) = none := Classical.byContradiction fun z => (C3.dom 1 (h3.len 1)).mp z get_len
    have e5 : Ext m m3 H (upd H3 q (.dT [(ks, vd)])) := (ex.trans e4).side n
    have C5 : Hc X.K cl m3 h3 (upd H3 q (.dT [(ks, vd)])) := C3.side fr3 hD trivial
    have im : Imm m3 (m3.add 1 (h3.len 1) q) (upd H3 q (.dT [(ks, vd)])) (upd H3 q (.dT [(ks, vd)])) := Imm.adopt upd_same trivial hm
    have im0 : Imm m3 m3 H3 (upd H3 q (.dT [(ks, vd)])) := Imm.wr hD trivial
    refine w5 _ _ (e5.adopt n hm) (C5.adopt hk fr3 upd_same trivial ⟨_, upd_same, .cons ((rd.upI im0).upI im) .nil⟩) _ (.ref ?_)
    exact if_pos ⟨rfl, rfl⟩
end
end IP

/-! len(o) by a class's own def; dict(d). -/
namespace IP
open PySem PySem.Spec PyProof.Rows L2
noncomputable section
def eLenM (c : Nat) (f : Fn) (o : E) : E := fun σ h => (o σ h).bnd fun x h => opt (clsAt x h) fun c' => grd (Nat.beq c' c) ((f [x] h).bnd fun d h => match d with
  | .int n => grd (decide (0 ≤ n) && decide (n < 2 ^ 63)) (.ok (.int n) h)
  | _ => .no)
/-- dict(d): a copy that will change -/
def eCpy (e : E) : E := fun σ h => (e σ h).bnd fun d h => opt (dctAt d h) fun p => grd (!p.1) (lay 1 (.dct false false p.2) h)
end
section
variable {X : Cx} {n : Nat} {CX : CXT} {C f : Addr} {fd : FuncData} {ps : List Str} {sp : Sp} {E : XK}
theorem call_lenM (F : FnOk X.prog X.w X.K X.mg X.base CX n f fd ps sp) (hM : Meth X.K C "__len__" f) (hb : Binds X.K fd ps []) (hx : Passes CX X E) (hr : Room (n + 1) X.A) :
    CallR X (.builtin "len") (fun xs H Q => ∃ a dx fs, xs = [.ref a] ∧ H a = some (.ins C dx fs) ∧ sp [.ref a] H (fun v H' => ∃ i : Int, v = .int i ∧ (0 ≤ i ∧ i < 2 ^ 63) ∧ Q (.int i) H') E) := by
  intro pins s σ H xs us Q I rxs h
  obtain ⟨a, dx, fs, rfl, ha, hsp⟩ := h
  obtain ⟨u, rfl, ru⟩ := rxs.one
  cases ru
  obtain ⟨mA, J, _⟩ := ins_get I.hok ha
  obtain ⟨od, J, _⟩ := J.look
  obtain ⟨m, hF⟩ := I.fr
  refine PySem.W.len_K hF I.ok.mod.kin J hM.at_ hM.fn ?_
  have e0 : Env0 X.prog X.w X.K X.mg X.base X.A.in1 X.stack s H := by
    have e := I.env0
    exact ⟨e.frames, e.mod, e.bs, e.bsz, e.funs, e.frf, e.hok, e.bare⟩
  have hl := F.len _ _ _ _ hsp
  have r2 : Vals [V.ref a] [Value.ref a] := .cons rfl .nil
  refine wpAny_call (codeAny_mono (F.run X.A.in1 X.stack s H ⟨[.ref a], []⟩ [.ref a] [.ref a] _ E hr.in1 e0 (by
    have := hb s [.ref a] I.kIn (by simpa using hl)
    simpa using this) r2 hsp) fun r s' hq => ?_)
  cases r with
  | error e => exact hx pins σ H s e s' I hq
  | ok fl =>
    cases fl with
    | ret w =>
      obtain ⟨z, H', I', rz, i, ez, hi, q⟩ := I.after hq
      subst ez
      obtain ⟨t, rfl⟩ := rz
      exact ⟨hi, .int i, H', I'.tok _, ⟨_, rfl⟩, q⟩
    | next => exact False.elim hq
    | brk => exact False.elim hq
    | cont => exact False.elim hq
end
section
variable {X : Cx} {cl : Cl} {W : WX} {e o : Expr} {ea eo : E} {p pos : Pos}
theorem snd_lenM {k c : Nat} {f : Fn} {fa : Addr} {fd : FuncData} {ps : List Str} (F : FnOk X.prog X.w X.K X.mg X.base (L2.CX X.prog X.w) k fa fd ps (spI X.K cl 1 f)) (hr : Room (k + 1) X.A) (tk : Takes X W) (fl : Flat W) (hM : Meth X.K (cl.adr c) "__len__" fa) (hb : Binds X.K fd ps [])
    (hg : Gl X "len") (hm : X.mg "len" = none) (ho : PE X o (tE X.K cl W eo)) (he : starEach [o] X.env = (false, eval o X.env) :: starEach [] X.env := by rfl) : PE X (.Call (.Name "len" p) [o] [] pos) (tE X.K cl W (eLenM c f eo)) :=
  pe_imp (pe_callB (call_lenM F hM hb (flat_passes tk fl) hr) hg hm boot_len2 (pa_cons ho pa_nil he) (by decide) (by decide) he rfl) fun σV H Q ⟨m, σ, h, H0, L, C, w⟩ => tE.use L C w fun d h1 m1 H1 v e1 L1 C1 r1 w1 => by
    obtain ⟨c', e, w1a⟩ := WP.opt w1
    obtain ⟨hc, w1b⟩ := WP.grd w1a
    clear w1 w1a
    obtain rfl : c' = c := Nat.eq_of_beq_eq_true hc
    obtain ⟨a, dx, fs, fv, rfl, hH, rf⟩ := clsAt_of C1 r1 e
    refine ⟨a, dx, fv, rfl, hH, m1, h1, [d], C1, .cons r1 .nil, rfl, ?_⟩
    have w2 := (WP.bnd w1b).xi fun c p m H q => xE_imp (E' := fun c d H => W c d [] H) (fun c d H z => fl _ _ _ _ _ z) q
    refine w2.imp fun z h2 m2 H2 e2 C2 w3 v rv => ?_
    cases rv <;> first | (exact w3.elim) | skip
    rename_i i
    obtain ⟨hi, w4⟩ := WP.grd w3
    rw [Bool.and_eq_true, decide_eq_true_iff, decide_eq_true_iff] at hi
    exact ⟨i, rfl, hi, WP.ok w4 C2 _ (.int i)⟩
theorem snd_cpy (hg : Gl X "dict") (hm : X.mg "dict" = none) (ha : PE X e (tE X.K cl W ea)) (he : starEach [e] X.env = (false, eval e X.env) :: starEach [] X.env := by rfl) : PE X (.Call (.Name "dict" p) [e] [] pos) (tE X.K cl W (eCpy ea)) :=
  pe_imp (pe_callTy call_dictD hg hm (by decide +kernel) (pa_cons ha pa_nil he) (by decide) (by decide) he rfl) fun σV H Q ⟨m, σ, h, H0, L, C, w⟩ => tE.use L C w fun d h1 m1 H1 v e1 L1 C1 r1 w1 => by
    obtain ⟨p, e, w1⟩ := WP.opt w1
    obtain ⟨hk, w1⟩ := WP.grd w1
    obtain ⟨t, rows⟩ := p
    obtain ⟨a, rfl, ⟨rfl, kvs, z, r⟩ | ⟨rfl, kvs, z, r⟩⟩ := dctAt_of C1 r1 e
    · refine ⟨a, kvs, rfl, z, fun q n => ?_⟩
      obtain ⟨hk, w2⟩ := WP.ite w1
      have hm : m1 1 (h1.len 1) = none := Classical.byContradiction fun z => (C1.dom 1 (h1.len 1)).mp z get_len
      have ex : Ext m1 m1 H1 (upd H1 q (.dK kvs)) := Ext.lay n
      have fr : Free m1 q := fun k n' z => C1.old k n' q z n
      have im : Imm m1 (m1.add 1 (h1.len 1) q) (upd H1 q (.dK kvs)) (upd H1 q (.dK kvs)) := Imm.adopt upd_same trivial hm
      refine w2 _ _ (ex.adopt n hm) ((C1.lay n).adopt hk fr upd_same trivial ⟨kvs, upd_same, (r.upI ex.imm).upI im⟩) _ (.ref ?_)
      exact if_pos ⟨rfl, rfl⟩
    · cases hk
end
end IP

/-! [e for x in xs for y in ys if ..]; for under a lock; k in x, len(x) of a dict that one name holds. -/
namespace IP
open PySem PySem.Spec PyProof.Rows L2
noncomputable section
def lc2Turn (g1 : G) (i2 : A) (vj : List Nat) (g2 : G) (t : T) (e : E) (σ : Lo) (x : D) (acc : List D) (h : Hp) : R (List D) := (g1 x σ h).bnd fun σ' h => (i2 σ' h).bnd fun ys h => lcGo g2 t e (wipe σ' vj) ys acc h
def lc2Go (g1 : G) (i2 : A) (vj : List Nat) (g2 : G) (t : T) (e : E) (σ : Lo) : List D → List D → Hp → R (List D)
  | [], acc, h => .ok acc h
  | x :: xs, acc, h => (lc2Turn g1 i2 vj g2 t e σ x acc h).calm.bnd (lc2Go g1 i2 vj g2 t e σ xs)
def eLc2 (vs : List Nat) (g1 : G) (i1 : A) (vj : List Nat) (g2 : G) (i2 : A) (t : T) (e : E) : E := fun σ h => (i1 σ h).bnd fun xs h => (lc2Go g1 i2 vj g2 t e (wipe σ vs) xs [] h).bnd fun ys h => .ok (.lst ys) h
/-- behind a walk -/
def lkEnd (x : D) : R Fl → R Fl
  | .ok (.exc _ _ _) _ => .no
  | .ok f h => opt (setLk false x h) fun h => .ok f h
  | _ => .no
/-- a statement that reads the dict d while it is walked -/
def sLk (o : E) (s : S) : S := fun σ h => (o σ h).calm.bnd fun x h => opt (setLk true x h) fun h => lkEnd x (s σ h)
/-- k in x, k not in x, len(x) of a dict that one name alone holds -/
def eOIn (b : Bool) (i : Nat) (k : E) : E := fun σ h => (k σ h).bnd fun a h => match σ[i]? with
  | some (some (.ownD t rows)) => grd (isKey t a) (.ok (.bl ((look a rows).isSome == b)) h)
  | _ => .no
def eOLenD (i : Nat) : E := fun σ h => match σ[i]? with
  | some (some (.ownD false rows)) => .ok (.int (rows.length : Nat)) h
  | _ => .no
end
section
variable {X : Cx} {cl : Cl} {W : WX} {pos : Pos}
theorem lc2_use {j1 : Nat} {wj vs vj : List Nat} {g2 : G} {i1 i2 : A} {t : T} {ee : E} (hj1 : j1 ∈ vs) (hwj : ∀ k ∈ wj, k ∈ vj) {σV : L2.St} {H : L2.Hp} {Q : VK} (w : tE X.K cl W (eLc2 vs (gLoc j1) i1 vj g2 i2 t ee) σV H Q) :
    tLc2 (tI X.K cl W i1) (tH X.K cl [j1] (gLoc j1)) (tT X.K cl W0 tYes) (tI X.K cl W0 i2) (tH X.K cl wj g2) (tT X.K cl W0 t) (tE X.K cl W0 ee) vs vj σV H (FQ Q) := by
  obtain ⟨m, σ, h, H0, L, C, w⟩ := w
  refine ⟨m, σ, h, H0, L, C, w.bnd.imp fun xs h1 m1 H1 e1 C1 w1 J wk Da nD => ?_⟩
  have nm : Free m1 Da := fun k n z => C1.old k n Da z nD
  refine ⟨fun k n H2 => n = xs.length - k ∧ k ≤ xs.length ∧ ∃ m2 h2 acc accV, Ext m1 m2 H1 H2 ∧ Hc X.K cl m2 h2 H2 ∧ H2 Da = some (.lst accV) ∧ RDs X.K cl H2 m2 acc accV ∧ Free m2 Da ∧
    WP X.K cl (wx X.K cl W σV) m1 H1 ((lc2Go (gLoc j1) i2 vj g2 t ee (IP.wipe σ vs) (xs.drop k) acc h2).bnd fun ys h => R.ok (D.lst ys) h) (Rt X.K cl Q),
    ⟨xs.length, by simp, Nat.zero_le _, m1, h1, [], [], Ext.lay nD, C1.lay nD, upd_same, .nil, nm, w1⟩, ?_⟩
  rintro k n H2 ⟨rfl, hk, m2, h2, acc, accV, e2, C2, hD, rA, nm2, w2⟩
  have L2' : Lc X.K cl m2 H0 H2 σ σV := (L.up e1).up e2
  by_cases hlt : k < xs.length
  · obtain ⟨wk1, _⟩ := wk k m2 H2 e2.ex2
    obtain ⟨go, yld⟩ := wk1 xs[k] (List.getElem?_eq_getElem hlt)
    have ed : xs.drop k = xs[k] :: xs.drop (k + 1) := List.drop_eq_getElem_cons hlt
    rw [ed] at w2
    refine .inr ⟨go, fun H3 => k + 1 ≤ xs.length ∧ ∃ m2 h2 acc accV, Ext m1 m2 H1 H3 ∧ Hc X.K cl m2 h2 H3 ∧ H3 Da = some (.lst accV) ∧ RDs X.K cl H3 m2 acc accV ∧ Free m2 Da ∧
      WP X.K cl (wx X.K cl W σV) m1 H1 ((lc2Go (gLoc j1) i2 vj g2 t ee (IP.wipe σ vs) (xs.drop (k + 1)) acc h2).bnd fun ys h => R.ok (D.lst ys) h) (Rt X.K cl Q),
      fun H3 q => ⟨xs.length - (k + 1), by omega, rfl, q.1, q.2⟩, fun x H3 hy => ?_⟩
    obtain ⟨e3, c3, rx⟩ := yld x H3 hy
    obtain ⟨_, hD3⟩ := e3.aside nm2 hD
    obtain ⟨aE, hE, key⟩ : ∃ a h3, lc2Turn (gLoc j1) i2 vj g2 t ee (IP.wipe σ vs) xs[k] acc h2 = R.ok a h3 := calm_ok (WP.bnd w2)
    have w3 : WP X.K cl (wx X.K cl W σV) m1 H1 ((lc2Go (gLoc j1) i2 vj g2 t ee (IP.wipe σ vs) (xs.drop (k + 1)) aE hE).bnd fun ys h => R.ok (D.lst ys) h) (Rt X.K cl Q) := by
      have z : lc2Go (gLoc j1) i2 vj g2 t ee (IP.wipe σ vs) (xs[k] :: xs.drop (k + 1)) acc h2 = lc2Go (gLoc j1) i2 vj g2 t ee (IP.wipe σ vs) (xs.drop (k + 1)) aE hE := by
        show (lc2Turn (gLoc j1) i2 vj g2 t ee (IP.wipe σ vs) xs[k] acc h2).calm.bnd _ = _
        rw [key]
        rfl
      rw [z] at w2
      exact w2
    generalize hσ1 : (IP.wipe σ vs).set j1 (some xs[k]) = σ1
    have key : (i2 σ1 h2).bnd (fun ys h => lcGo g2 t ee (IP.wipe σ1 vj) ys acc h) = R.ok aE hE := by
      rw [← hσ1]; exact key
    obtain ⟨ys, h5, k2, key⟩ := bnd_ok key
    refine ⟨m2, xs[k], IP.wipe σ vs, h2, H0, (L2'.up e3).wipe vs, c3 h2 C2, rx, ?_⟩
    have wg : gLoc j1 xs[k] (IP.wipe σ vs) h2 = R.ok σ1 h2 := by rw [← hσ1]; rfl
    rw [wg]
    intro m4 H4 e4 C4 σV1 L4 s4
    refine ⟨(s4.wide fun k hk => by rw [List.mem_singleton.mp hk]; exact hj1).wipe.trans wipe_wipe, m4, σ1, h2, H0, L4, C4, ?_⟩
    intro m4b H4b e4b C4b
    show (if true = true then _ else _)
    rw [if_pos rfl]
    refine ⟨m4b, σ1, h2, H0, L4.up e4b, C4b, ?_⟩
    have wT := WP.known (cl := cl) (K := X.K) (Y := wx X.K cl W0 σV1) (m := m4b) (H := H4b) k2
    refine wT.imp fun ys' h' m5 H5 _ _ ⟨ey, eh, e5, C5⟩ Jj wkj => ?_
    subst ey eh
    have e35 : Ext m2 m5 H3 H5 := (e4.trans e4b).trans e5
    obtain ⟨nm5, hD5⟩ := e35.aside nm2 hD3
    have slots : ∀ {m6 : Mp} {H6 : L2.Hp}, Ext m1 m6 H1 H6 → Ex2 m5 m6 H5 H6 → Lc X.K cl m6 H0 H6 σ1 σV1 := fun {m6 H6} e6 x6 => by
      have b : Lc X.K cl m6 H0 H6 (IP.wipe σ vs) (L2.wipe σV vs) := ((L.up e1).up e6).wipe vs
      by_cases hl : j1 < (IP.wipe σ vs).length
      · have at1 : σ1[j1]? = some (some xs[k]) := by rw [← hσ1, List.getElem?_set_self hl]
        obtain ⟨v1, hv1, q1⟩ := L4.loc j1 _ at1
        have q2 : RD X.K cl H4 m4 xs[k] v1 := q1.rd rx.notOwn
        rw [s4.one_eq hv1, ← hσ1]
        exact b.set ((q2.up (e4b.trans e5)).upI x6.imm)
      · have e0 : σ1 = IP.wipe σ vs := by rw [← hσ1, List.set_eq_of_length_le (by omega)]
        have e9 : σV1 = L2.wipe σV vs := by
          refine List.ext_getElem? fun j => ?_
          by_cases c : j1 = j
          · subst c
            have l1 : (L2.wipe σV vs).length ≤ j1 := by rw [← b.len]; omega
            rw [List.getElem?_eq_none l1, List.getElem?_eq_none (by rw [s4.1]; exact l1)]
          · exact s4.2 j (by simpa using fun z => c z.symm)
        rw [e0, e9]
        exact b
    have e15 : Ext m1 m5 H1 H5 := (e2.trans e3).trans e35
    refine ⟨fun j n H6 => n = ys'.length - j ∧ j ≤ ys'.length ∧ ∃ m6 h6 acc6 accV6, Ext m1 m6 H1 H6 ∧ Ex2 m5 m6 H5 H6 ∧ Hc X.K cl m6 h6 H6 ∧ H6 Da = some (.lst accV6) ∧ RDs X.K cl H6 m6 acc6 accV6 ∧ Free m6 Da ∧
      lcGo g2 t ee (IP.wipe σ1 vj) (ys'.drop j) acc6 h6 = R.ok aE hE,
      ⟨ys'.length, by simp, Nat.zero_le _, m5, h', acc, accV, e15, Ex2.refl, C5, hD5, (rA.upI e3.imm).upI e35.imm, nm5, key⟩, ?_⟩
    rintro j n H6 ⟨rfl, hj, m6, h6, acc6, accV6, e6, x6, C6, hD6, rA6, nm6, k6⟩
    by_cases hlj : j < ys'.length
    · obtain ⟨wk2, _⟩ := wkj j m6 H6 x6
      obtain ⟨go2, yld2⟩ := wk2 ys'[j] (List.getElem?_eq_getElem hlj)
      have ed2 : ys'.drop j = ys'[j] :: ys'.drop (j + 1) := List.drop_eq_getElem_cons hlj
      rw [ed2] at k6
      have k6 : (lcTurn g2 t ee (IP.wipe σ1 vj) ys'[j] h6).calm.bnd (lcThen (lcGo g2 t ee (IP.wipe σ1 vj) (ys'.drop (j + 1))) acc6) = R.ok aE hE := k6
      obtain ⟨o, h7, k7, k8⟩ := bnd_ok k6
      have k7 := calm_ok2 k7
      refine .inr ⟨go2, fun H7 => j + 1 ≤ ys'.length ∧ ∃ m6 h6 acc6 accV6, Ext m1 m6 H1 H7 ∧ Ex2 m5 m6 H5 H7 ∧ Hc X.K cl m6 h6 H7 ∧ H7 Da = some (.lst accV6) ∧ RDs X.K cl H7 m6 acc6 accV6 ∧ Free m6 Da ∧
        lcGo g2 t ee (IP.wipe σ1 vj) (ys'.drop (j + 1)) acc6 h6 = R.ok aE hE, fun H7 q => ⟨ys'.length - (j + 1), by omega, rfl, q.1, q.2⟩, fun y H7 hy => ?_⟩
      obtain ⟨e7, c7, ry⟩ := yld2 y H7 hy
      obtain ⟨_, hD7⟩ := e7.aside nm6 hD6
      have wT := WP.known (cl := cl) (K := X.K) (Y := F0) (m := m6) (H := H7) k7
      refine ⟨m6, ys'[j], IP.wipe σ1 vj, h6, H0, ((slots e6 x6).up e7).wipe vj, c7 h6 C6, ry, wT.bnd.imp fun σ2 h8 m8 H8 e8 C8 w8 σV2 L8 s8 => ⟨(s8.wide hwj).wipe.trans wipe_wipe, ?_⟩⟩
      refine ⟨m8, σ2, h8, H0, L8, C8, (WP.bnd w8).of0.imp fun b h9 m9 H9 e9 C9 w9 => ?_⟩
      cases b with
      | false =>
        obtain ⟨eo, eh, e12, C12⟩ := WP.ok (a := (none : Option D)) (h := h9) w9 C9
        subst eo eh
        obtain ⟨nm9, hD9⟩ := e12.aside nm6 hD7
        exact ⟨hlj, m9, h9, acc6, accV6, (e6.trans e7).trans e12, (x6.trans e7.ex2).trans e12.ex2, C12, hD9, (rA6.upI e7.imm).upI e12.imm, nm9, k8⟩
      | true =>
        refine ⟨m9, σ2, h9, H0, L8.up e9, C9, (WP.bnd w9).of0.imp fun d h11 m11 H11 e11 C11 w11 vd rd => ?_⟩
        obtain ⟨eo, eh, e12, C12⟩ := WP.ok (a := some d) (h := h11) w11 C11
        subst eo eh
        obtain ⟨nm11, hD11⟩ := e12.aside nm6 hD7
        have k9 : (if acc6.length < bigD then lcGo g2 t ee (IP.wipe σ1 vj) (ys'.drop (j + 1)) (acc6 ++ [d]) h11 else R.no) = R.ok aE hE := k8
        by_cases c : acc6.length < bigD
        · rw [if_pos c] at k9
          have rA11 : RDs X.K cl H11 m11 acc6 accV6 := (rA6.upI e7.imm).upI e12.imm
          exact ⟨accV6, hD11, by rw [← rA11.length]; exact line2 c, hlj, m11, h11, _, _, ((e6.trans e7).trans e12).side nD, ((x6.trans e7.ex2).trans e12.ex2).trans (Ex2.wr hD11 trivial), C12.side nm11 hD11 trivial, upd_same, (rA11.append (.cons rd .nil)).upI (Imm.wr hD11 trivial), nm11, k9⟩
        · rw [if_neg c] at k9
          cases k9
    · have hj' : j = ys'.length := by omega
      obtain ⟨_, stp⟩ := wkj j m6 H6 x6
      refine .inl ⟨stp hj', hlt, m6, h6, acc6, accV6, e6, C6, hD6, rA6, nm6, ?_⟩
      rw [List.drop_eq_nil_of_le (by omega)] at k6
      have k6 : R.ok acc6 h6 = R.ok aE hE := k6
      cases k6
      exact w3
  · have hk' : k = xs.length := by omega
    obtain ⟨_, wk2⟩ := wk k m2 H2 e2.ex2
    refine .inl ⟨wk2 hk', .inr ⟨Da, .lst accV, rfl, hD, trivial, fun ob => ?_⟩⟩
    rw [List.drop_eq_nil_of_le (by omega)] at w2
    have e5 : Ext m1 m2 H1 (upd H2 Da (.frz ob (.lst accV))) := e2.side nD
    exact w2 m2 _ e5 (C2.side nm2 hD trivial) _ (.lst upd_same (rA.upI (Imm.wr hD trivial)))
theorem snd_lc2 {j1 : Nat} {wj vj : List Nat} {g2 : G} {i1 i2 : A} {t : T} {ee : E} {elt tb ia ib : Expr} {ifs : List Expr} {x : Str} {p1 : Pos} {scope : Scope} {own : List (Str × Nat)} (hc : X.calm = true) (hN : X.N.Nodup) (hi : PI X (.Name x p1) ia (tI X.K cl W i1)) (ok : BlkOk X.N X.env.scope scope own) (h1 : j1 ∈ own.map (·.2)) (hwj : ∀ k ∈ wj, k ∈ vj) (hv : ∀ i ∈ vj, i ∈ own.map (·.2))
    (hg : ∀ (s : Shared) (H : L2.Hp) (C : Addr) (cl' : List (Str × Addr)) (fp : List Addr), PG (X.blk s H scope (compEnvC scope cl' C X.env) fp) (.Name x p1) (tH X.K cl [j1] (gLoc j1)))
    (hj : ∀ (s : Shared) (H : L2.Hp) (C : Addr) (cl' : List (Str × Addr)) (fp : List Addr), PI (X.blk s H scope (compEnvC scope cl' C X.env) fp) tb ib (tI X.K cl W0 i2))
    (hgj : ∀ (s : Shared) (H : L2.Hp) (C : Addr) (cl' : List (Str × Addr)) (fp : List Addr), PG (X.blk s H scope (compEnvC scope cl' C X.env) fp) tb (tH X.K cl wj g2))
    (ht : ∀ (s : Shared) (H : L2.Hp) (C : Addr) (cl' : List (Str × Addr)) (fp : List Addr), PTs (X.blk s H scope (compEnvC scope cl' C X.env) fp) ifs (tT X.K cl W0 t))
    (he : ∀ (s : Shared) (H : L2.Hp) (C : Addr) (cl' : List (Str × Addr)) (fp : List Addr), PE (X.blk s H scope (compEnvC scope cl' C X.env) fp) elt (tE X.K cl W0 ee))
    (hs : ∀ x, foldedSetIterable ia X.env x = pure x := by intro _; rfl) (hsj : ∀ env x, foldedSetIterable ib env x = pure x := by intro _ _; rfl) :
    PE X (.ListComp elt [⟨.Name x p1, ia, [], 0⟩, ⟨tb, ib, ifs, 0⟩] scope pos) (tE X.K cl W (eLc2 (own.map (·.2)) (gLoc j1) i1 vj g2 i2 t ee)) :=
  pe_imp (pe_fq (pe_lc2 hc hN hi ok hv hg (fun s H C cl' fp => snts_nil) hj hgj ht he hs hsj)) fun _ _ _ w => lc2_use h1 hwj w
end
theorem Ex2.unlock {m m' : Mp} {H H' : L2.Hp} {a : Addr} {od : Obj} {u : HO} (h0 : H a = some u) (w : Wr u) (e : Ex2 m m' (upd H a (.frz od u)) H') (hH : H' a = some (.frz od u)) : Ex2 m m' H (upd H' a u) := by
  refine ⟨e.pre, fun k n b q => (e.new k n b q).imp id fun z => ?_, fun b xs q => ?_, fun b o u' q => ?_, fun b q => ?_⟩
  · have ne : b ≠ a := fun y => by
      subst y
      exact absurd z (not_emp upd_same fun ps z => by cases z)
    unfold Emp at z
    rw [upd_ne ne] at z
    exact z
  · have ne : b ≠ a := ne_of q h0 (by intro z; subst z; exact w)
    rw [upd_ne ne]
    exact e.tup b xs (by rw [upd_ne ne]; exact q)
  · have ne : b ≠ a := ne_of q h0 (by intro z; subst z; exact w)
    rw [upd_ne ne]
    exact e.frz b o u' (by rw [upd_ne ne]; exact q)
  · by_cases c : b = a
    · subst c; exact not_emp upd_same w.nt.tb
    · unfold Emp; rw [upd_ne c]
      exact e.old b (by unfold Emp; rw [upd_ne c]; exact q)
theorem Ext.unlock0 {m0 m m' : Mp} {H0 H H' : L2.Hp} {a : Addr} {od : Obj} {u : HO} (e0 : Ext m0 m H0 H) (h0 : H a = some u) (w : Wr u) (e : Ext m0 m' H0 H') (hH : H' a = some (.frz od u)) : Ext m0 m' H0 (upd H' a u) := by
  refine ⟨e.pre, e.new, fun b xs q => ?_, fun b o u' q => ?_, fun b o f nt q => ?_, fun b q => ?_⟩
  · have z := e.tup b xs q
    rw [upd_ne (ne_of z hH (fun y => by cases y))]
    exact z
  · have z := e0.frz b o u' q
    rw [upd_ne (ne_of z h0 (by intro y; subst y; exact w))]
    exact e.frz b o u' q
  · by_cases c : b = a
    · subst c
      have z := e0.frm b o f nt q
      rw [h0] at z
      rw [upd_same]
      exact z
    · rw [upd_ne c]
      exact e.frm b o f nt q
  · by_cases c : b = a
    · subst c; exact not_emp upd_same w.nt.tb
    · unfold Emp; rw [upd_ne c]
      exact e.old b q
section
variable {X : Cx} {cl : Cl} {W : WX}
theorem sns_lk {st : Stmt} {s : S} {eo : E} (p : PS X st (tS X.K cl W s)) (po : PureE X.K cl eo) : PS X st (tS X.K cl W (sLk eo s)) :=
  ps_imp (ps_lock p) fun De σV H ⟨m, σ, h, m0, H0, e0, L, C, w⟩ => by
    have w' : WS X.K cl W De m0 H0 m H ((eo σ h).calm.bnd fun x h => opt (setLk true x h) fun h => lkEnd x (s σ h)) := w
    cases q : eo σ h with
    | exc c p hx => rw [q] at w'; exact w'.elim
    | no => rw [q] at w'; exact w'.elim
    | ok x hx =>
      obtain ⟨rfl, v, rv⟩ := po _ _ _ _ _ _ _ _ L C q
      rw [q] at w'
      have w' : WS X.K cl W De m0 H0 m H (opt (setLk true x hx) fun h => lkEnd x (s σ h)) := w'
      cases e1 : setLk true x hx with
      | none => rw [e1] at w'; exact w'.elim
      | some h1 =>
        rw [e1] at w'
        obtain ⟨k, n, a, u, t, rows, rfl, rfl, hm, hH, mu, hg, ht, on⟩ := lk_on C rv e1
        refine ⟨a, u, hH, mu, fun od => ?_⟩
        obtain ⟨ex, C1, g1⟩ := on od
        have wu : Wr u := by rcases ht with ⟨_, kvs, rfl, _⟩ | ⟨_, kvs, rfl, _⟩ <;> trivial
        have nl : ∀ vs, u ≠ .lst vs := by rcases ht with ⟨_, kvs, rfl, _⟩ | ⟨_, kvs, rfl, _⟩ <;> (intro vs z; cases z)
        refine ⟨m, σ, h1, m0, H0, e0.trans ex, L.up ex, C1, ?_⟩
        have back : ∀ {m' : Mp} {H' : L2.Hp} {h2 h3 : Hp}, Ext m0 m' H0 H' → Ex2 m m' (upd H a (.frz od u)) H' → Hc X.K cl m' h2 H' → setLk false (.ref k n) h2 = some h3 →
            H' a = some (.frz od u) ∧ Imm m' m' H' (upd H' a u) ∧ Hc X.K cl m' h3 (upd H' a u) ∧ Ext m0 m' H0 (upd H' a u) ∧ Ex2 m m' H (upd H' a u) ∧ ∀ {σ2 : Lo} {σV2 : L2.St}, Lc X.K cl m' H0 H' σ2 σV2 → Lc X.K cl m' H0 (upd H' a u) σ2 σV2 := fun {m' H' h2 h3} f f2 C2 e3 => by
          have hH2 : H' a = some (.frz od u) := f2.frz a od u upd_same
          have hm2 := f2.pre _ _ _ hm
          obtain ⟨im, C3⟩ := lk_off C2 hm2 hH2 nl e3
          refine ⟨hH2, im, C3, e0.unlock0 hH wu f hH2, f2.unlock hH wu hH2, fun {σ2 σV2} L2' => ⟨L2'.len, fun i d hd => ?_, L2'.odi⟩⟩
          obtain ⟨v2, hv2, r2⟩ := L2'.loc i d hd
          exact ⟨v2, hv2, r2.imm im (fun b f _ => f) fun b u' nt q2 f3 _ _ => by
            have ne : b ≠ a := fun z => f3 k n (by rw [z]; exact hm2)
            rw [upd_ne ne]
            exact q2⟩
        have w' : WS X.K cl W De m0 H0 m H (lkEnd (.ref k n) (s σ h1)) := w'
        cases qs : s σ h1 with
        | exc c p h2 => rw [qs] at w'; exact w'.elim
        | no => rw [qs] at w'; exact w'.elim
        | ok fl h2 =>
          rw [qs] at w'
          cases fl with
          | exc c p σ2 => exact w'.elim
          | nxt σ2 =>
            have w' : WS X.K cl W De m0 H0 m H (opt (setLk false (.ref k n) h2) fun h => .ok (.nxt σ2) h) := w'
            cases e3 : setLk false (.ref k n) h2 with
            | none => rw [e3] at w'; exact w'.elim
            | some h3 =>
              rw [e3] at w'
              intro m' H' σV2 f f2 C2 L2'
              obtain ⟨z1, im, C3, f3, f4, lc⟩ := back f f2 C2 e3
              exact ⟨z1, w' m' _ σV2 f3 f4 C3 (lc L2')⟩
          | brk σ2 =>
            have w' : WS X.K cl W De m0 H0 m H (opt (setLk false (.ref k n) h2) fun h => .ok (.brk σ2) h) := w'
            cases e3 : setLk false (.ref k n) h2 with
            | none => rw [e3] at w'; exact w'.elim
            | some h3 =>
              rw [e3] at w'
              intro m' H' σV2 f f2 C2 L2'
              obtain ⟨z1, im, C3, f3, f4, lc⟩ := back f f2 C2 e3
              exact ⟨z1, w' m' _ σV2 f3 f4 C3 (lc L2')⟩
          | cnt σ2 =>
            have w' : WS X.K cl W De m0 H0 m H (opt (setLk false (.ref k n) h2) fun h => .ok (.cnt σ2) h) := w'
            cases e3 : setLk false (.ref k n) h2 with
            | none => rw [e3] at w'; exact w'.elim
            | some h3 =>
              rw [e3] at w'
              intro m' H' σV2 f f2 C2 L2'
              obtain ⟨z1, im, C3, f3, f4, lc⟩ := back f f2 C2 e3
              exact ⟨z1, w' m' _ σV2 f3 f4 C3 (lc L2')⟩
          | ret d =>
            have w' : WS X.K cl W De m0 H0 m H (opt (setLk false (.ref k n) h2) fun h => .ok (.ret d) h) := w'
            cases e3 : setLk false (.ref k n) h2 with
            | none => rw [e3] at w'; exact w'.elim
            | some h3 =>
              rw [e3] at w'
              intro m' H' v2 f f2 C2 r2
              obtain ⟨z1, im, C3, f3, f4, lc⟩ := back f f2 C2 e3
              exact ⟨z1, w' m' _ v2 f3 f4 C3 (r2.upI im)⟩
end
end IP

/-! k in x, k not in x, len(x) of a dict that one name holds. -/
namespace IP
open PySem PySem.Spec PyProof.Rows L2
section
variable {X : Cx} {cl : Cl} {W : WX} {x : Str} {i : Nat} {k : Expr} {ek : E} {pos npos p : Pos}
theorem oin_use {b : Bool} {r : R2} (hr : ∀ (v : V) (a : Addr) (o : Option V) (H : L2.Hp) (Q : VK), DGet H a v o → Q (.bl (o.isSome == b)) H → r v (.ref a) H Q) {σV : L2.St} {H : L2.Hp} {Q : VK} (w : tE X.K cl W (eOIn b i ek) σV H Q) : tOp r (tE X.K cl W ek) (tVar i) σV H Q := by
  obtain ⟨m, σ, h, H0, L, C, w⟩ := w
  refine tE.use L C w fun d h1 m1 H1 v e1 L1 C1 r1 w1 => ?_
  cases hσ : σ[i]? with
  | none => simp only [hσ] at w1; exact w1.elim
  | some o =>
  cases o with
  | none => simp only [hσ] at w1; exact w1.elim
  | some d0 =>
  cases d0 <;> first | (simp only [hσ] at w1; exact w1.elim) | skip
  rename_i t rows
  simp only [hσ] at w1
  obtain ⟨hg, w2⟩ := WP.grd w1
  obtain ⟨v1, hv1, q1⟩ := L1.loc i _ hσ
  refine ⟨v1, hv1, ?_⟩
  cases t
  · obtain ⟨a, kvs, rfl, hH, rs, n0, fr⟩ := q1
    obtain ⟨k', rfl, rfl⟩ := isK_of r1 hg
    refine hr _ _ _ _ _ (.inl ⟨kvs, k', .inl hH, rfl, rfl⟩) ?_
    rw [← (rs.look k').some]
    exact WP.ok w2 C1 _ (.bl _)
  · obtain ⟨a, kvs, rfl, hH, rs, n0, fr⟩ := q1
    obtain ⟨ks, c, rfl, rfl, eb⟩ := isT_of r1 hg
    refine hr _ _ _ _ _ (.inr ⟨kvs, ks, c, .inl hH, rfl, eb, rfl⟩) ?_
    rw [← (rs.look ks).some]
    exact WP.ok w2 C1 _ (.bl _)
theorem snd_oin (hu : X.A.units + 1 < cLine) (hN : X.N[i]? = some x) (hv : Vis X.env.scope x) (hk : PE X k (tE X.K cl W ek)) (hd : (x == ("__debug__" : Str)) = false := by decide) (hcd : (x == ("__classdict__" : Str)) = false := by decide) :
    PE X (.Compare k [.In] [.Name x npos] pos) (tE X.K cl W (eOIn true i ek)) :=
  pe_imp (pe_cmpR (op_inDict hu) hk (pe_var hN hv hd hcd) rfl) fun _ _ _ w => oin_use (fun v a o H Q g q => ⟨a, o, rfl, g, by simpa using q⟩) w
theorem snd_onotin (hu : X.A.units + 1 < cLine) (hN : X.N[i]? = some x) (hv : Vis X.env.scope x) (hk : PE X k (tE X.K cl W ek)) (hd : (x == ("__debug__" : Str)) = false := by decide) (hcd : (x == ("__classdict__" : Str)) = false := by decide) :
    PE X (.Compare k [.NotIn] [.Name x npos] pos) (tE X.K cl W (eOIn false i ek)) :=
  pe_imp (pe_cmpR (op_notInDict hu) hk (pe_var hN hv hd hcd) rfl) fun _ _ _ w => oin_use (fun v a o H Q g q => ⟨a, o, rfl, g, by simpa using q⟩) w
theorem snd_olenD (hN : X.N[i]? = some x) (hv : Vis X.env.scope x) (hg : Gl X "len") (hm : X.mg "len" = none) (hd : (x == ("__debug__" : Str)) = false := by decide) (hcd : (x == ("__classdict__" : Str)) = false := by decide) (he : starEach [(.Name x npos : Expr)] X.env = (false, eval (.Name x npos) X.env) :: starEach [] X.env := by rfl) :
    PE X (.Call (.Name "len" p) [.Name x npos] [] pos) (tE X.K cl W (eOLenD i)) :=
  pe_imp (pe_fq (pe_callB call_lenA hg hm boot_len2 (pa_cons (pe_var hN hv hd hcd) pa_nil he) (by decide) (by decide) he rfl)) fun σV H Q ⟨m, σ, h, H0, L, C, w⟩ => by
    unfold eOLenD at w
    cases hσ : σ[i]? with
    | none => simp only [hσ] at w; exact w.elim
    | some o =>
    cases o with
    | none => simp only [hσ] at w; exact w.elim
    | some d0 =>
    cases d0 <;> first | (simp only [hσ] at w; exact w.elim) | skip
    rename_i t rows
    cases t
    · simp only [hσ] at w
      obtain ⟨v1, hv1, a, kvs, rfl, hH, rs, n0, fr⟩ := L.loc i _ hσ
      refine ⟨_, hv1, ?_⟩
      exact .inr ⟨a, kvs, rfl, .inl hH, .inl (by rw [← rs.length]; exact WP.ok w C _ (.int _))⟩
    · simp only [hσ] at w; exact w.elim
end
end IP

/-! len(set(t)) of a tuple of texts. -/
namespace IP
open PySem PySem.Spec PyProof.Rows L2
noncomputable section
/-- how many unlike ones, counted from the end -/
def cnR : List Str → Nat
  | [] => 0
  | x :: r => if x ∈ r then cnR r else cnR r + 1
def cn (l : List Str) : Nat := cnR l.reverse
def cnSR : List Str → Nat
  | [] => 0
  | x :: r => if r.any (fun y => eqS y x) then cnSR r else cnSR r + 1
def lenD (xs : List D) (h : Hp) : R D := opt (strsD xs) fun ss => grd (decide (ss.length < 4096)) (.ok (.int (cnSR ss.reverse : Nat)) h)
def fLenD : D → Hp → R D
  | .tup xs, h => lenD xs h
  | .ctp xs, h => lenD xs h
  | _, _ => .no
end
theorem cnSR_eq : ∀ l : List Str, cnSR l = cnR l
  | [] => rfl
  | x :: r => by
    unfold cnSR cnR
    rw [cnSR_eq r]
    have e : (r.any fun y => eqS y x) = decide (x ∈ r) := by
      rw [Bool.eq_iff_iff, List.any_eq_true, decide_eq_true_iff]
      constructor
      · rintro ⟨y, hy, e⟩
        rw [eqS_iff, decide_eq_true_iff] at e
        exact e ▸ hy
      · intro h
        exact ⟨x, h, by rw [eqS_iff, decide_eq_true_iff]⟩
    rw [e]
    by_cases c : x ∈ r
    · rw [if_pos c, if_pos (decide_eq_true c)]
    · rw [if_neg c, if_neg (by simpa using c)]
theorem cn_snoc (l : List Str) (x : Str) : cn (l ++ [x]) = if x ∈ l then cn l else cn l + 1 := by
  unfold cn
  rw [List.reverse_append]
  show (if x ∈ l.reverse then cnR l.reverse else cnR l.reverse + 1) = _
  simp only [List.mem_reverse]
theorem cnR_le : ∀ l : List Str, cnR l ≤ l.length
  | [] => Nat.le_refl _
  | x :: r => by
    unfold cnR
    have := cnR_le r
    rw [List.length_cons]
    split <;> omega
theorem cn_le (l : List Str) : cn l ≤ l.length := by
  have := cnR_le l.reverse
  rw [List.length_reverse] at this
  exact this
section
variable {pg : Program} {wd : World} {A : Around}
/-- the set at S holds the first i texts -/
def GotD (pg : Program) (wd : World) (zs : List Str) (S : Addr) (i : Nat) (h : Heap) : Prop := h.SetOf (PySem.strKind pg wd) S (fun k => decide (k ∈ zs.take i)) (cn (zs.take i))
theorem GotD.keep {zs : List Str} {S : Addr} {i : Nat} {h h' : Heap} (g : GotD pg wd zs S i h) (e : ∀ o, h.get? S = some o → h'.get? S = some o) : GotD pg wd zs S i h' := by
  obtain ⟨o, es, ep, t, ho, r⟩ := g
  exact ⟨o, es, ep, t, e _ ho, r⟩
theorem new_atD {zs : List Str} {i : Nat} (hi : i < zs.length) : zs.take (i + 1) = zs.take i ++ [zs[i]] := by
  rw [List.take_add_one, List.getElem?_eq_getElem hi]
  rfl
theorem set_loopD {R : Result → Shared → Prop} {I : Addr} {fp wr : List Addr} {G : Array GenState → Array GenState → Prop} {n : Nat} {P : Nat → Value → Prop} {St : Nat → Shared → Prop} (W : WalksS pg wd A.in1 I fp wr G n P St) {S : Addr} (nS : S ∉ fp) {zs : List Str} (hn : zs.length = n) (hb : n < 4096)
    (hv : ∀ i v, P i v → ∃ t x, zs[i]? = some x ∧ v = .str x t) : ∀ (k i : Nat) (t : Shared), n - i = k → i ≤ n → St i t → GotD pg wd zs S i t.heap →
      (∀ t', Moved (S :: wr) G t t' → GotD pg wd zs S n t'.heap → R (.ok (.ret .none)) t') → codeAny (model pg wd) A (.builtin "set.update.loop" ⟨[.ref S, .ref I], []⟩) R t := by
  have nW : S ∉ wr := fun z => nS (W.sub _ z)
  have up : ∀ b ∈ wr, b ∈ S :: wr := fun b z => List.mem_cons_of_mem _ z
  intro k
  induction k with
  | zero =>
    intro i t hk hi st g hR
    obtain rfl : i = n := by omega
    refine codeAny_builtin PyProof.Rows.F.entry_set_update_loop ?_
    rw [Around.under_plainId PyProof.Rows.F.plain_set_update_loop]
    show wpAny _ _ (pyNext (.ref I) >>= _) _ _ t
    refine wpAny_bind (W.done t _ _ st fun t' mv => ?_)
    show wpAny _ _ (ret Value.none) _ _ t'
    exact wpAny_pure (hR t' (mv.mono up) (g.keep fun o => mv.heap S o nW))
  | succ k ih =>
    intro i t hk hi st g hR
    have lt : i < n := by omega
    refine codeAny_builtin PyProof.Rows.F.entry_set_update_loop ?_
    rw [Around.under_plainId PyProof.Rows.F.plain_set_update_loop]
    show wpAny _ _ (pyNext (.ref I) >>= _) _ _ t
    refine wpAny_bind (W.item i t _ _ lt st fun v t1 p st1 mv => ?_)
    obtain ⟨tk, x, hx, rfl⟩ := hv i v p
    have g1 : GotD pg wd zs S i t1.heap := g.keep fun o => mv.heap S o nW
    show wpAny _ _ (holding [Value.str x tk] (setAdd S (.str x tk)) >>= _) _ _ t1
    refine wpAny_bind (wpAny_holding ?_)
    unfold setAdd
    refine wpAny_holding (wpAny_bind ((PySem.strKind pg wd).pyHash (k := x) (strKind_is ..) ?_))
    refine wpAny_setAddHashed_of (knd := PySem.strKind pg wd) (s := { t1 with toks := t1.toks + 1 }) (strKind_is ..) rfl g1 (by unfold scanBound; have := cn_le (zs.take i); rw [List.length_take] at this; omega) fun h2 same g2 => ?_
    have li : i < zs.length := by omega
    have ex : zs[i] = x := by rw [List.getElem?_eq_getElem li] at hx; exact Option.some.inj hx
    have e1 := new_atD li
    have g3 : GotD pg wd zs S (i + 1) h2 := by
      rw [ex] at e1
      refine SetOf_congr g2 (fun k => ?_) ?_
      · rw [e1, ← Bool.decide_or]
        exact decide_eq_decide.mpr (by simp)
      · rw [e1, cn_snoc]
        by_cases c : x ∈ zs.take i
        · simp [c]
        · simp [c]
    have k2 : ∀ b o, b ≠ S → t1.heap.get? b = some o → h2.get? b = some o := fun b o z e => by rw [same.2 b z]; exact e
    refine wpAny_pure ⟨plainId_quiet PyProof.Rows.F.plain_set_update_loop _, ih (i + 1) _ (by omega) lt (W.frame _ t1 _ _ st1 (Nat.le_succ _) fun b z o e => k2 b o (fun q => nS (q ▸ z)) e) g3 fun t3 mv3 g4 => ?_⟩
    exact hR t3 (Moved.trans W.gtrans ((mv.mono up).then_heap (Nat.le_succ _) fun b o z e => k2 b o (fun q => z (q ▸ List.mem_cons_self)) e) mv3) g4
/-- set(t) -/
theorem set_tupD {t0 : Shared} {E : Value → Shared → Prop} {l : Addr} {its : Array Value} {zs : List Str} {Q : Value → Shared → Prop} (hh : A.handled = none) (tl : t0.heap.IsTuple l its) (hn : zs.length = its.size) (hb : its.size < 4096) (hv : ∀ (i : Nat) (v : Value), its[i]? = some v → ∃ t x, zs[i]? = some x ∧ v = .str x t)
    (h : ∀ (h2 : Heap) (tk : Nat), GotD pg wd zs t0.heap.objs.size its.size h2 → (∀ b o, t0.heap.get? b = some o → h2.get? b = some o) → Q (.ref t0.heap.objs.size) { t0 with heap := h2, toks := tk }) : wpAny (model pg wd) A (call (.type "set") [.ref l]) Q E t0 := by
  obtain ⟨c, ct, hmro⟩ := PySem.F.called_set.mro
  have q1 := PySem.F.called_set.made
  have q2 := PySem.F.called_set.sub
  have q3 := PySem.F.called_set.notType
  have q4 := PySem.F.called_set.canCreate
  have q5 := PySem.F.typeCall_set_1 (.ref l)
  refine wpAny_call (codeAny_of_tree (show wpAny _ _ (callAny (.type "set") _) _ _ _ from ?_))
  refine wpAny_pure ⟨Code.quiet_builtin _ (by decide +kernel), codeAny_builtin PySem.F.entry_type_call ?_⟩
  rw [Around.under_plain (weight_type_call_type "set" [.ref l] []) rfl]
  repeat (any_goals (first | assumption | wp_step))
  have nw : ∀ led : Bool, (t0.heap.push { cls := .type "set", dict := none, data := .set #[] 0 (.fresh 0 0 led) }).get? t0.heap.objs.size = some { cls := .type "set", dict := none, data := .set #[] 0 (.fresh 0 0 led) } := fun led => Heap.get?_push_size _ rfl
  refine codeAny_mono (code_set_new_1 (.ref l) (E := E) (Q₁ := fun ob t1 => ∃ led : Bool, ob = .ref t0.heap.objs.size ∧ t1 = { t0 with heap := t0.heap.push { cls := .type "set", dict := none, data := .set #[] 0 (.fresh 0 0 led) } }) fun led => ⟨led, rfl, rfl⟩) fun r t1 hr => ?_
  match r, hr with
  | .error e, hr => exact hr
  | .ok (.ret ob), hr =>
    obtain ⟨led, rfl, rfl⟩ := hr
    have ty : Shared.TypeIs { t0 with heap := t0.heap.push { cls := .type "set", dict := none, data := .set #[] 0 (.fresh 0 0 led) } } (.ref t0.heap.objs.size) "set" := ⟨_, nw led, rfl⟩
    have q6 := PySem.F.called_set.init.lookup
    have q7 := PySem.F.called_set.init.bind (.ref t0.heap.objs.size)
    repeat (any_goals (first | assumption | wp_step))
    refine codeAny_mono (codeAny_call_builtin (R := wants (fun r t2 => r = .none ∧ ∃ h2 tk, t2 = { t0 with heap := h2, toks := tk } ∧ GotD pg wd zs t0.heap.objs.size its.size h2 ∧ ∀ b o, t0.heap.get? b = some o → h2.get? b = some o) E) PySem.F.called_set.init.plain PySem.F.entry_set_init (check_set_init_1 ty ?_)) fun r t2 hr => ?_
    · obtain ⟨⟨oc, od, odt, osl⟩, ho, hc, nl, hd⟩ := tl
      simp only at hc hd
      subst hc hd
      have tl1 : (t0.heap.push { cls := .type "set", dict := none, data := .set #[] 0 (.fresh 0 0 led) }).IsTuple l its := ⟨_, Heap.get?_push_of_some _ ho, rfl, nl, rfl⟩
      have ho1 := Heap.get?_push_of_some { cls := .type "set", dict := none, data := .set #[] 0 (.fresh 0 0 led) } ho
      have u1 := PySem.F.sub_tuple_set
      have u2 := PySem.F.sub_tuple_frozenset
      have u3 : (Value.type "tuple" == Value.type "dict") = false := by decide
      unfold Builtin.«set.__init__» noKeywords Builtin.Frozenset.updateFrom
      generalize hPI : pyIter = PI
      wp_walk
      subst hPI
      refine wpAny_pyIter_tuple tl1 (wpAny_bind (wpAny_runValue ?_))
      have ll : l < t0.heap.objs.size := Heap.lt_size ho
      have hh3 : A.in1.in1.in1.handled = none := by simp [hh]
      have sz : (t0.heap.push { cls := .type "set", dict := none, data := .set #[] 0 (.fresh 0 0 led) }).objs.size = t0.heap.objs.size + 1 := Heap.size_push ..
      have ne : l ≠ (t0.heap.push { cls := .type "set", dict := none, data := .set #[] 0 (.fresh 0 0 led) }).objs.size := by rw [sz]; exact Nat.ne_of_lt (Nat.lt_succ_of_lt ll)
      refine set_loopD ((Walks.tuple hh3 _ l ne its).toS) (S := t0.heap.objs.size) (fun z => ?_) hn hb hv (its.size - 0) 0 _ (by omega) (Nat.zero_le _) ⟨⟨_, Heap.get?_push_size _ rfl, rfl, rfl⟩, tl1.push _⟩ ?_ fun t3 mv g => ?_
      · rw [sz] at z
        simp only [List.mem_cons, List.not_mem_nil, or_false] at z
        rcases z with z | z
        · exact absurd z (Nat.ne_of_lt (Nat.lt_succ_self _))
        · exact absurd z (Nat.ne_of_gt ll)
      · exact SetOf_congr ((PyProof.Rows.setObjOf_fresh (knd := PySem.strKind pg wd) led).setOf (Heap.get?_push_of_some _ (nw led)) (by unfold scanBound; omega)) (fun _ => by simp) rfl
      · obtain ⟨h9, g9, d9, k9, o9⟩ := t3
        obtain rfl : g9 = t0.gens := mv.gens
        obtain rfl : d9 = t0.drawn := mv.drawn
        obtain rfl : o9 = t0.os := mv.os
        refine wpAny_pure ?_
        show wpAny _ _ (ret Value.none) _ _ _
        refine wpAny_pure ⟨rfl, h9, k9, rfl, g, fun b o e => ?_⟩
        have lb : b < t0.heap.objs.size := Heap.lt_size e
        refine mv.heap b o (fun z => ?_) (Heap.get?_push_of_some _ (Heap.get?_push_of_some _ e))
        rw [sz] at z
        simp only [List.mem_cons, List.not_mem_nil, or_false] at z
        rcases z with z | z
        · exact absurd z (Nat.ne_of_lt lb)
        · exact absurd z (Nat.ne_of_lt (Nat.lt_succ_of_lt lb))
    · match r, hr with
      | .error e, hr => exact hr
      | .ok (.ret r), hr =>
        obtain ⟨rfl, h2, tk, rfl, g, keep⟩ := hr
        repeat (any_goals (first | assumption | wp_step))
        exact h _ _ g keep
end
section
variable {X : Cx}
/-- len(set(x)), x a tuple of unlike texts -/
def tLenD (K : PySem.W.Frag) (ta : TE) : TE := fun σ H Q => ta σ H fun x H1 => ∃ l, ∃ zs : List Str, x = .ref l ∧ SqT K H1 l (zs.map V.str) ∧ zs.length < 4096 ∧ Q (.int (cn zs)) H1
theorem pe_lenD {a : Expr} {ta : TE} {p1 p2 q po : Pos} (hc : X.calm = true) (hl : Gl X "len") (ml : X.mg "len" = none) (hs : Gl X "set") (ms : X.mg "set" = none) (ha : PE X a ta) (na : starEach [a] X.env = (false, eval a X.env) :: starEach [] X.env := by rfl) :
    PE X (.Call (.Name "len" p1) [.Call (.Name "set" p2) [a] [] q] [] po) (tLenD X.K ta) := ⟨fun ps s σ H Q I w => by
  refine Call_ (ld_blt I hl ml boot_len (PyProof.Rows.callWith_builtin1 (PyProof.Rows.args_cons ?_ rfl) rfl rfl))
  refine Call_ (ld_blt I hs ms boot_set (PyProof.Rows.callWith_type1 (PyProof.Rows.args_cons (thn (ha.run ps s σ H _ I w) fun v s1 ⟨x, H1, I1, r1, l, zs, e, tq, lt, q1⟩ => PyProof.Rows.args_nil ?_) na) na rfl))
  subst e
  cases r1
  obtain ⟨its, r, tl, hz⟩ := I1.tuple tq
  have len : its.length = zs.length := by rw [← r.length, List.length_map]
  have at' : ∀ {zs : List Str} {its : List Value}, Vals (zs.map V.str) its → ∀ (i : Nat) (v : Value), its[i]? = some v → ∃ t x, zs[i]? = some x ∧ v = .str x t := by
    intro zs
    induction zs with
    | nil => intro its r i v z; cases r; simp at z
    | cons z zs ih =>
      intro its r i v e
      cases r with
      | cons a r =>
        cases i with
        | zero =>
          obtain ⟨k, rfl⟩ := a
          simp at e
          exact ⟨k, z, rfl, e.symm⟩
        | succ i => exact ih r i v (by simpa using e)
  refine set_tupD (I1.ok.hd hc) tl (by simpa using len.symm) (by simpa [len] using lt) (fun i v e => at' r i v (by simpa using e)) fun h2 tk g keep => ?_
  refine PyProof.Rows.args_nil ?_
  obtain ⟨o, es, ep, t, ho, hex, hd, _, _, _, hf, hn⟩ := g
  have hn : es.size = cn zs := by rw [hn, List.size_toArray, len, List.take_length]
  have I2 : Inv X ps σ H1 { s1 with heap := h2, toks := tk } := I1.kept fun b o e => keep b o e
  exact call_len_set ho hex hd hf (by have := cn_le zs; rw [hn]; unfold sizeLine at *; omega) ⟨.int (cn zs), H1, I2.tok _, ⟨_, by rw [hn]⟩, q1⟩⟩
variable {cl : Cl} {W : WX} {a : Expr} {ea : E} {pos : Pos}
theorem snd_lend {q p1 p2 : Pos} (hc : X.calm = true) (hl : Gl X "len") (ml : X.mg "len" = none) (hs : Gl X "set") (ms : X.mg "set" = none) (ha : PE X a (tE X.K cl W ea)) (na : starEach [a] X.env = (false, eval a X.env) :: starEach [] X.env := by rfl) :
    PE X (.Call (.Name "len" p1) [.Call (.Name "set" p2) [a] [] q] [] pos) (tE X.K cl W (one fLenD ea)) :=
  pe_imp (pe_lenD hc hl ml hs ms ha na) fun σV H Q ⟨m, σ, h, H0, L, C, w⟩ => tE.use L C w fun d h1 m1 H1 v e1 L1 C1 r1 w1 => by
    have fin : ∀ {l : Addr} {xs : List D} {vs : List V}, SqT X.K H1 l vs → RDs X.K cl H1 m1 xs vs → WP X.K cl (wx X.K cl W σV) m1 H1 (lenD xs h1) (Rt X.K cl Q) → ∃ l', ∃ zs : List Str, V.ref l = .ref l' ∧ SqT X.K H1 l' (zs.map V.str) ∧ zs.length < 4096 ∧ Q (.int (cn zs)) H1 := fun {l xs vs} s r w => by
      obtain ⟨ss, e, w⟩ := WP.opt w
      obtain ⟨c, w⟩ := WP.grd w
      obtain rfl := strsD_of r e
      rw [cnSR_eq] at w
      exact ⟨l, ss, rfl, s, of_decide_eq_true c, WP.ok w C1 _ (.int _)⟩
    cases r1 with
    | tup q r => exact fin (.inl (.inl q)) r w1
    | ctp q r => exact fin (q H1) r w1
    | _ => exact w1.elim
end
end IP

/-! list(x) of a list of ours, too. -/
namespace IP
open PySem PySem.Spec PyProof.Rows L2
noncomputable section
def fListA : D → Hp → R D := fun d h => match d with
  | .ref k n => (match h.get k n with
    | some (.lst xs) => .ok (.lst xs) h
    | _ => .no)
  | d => fList d h
end
section
variable {K : PySem.W.Frag} {cl : Cl}
theorem bis_listA : BiS K cl fListA (fun xs H Q => ∃ p ys, xs = [.ref p] ∧ (SqL K H p ys ∨ SqT K H p ys) ∧ ∀ l, H l = none → Q (.ref l) (upd H l (.lst ys))) := fun x v E m h H Q C rx w => by
  cases x with
  | ref k n =>
    cases rx with
    | ref hm =>
      have w : WP K cl E m H (match h.get k n with
        | some (.lst xs) => .ok (.lst xs) h
        | _ => .no) (Rt K cl Q) := w
      cases q : h.get k n with
      | none => rw [q] at w; exact w.elim
      | some ob =>
        rw [q] at w
        match ob, q, w with
        | .lst xs, q, w =>
          obtain ⟨vs, z, r⟩ := C.obj k n _ _ q hm
          exact ⟨_, vs, rfl, .inl (.inl (.inl z)), fun p n => fq_new C r w n⟩
  | _ => exact bis_list _ _ _ _ _ _ _ C rx w
end
section
variable {X : Cx} {cl : Cl} {W : WX} {e : Expr} {ea : E} {pos p : Pos}
theorem snd_listA (hc : X.calm = true) (hg : Gl X "list") (hm : X.mg "list" = none) (ha : PE X e (tE X.K cl W ea)) (he : starEach [e] X.env = (false, eval e X.env) :: starEach [] X.env := by rfl) : PE X (.Call (.Name "list" p) [e] [] pos) (tE X.K cl W (one fListA ea)) := snd_ty1 call_list_of bis_listA hg hm boot_lst ha (by decide) (by decide) he
end
end IP

namespace K48
open PySem IP
noncomputable section
/-! ### the defs that the law reaches, as terms of IP -/
def nmK (c : Nat) : Option Str := match nth [⟨#[78, 111, 78, 117, 109, 98, 101, 114]⟩, ⟨#[78, 111, 78, 97, 109, 101]⟩, ⟨#[78, 111, 87, 97, 110, 116, 115]⟩, ⟨#[78, 111, 76, 97, 121, 101, 114, 115]⟩, ⟨#[78, 111, 80, 97, 116, 104]⟩, ⟨#[78, 111, 87, 111, 114, 100, 115]⟩, ⟨#[78, 111, 75, 105, 110, 100, 115]⟩, ⟨#[78, 111, 80, 114, 111, 99, 101, 115, 115]⟩, ⟨#[78, 111, 71, 114, 111, 117, 112]⟩, ⟨#[78, 111, 83, 116, 111, 114, 101]⟩, ⟨#[78, 111, 67, 101, 108, 108]⟩, ⟨#[84, 97, 107, 101, 110]⟩, ⟨#[73, 116, 115, 101, 108, 102]⟩, ⟨#[70, 114, 111, 122, 101, 110]⟩, ⟨#[67, 97, 112, 112, 101, 100]⟩, ⟨#[79, 118, 101, 114]⟩, ⟨#[84, 111, 111, 70, 101, 119]⟩, ⟨#[71, 117, 97, 114, 100, 101, 100]⟩, ⟨#[78, 111, 83, 117, 99, 104]⟩, ⟨#[78, 111, 67, 104, 105, 108, 100]⟩, ⟨#[78, 111, 116, 89, 101, 116]⟩, ⟨#[78, 111, 77, 111, 117, 110, 116]⟩, ⟨#[70, 105, 120, 101, 100]⟩, ⟨#[78, 111, 70, 105, 108, 101]⟩, ⟨#[72, 101, 108, 100]⟩, ⟨#[78, 111, 116, 67, 108, 111, 115, 101, 100]⟩, ⟨#[78, 111, 80, 105, 99, 116, 117, 114, 101]⟩, ⟨#[78, 111, 68, 101, 101, 100, 115]⟩, ⟨#[78, 111, 84, 101, 120, 116]⟩] c with
  | some s => some s
  | none => none
def b_Group___init__ : S := (bCons (sAsg (gFld [0] 0 (eLoc 0)) (eLoc 1))
 (bCons (sAsg (gFld [0] 1 (eLoc 0)) (eLoc 2))
 (bCons (sAsg (gFld [0] 2 (eLoc 0)) (eLoc 3))
 (bCons (sAsg (gFld [0] 3 (eLoc 0)) (eCst (D.bl false)))
 bNil))))
def f_Group___init__ : Fn := mkFn 4 4 b_Group___init__
def b_Groups___init__ : S := (bCons (sAsg (gFld [1] 0 (eLoc 0)) (eDispR [((eCst (D.str ⟨#[121, 97, 114, 100]⟩)), (eMake 2 0 4 4 f_Group___init__ (aCons (eCst D.non) (aCons (eCst (D.int (1 : Int))) (aCons (eTup (aCons (eCst D.non) (aCons (eCst D.non) (aCons (eCst D.non) aNil)))) aNil)))))]))
 bNil)
def f_Groups___init__ : Fn := mkFn 1 1 b_Groups___init__
def b_Numbers___init__ : S := (bCons (sAsg (gFld [2] 0 (eLoc 0)) (eLoc 1))
 (bCons (sAsg (gFld [2] 1 (eLoc 0)) (eCst (D.int (1 : Int))))
 (bCons (sAsg (gFld [2] 2 (eLoc 0)) (eCst D.non))
 bNil)))
def f_Numbers___init__ : Fn := mkFn 2 2 b_Numbers___init__
def b_Rooms___init__ : S := (bCons (sAsg (gFld [3] 0 (eLoc 0)) (eDispR [((eCst (D.int (0 : Int))), (eMake 4 2 3 2 f_Numbers___init__ (aCons (eCst D.non) aNil)))]))
 (bCons (sAsg (gFld [3] 1 (eLoc 0)) (eDispR [((eCst (D.int (0 : Int))), (eMkd false))]))
 (bCons (sAsg (gFld [3] 2 (eLoc 0)) (eDispR [((eCst (D.int (0 : Int))), (eMkd false))]))
 (bCons (sAsg (gFld [3] 3 (eLoc 0)) (eDispR [((eCst (D.str ⟨#[110, 117, 109, 98, 101, 114, 115]⟩)), (eCst (D.int (1 : Int)))), ((eCst (D.str ⟨#[109, 111, 117, 110, 116, 115]⟩)), (eCst (D.int (1 : Int)))), ((eCst (D.str ⟨#[98, 111, 120, 101, 115]⟩)), (eCst (D.int (1 : Int))))]))
 bNil))))
def f_Rooms___init__ : Fn := mkFn 1 1 b_Rooms___init__
def b_Process___init__ : S := (bCons (sAsg (gFld [4] 0 (eLoc 0)) (eLoc 1))
 (bCons (sAsg (gFld [4] 1 (eLoc 0)) (eLoc 2))
 (bCons (sAsg (gFld [4] 2 (eLoc 0)) (eLoc 3))
 (bCons (sMul3 (gFld [4] 3 (eLoc 0)) (gFld [4] 4 (eLoc 0)) (gFld [4] 5 (eLoc 0)) (eCst (D.int (0 : Int))))
 (bCons (sAsg (gFld [4] 6 (eLoc 0)) (eDct0 false))
 (bCons (sAsg (gFld [4] 7 (eLoc 0)) (eCst (D.int (1 : Int))))
 (bCons (sMul3 (gFld [4] 8 (eLoc 0)) (gFld [4] 9 (eLoc 0)) (gFld [4] 10 (eLoc 0)) (eCst (D.int (0 : Int))))
 (bCons (sAsg (gFld [4] 11 (eLoc 0)) (eCst (D.ctp [(D.int (0 : Int)), (D.int (1 : Int))])))
 (bCons (sAsg (gFld [4] 12 (eLoc 0)) (eCst (D.bl false)))
 bNil)))))))))
def f_Process___init__ : Fn := mkFn 4 4 b_Process___init__
def b_Rooms_new_key : S := (bCons (sAugD fIAdd (one (fFld [3] 3) (eLoc 0)) (eLoc 1) (eCst (D.int (1 : Int))))
 (bCons (sRet (two fSub (two fIdx (one (fFld [3] 3) (eLoc 0)) (eLoc 1)) (eCst (D.int (1 : Int)))))
 bNil))
def f_Rooms_new_key : Fn := mkFn 2 2 b_Rooms_new_key
def b_Rooms_new_numbers : S := (bCons (sAsg (gLoc 2) (eMeth [3] 2 f_Rooms_new_key (eLoc 0) (aCons (eCst (D.str ⟨#[110, 117, 109, 98, 101, 114, 115]⟩)) aNil)))
 (bCons (sAsg (gSub (one (fFld [3] 0) (eLoc 0)) (eLoc 2)) (eMake 4 2 3 2 f_Numbers___init__ (aCons (eLoc 1) aNil)))
 (bCons (sRet (eLoc 2))
 bNil)))
def f_Rooms_new_numbers : Fn := mkFn 2 3 b_Rooms_new_numbers
def b_Rooms_new_mounts : S := (bCons (sAsg (gLoc 2) (eMeth [3] 2 f_Rooms_new_key (eLoc 0) (aCons (eCst (D.str ⟨#[109, 111, 117, 110, 116, 115]⟩)) aNil)))
 (bCons (sAsg (gSub (one (fFld [3] 1) (eLoc 0)) (eLoc 2)) (eCpy (two fIdx (one (fFld [3] 1) (eLoc 0)) (eLoc 1))))
 (bCons (sRet (eLoc 2))
 bNil)))
def f_Rooms_new_mounts : Fn := mkFn 2 3 b_Rooms_new_mounts
def b_Rooms_new_boxes : S := (bCons (sAsg (gLoc 1) (eMeth [3] 2 f_Rooms_new_key (eLoc 0) (aCons (eCst (D.str ⟨#[98, 111, 120, 101, 115]⟩)) aNil)))
 (bCons (sAsg (gSub (one (fFld [3] 2) (eLoc 0)) (eLoc 1)) (eMkd false))
 (bCons (sRet (eLoc 1))
 bNil)))
def f_Rooms_new_boxes : Fn := mkFn 1 2 b_Rooms_new_boxes
def b_Rooms_rooms_up : S := (bCons (sOwnL 2 aNil)
 (bCons (sWhl fuel (tVal (one fNotN (eLoc 1)))
 (bCons (sOApp 2 (eLoc 1))
 (bCons (sAsg (gLoc 1) (one (fFld [2] 0) (two fIdx (one (fFld [3] 0) (eLoc 0)) (eLoc 1))))
 bNil)))
 (bCons (sFrz 2)
 (bCons (sRet (eLoc 2))
 bNil))))
def f_Rooms_rooms_up : Fn := mkFn 2 3 b_Rooms_rooms_up
def b_Rooms_number_all : S := (bCons (sOwnD 3 false)
 (bCons (sFor (gLoc 4) (iSeq (eMeth [3] 2 f_Rooms_rooms_up (eLoc 0) (aCons (eLoc 2) aNil)))
 (bCons (sOPut 3 (eLoc 4) (one (fFld [2] 1) (two fIdx (one (fFld [3] 0) (eLoc 0)) (eLoc 4))))
 (bCons (sAugF [2] 1 fIAdd (two fIdx (one (fFld [3] 0) (eLoc 0)) (eLoc 4)) (eCst (D.int (1 : Int))))
 (bCons (sIf (tVal (two fEq (eOIdx 3 (eLoc 4)) (eCst (D.int (1 : Int)))))
 (bCons (sAsg (gFld [2] 2 (two fIdx (one (fFld [3] 0) (eLoc 0)) (eLoc 4))) (eLoc 1))
 bNil)
 bNil)
 bNil))))
 (bCons (sFrz 3)
 (bCons (sRet (eLoc 3))
 bNil))))
def f_Rooms_number_all : Fn := mkFn 3 5 b_Rooms_number_all
def b_Yards_add_process : S := (bCons (sAugF [1] 4 fIAdd (eLoc 0) (eCst (D.int (1 : Int))))
 (bCons (sAsg (gLoc 4) (eMake 6 4 13 4 f_Process___init__ (aCons (one (fFld [1] 4) (eLoc 0)) (aCons (eLoc 1) (aCons (eLoc 2) aNil)))))
 (bCons (sIf (tVal (one fNotN (eLoc 1)))
 (bCons (sAsg (gTup 3 (gCons (gFld [4] 3 (eLoc 4)) (gCons (gFld [4] 4 (eLoc 4)) (gCons (gFld [4] 5 (eLoc 4)) gNil)))) (eTup (aCons (one (fFld [4] 3) (eLoc 1)) (aCons (one (fFld [4] 4) (eLoc 1)) (aCons (one (fFld [4] 5) (eLoc 1)) aNil)))))
 (bCons (sAsg (gFld [4] 1 (eLoc 4)) (one (fFld [4] 0) (eLoc 1)))
 bNil))
 bNil)
 (bCons (sIf (tVal (two fIn (eCst (D.str ⟨#[110, 117, 109, 98, 101, 114, 115]⟩)) (eLoc 3)))
 (bCons (sAsg (gFld [4] 3 (eLoc 4)) (eMeth [3] 2 f_Rooms_new_numbers (one (fFld [1] 1) (eLoc 0)) (aCons (one (fFld [4] 3) (eLoc 4)) aNil)))
 bNil)
 bNil)
 (bCons (sIf (tVal (two fIn (eCst (D.str ⟨#[109, 111, 117, 110, 116, 115]⟩)) (eLoc 3)))
 (bCons (sAsg (gFld [4] 4 (eLoc 4)) (eMeth [3] 2 f_Rooms_new_mounts (one (fFld [1] 1) (eLoc 0)) (aCons (one (fFld [4] 4) (eLoc 4)) aNil)))
 bNil)
 bNil)
 (bCons (sIf (tVal (two fIn (eCst (D.str ⟨#[98, 111, 120, 101, 115]⟩)) (eLoc 3)))
 (bCons (sAsg (gFld [4] 5 (eLoc 4)) (eMeth [3] 1 f_Rooms_new_boxes (one (fFld [1] 1) (eLoc 0)) aNil))
 bNil)
 bNil)
 (bCons (sAsg (gFld [4] 6 (eLoc 4)) (eMeth [3] 3 f_Rooms_number_all (one (fFld [1] 1) (eLoc 0)) (aCons (one (fFld [4] 0) (eLoc 4)) (aCons (one (fFld [4] 3) (eLoc 4)) aNil))))
 (bCons (sAsg (gSub (one (fFld [1] 2) (eLoc 0)) (one (fFld [4] 0) (eLoc 4))) (eLoc 4))
 (bCons (sRet (one (fFld [4] 0) (eLoc 4)))
 bNil)))))))))
def f_Yards_add_process : Fn := mkFn 4 5 b_Yards_add_process
def b_Yards___init__ : S := (bCons (sEx (eCall 1 f_Groups___init__ (aCons (eLoc 0) aNil)))
 (bCons (sAsg (gFld [1] 1 (eLoc 0)) (eMake 5 3 4 1 f_Rooms___init__ aNil))
 (bCons (sAsg (gFld [1] 2 (eLoc 0)) (eMkd false))
 (bCons (sAsg (gFld [1] 3 (eLoc 0)) (eMkd false))
 (bCons (sAsg (gFld [1] 4 (eLoc 0)) (eCst (D.int (0 : Int))))
 (bCons (sEx (eMeth [1] 4 f_Yards_add_process (eLoc 0) (aCons (eCst D.non) (aCons (eCst (D.str ⟨#[121, 97, 114, 100]⟩)) (aCons (eTup aNil) aNil)))))
 bNil))))))
def f_Yards___init__ : Fn := mkFn 1 1 b_Yards___init__
def b_Yard___init__ : S := (bCons (sEx (eCall 1 f_Yards___init__ (aCons (eLoc 0) aNil)))
 (bCons (sAsg (gFld [1] 5 (eLoc 0)) (eMkd false))
 (bCons (sAsg (gFld [1] 6 (eLoc 0)) (eMkl aNil))
 bNil)))
def f_Yard___init__ : Fn := mkFn 1 1 b_Yard___init__
def b__law_pick : S := (bCons (sAsg (gLoc 3) (eIf (tVal (two fNe (eLoc 0) (eLst aNil))) (two fIdx (eLoc 0) (two fMod (eLoc 1) (one fLen (eLoc 0)))) (eCst (D.int (0 : Int)))))
 (bCons (sPar 4 5 (two fFdv (eLoc 3) (two fPow (eCst (D.int (10 : Int))) (eCst (D.int (18 : Int))))) (two fFdv (eLoc 1) (two fMax (one fLen (eLoc 0)) (eCst (D.int (1 : Int))))))
 (bCons (sWhl fuel (tAnd (tVal (two fGt (eLoc 4) (eCst (D.int (0 : Int))))) (tVal (two fGt (eLoc 5) (eCst (D.int (0 : Int))))))
 (bCons (sPar 4 5 (two fFdv (eLoc 4) (eCst (D.int (840 : Int)))) (two fSub (eLoc 5) (eCst (D.int (1 : Int)))))
 bNil))
 (bCons (sIf (tVal (two fGt (eLoc 4) (eCst (D.int (0 : Int)))))
 (bCons (sRet (two fMod (two fMod (eLoc 4) (eCst (D.int (840 : Int)))) (eLoc 2)))
 bNil)
 bNil)
 (bCons (sAsg (gLoc 6) (two fMod (two fMul (two fAdd (two fMul (eLoc 3) (eCst (D.int (31 : Int)))) (two fMul (eCst (D.int (6151 : Int))) (two fAdd (eLoc 1) (eCst (D.int (1 : Int)))))) (eCst (D.int (40692 : Int)))) (eCst (D.int (2147483399 : Int)))))
 (bCons (sRet (two fMod (two fMod (two fAdd (two fMul (eLoc 6) (eLoc 6)) (two fFdv (eLoc 6) (eCst (D.int (31 : Int))))) (eCst (D.int (2147483629 : Int)))) (eLoc 2)))
 bNil))))))
def f__law_pick : Fn := mkFn 3 7 b__law_pick
def b_is_name : S := (bCons (sRet (eAnd (one (fIs Ty.str) (eLoc 0)) (eAnd (eChain fLe fLe (eCst (D.int (1 : Int))) (one fLen (eLoc 0)) (eCst (D.int (6 : Int)))) (one fAll (eLc [1] (gLoc 1) (iSeq (eLoc 0)) tYes (two fIn (eLoc 1) (eCst (D.str ⟨#[97, 98, 99, 100, 101, 102, 103, 104, 105, 106, 107, 108, 109, 110, 111, 112, 113, 114, 115, 116, 117, 118, 119, 120, 121, 122]⟩))))))))
 bNil)
def f_is_name : Fn := mkFn 1 2 b_is_name
def b_Groups_look_group : S := (bCons (sIf (tOr (tNot (tVal (eCall 1 f_is_name (aCons (eLoc 1) aNil)))) (tVal (two fNotIn (eLoc 1) (one (fFld [1] 0) (eLoc 0)))))
 (bCons (sRaise 8)
 bNil)
 bNil)
 (bCons (sRet (two fIdx (one (fFld [1] 0) (eLoc 0)) (eLoc 1)))
 bNil))
def f_Groups_look_group : Fn := mkFn 2 2 b_Groups_look_group
def b_is_whole : S := (bCons (sRet (eAnd (one (fIs Ty.int) (eLoc 0)) (eAnd (eNot (one (fIs Ty.bool) (eLoc 0))) (eChain fLe fLe (eLoc 1) (eLoc 0) (eLoc 2)))))
 bNil)
def f_is_whole : Fn := mkFn 3 3 b_is_whole
def b_are_caps : S := (bCons (sRet (one fAll (eLc [1] (gLoc 1) (iSeq (eLoc 0)) tYes (eOr (one fIsN (eLoc 1)) (eCall 3 f_is_whole (aCons (eLoc 1) (aCons (eCst (D.int (0 : Int))) (aCons (eCst (D.int (9999 : Int))) aNil))))))))
 bNil)
def f_are_caps : Fn := mkFn 1 2 b_are_caps
def b_look_caps : S := (bCons (sIf (tNot (tVal (eCall 1 f_are_caps (aCons (eLoc 0) aNil))))
 (bCons (sRaise 0)
 bNil)
 bNil)
 bNil)
def f_look_caps : Fn := mkFn 1 1 b_look_caps
def b_Groups_look_lowered : S := (bCons (sIf (tAnd (tVal (one fNotN (two fIdx (eLoc 1) (eCst (D.int (0 : Int)))))) (tVal (two fLt (two fIdx (eLoc 1) (eCst (D.int (0 : Int)))) (eLoc 2))))
 (bCons (sRaiseP 15 (eLoc 2))
 bNil)
 bNil)
 (bCons (sIf (tAnd (tVal (one fNotN (two fIdx (eLoc 1) (eCst (D.int (1 : Int)))))) (tVal (two fLt (two fIdx (eLoc 1) (eCst (D.int (1 : Int)))) (eLoc 3))))
 (bCons (sRaiseP 15 (eLoc 3))
 bNil)
 bNil)
 bNil))
def f_Groups_look_lowered : Fn := mkFn 4 4 b_Groups_look_lowered
def b_Groups_way_up : S := (bCons (sOwnL 2 aNil)
 (bCons (sWhl fuel (tVal (one fNotN (eLoc 1)))
 (bCons (sOApp 2 (eLoc 1))
 (bCons (sAsg (gLoc 1) (one (fFld [0] 0) (two fIdx (one (fFld [1] 0) (eLoc 0)) (eLoc 1))))
 bNil)))
 (bCons (sFrz 2)
 (bCons (sRet (eLoc 2))
 bNil))))
def f_Groups_way_up : Fn := mkFn 2 3 b_Groups_way_up
def b_Groups_within : S := (bCons (sRet (eLc [2] (gLoc 2) (iSeq (one fSorted (one (fFld [1] 0) (eLoc 0)))) (tVal (two fIn (eLoc 1) (eMeth [1] 2 f_Groups_way_up (eLoc 0) (aCons (eLoc 2) aNil)))) (eLoc 2)))
 bNil)
def f_Groups_within : Fn := mkFn 2 3 b_Groups_within
def b_Yards_all_of : S := (bCons (sAsg (gLoc 2) (eMeth [1] 2 f_Groups_within (eLoc 0) (aCons (eLoc 1) aNil)))
 (bCons (sRet (eLc [3] (gLoc 3) (iSeq (one fSorted (one (fFld [1] 2) (eLoc 0)))) (tVal (two fIn (one (fFld [4] 2) (two fIdx (one (fFld [1] 2) (eLoc 0)) (eLoc 3))) (eLoc 2))) (two fIdx (one (fFld [1] 2) (eLoc 0)) (eLoc 3))))
 bNil))
def f_Yards_all_of : Fn := mkFn 2 4 b_Yards_all_of
def b_Yards_held_heads : S := (bCons (sRet (one fLen (eMeth [1] 2 f_Yards_all_of (eLoc 0) (aCons (eLoc 1) aNil))))
 bNil)
def f_Yards_held_heads : Fn := mkFn 2 2 b_Yards_held_heads
def b_Yards_held_units : S := (bCons (sRet (one fSum (eLc [2] (gLoc 2) (iSeq (eMeth [1] 2 f_Yards_all_of (eLoc 0) (aCons (eLoc 1) aNil))) tYes (one (fFld [4] 8) (eLoc 2)))))
 bNil)
def f_Yards_held_units : Fn := mkFn 2 3 b_Yards_held_units
def b_Deeds_put_caps : S := (bCons (sAsg (gLoc 3) (eMeth [1] 2 f_Groups_look_group (eLoc 0) (aCons (eLoc 1) aNil)))
 (bCons (sEx (eCall 1 f_look_caps (aCons (eLoc 2) aNil)))
 (bCons (sEx (eMeth [1] 4 f_Groups_look_lowered (eLoc 0) (aCons (eLoc 2) (aCons (eMeth [1] 2 f_Yards_held_units (eLoc 0) (aCons (eLoc 1) aNil)) (aCons (eMeth [1] 2 f_Yards_held_heads (eLoc 0) (aCons (eLoc 1) aNil)) aNil)))))
 (bCons (sAsg (gFld [0] 2 (eLoc 3)) (eLoc 2))
 bNil))))
def f_Deeds_put_caps : Fn := mkFn 3 4 b_Deeds_put_caps
def b_Yard_note : S := (bCons (sEx (eApp (one (fFld [1] 6) (eLoc 0)) (eLoc 1)))
 (bCons (sRet (eLoc 2))
 bNil))
def f_Yard_note : Fn := mkFn 3 3 b_Yard_note
def b_Yard_set_caps : S := (bCons (sEx (eMeth [1] 3 f_Deeds_put_caps (eLoc 0) (aCons (eLoc 1) (aCons (eTup (aCons (eLoc 2) (aCons (eLoc 3) (aCons (eLoc 4) aNil)))) aNil))))
 (bCons (sRet (eMethK [1] 1 1 [.non] [0, 2, 1] f_Yard_note (eLoc 0) aNil (aCons (eTup (aCons (eCst (D.str ⟨#[99, 97, 112, 115]⟩)) (aCons (eLoc 1) (aCons (eLoc 2) (aCons (eLoc 3) (aCons (eLoc 4) aNil)))))) aNil)))
 bNil))
def f_Yard_set_caps : Fn := mkFn 5 5 b_Yard_set_caps
def b_look_name : S := (bCons (sIf (tNot (tVal (eCall 1 f_is_name (aCons (eLoc 0) aNil))))
 (bCons (sRaise 1)
 bNil)
 bNil)
 bNil)
def f_look_name : Fn := mkFn 1 1 b_look_name
def b_is_path : S := (bCons (sRet (eAnd (one (fIs Ty.tuple) (eLoc 0)) (eAnd (two fLe (one fLen (eLoc 0)) (eCst (D.int (4 : Int)))) (one fAll (eLc [1] (gLoc 1) (iSeq (eLoc 0)) tYes (eCall 1 f_is_name (aCons (eLoc 1) aNil)))))))
 bNil)
def f_is_path : Fn := mkFn 1 2 b_is_path
def b_are_words : S := (bCons (sRet (eAnd (one (fIs Ty.str) (eLoc 0)) (eAnd (eChain fLe fLe (eCst (D.int (1 : Int))) (one fLen (eLoc 0)) (eCst (D.int (20 : Int)))) (one fAll (eLc [1] (gLoc 1) (iSeq (eLoc 0)) tYes (two fIn (eLoc 1) (eCst (D.str ⟨#[97, 98, 99, 100, 101, 102, 103, 104, 105, 106, 107, 108, 109, 110, 111, 112, 113, 114, 115, 116, 117, 118, 119, 120, 121, 122, 48, 49, 50, 51, 52, 53, 54, 55, 56, 57]⟩))))))))
 bNil)
def f_are_words : Fn := mkFn 1 2 b_are_words
def b_is_file : S := (bCons (sIf (tOr (tNot (tVal (one (fIs Ty.tuple) (eLoc 0)))) (tOr (tVal (two fNe (one fLen (eLoc 0)) (eCst (D.int (2 : Int))))) (tOr (tNot (tVal (eCall 1 f_is_path (aCons (two fIdx (eLoc 0) (eCst (D.int (0 : Int)))) aNil)))) (tVal (two fEq (two fIdx (eLoc 0) (eCst (D.int (0 : Int)))) (eTup aNil))))))
 (bCons (sRet (eCst (D.bl false)))
 bNil)
 bNil)
 (bCons (sRet (eOr (one fIsN (two fIdx (eLoc 0) (eCst (D.int (1 : Int))))) (eCall 1 f_are_words (aCons (two fIdx (eLoc 0) (eCst (D.int (1 : Int)))) aNil))))
 bNil))
def f_is_file : Fn := mkFn 1 1 b_is_file
def b_is_layer : S := (bCons (sIf (tOr (tNot (tVal (one (fIs Ty.tuple) (eLoc 0)))) (tOr (tVal (two fGt (one fLen (eLoc 0)) (eCst (D.int (12 : Int))))) (tNot (tVal (one fAll (eLc [1] (gLoc 1) (iSeq (eLoc 0)) tYes (eCall 1 f_is_file (aCons (eLoc 1) aNil))))))))
 (bCons (sRet (eCst (D.bl false)))
 bNil)
 bNil)
 (bCons sNo
 bNil))
def f_is_layer : Fn := mkFn 1 4 b_is_layer
def b_are_layers : S := (bCons (sRet (eAnd (one (fIs Ty.tuple) (eLoc 0)) (eAnd (two fLe (one fLen (eLoc 0)) (eCst (D.int (4 : Int)))) (one fAll (eLc [1] (gLoc 1) (iSeq (eLoc 0)) tYes (eCall 1 f_is_layer (aCons (eLoc 1) aNil)))))))
 bNil)
def f_are_layers : Fn := mkFn 1 2 b_are_layers
def b_look_layers : S := (bCons (sIf (tNot (tVal (eCall 1 f_are_layers (aCons (eLoc 0) aNil))))
 (bCons (sRaise 3)
 bNil)
 bNil)
 bNil)
def f_look_layers : Fn := mkFn 1 1 b_look_layers
def b_look_whole : S := (bCons (sIf (tNot (tVal (eCall 3 f_is_whole (aCons (eLoc 0) (aCons (eLoc 1) (aCons (eLoc 2) aNil))))))
 (bCons (sRaise 0)
 bNil)
 bNil)
 bNil)
def f_look_whole : Fn := mkFn 3 3 b_look_whole
def b_Yard_look_new_cell : S := (bCons (sEx (eCall 1 f_look_name (aCons (eLoc 1) aNil)))
 (bCons (sIf (tOr (tVal (two fIn (eLoc 1) (one (fFld [1] 0) (eLoc 0)))) (tVal (two fIn (eLoc 1) (one (fFld [1] 3) (eLoc 0)))))
 (bCons (sRaise 11)
 bNil)
 bNil)
 bNil))
def f_Yard_look_new_cell : Fn := mkFn 2 2 b_Yard_look_new_cell
def b_Groups_barred : S := (bCons (sFor (gLoc 5) (iSeq (eLoc 1))
 (bCons (sAsg (gLoc 6) (two fIdx (one (fFld [0] 2) (two fIdx (one (fFld [1] 0) (eLoc 0)) (eLoc 5))) (eLoc 4)))
 (bCons (sIf (tAnd (tVal (one fNotN (eLoc 6))) (tVal (two fGt (two fAdd (two fIdx (eLoc 2) (eLoc 5)) (eLoc 3)) (eLoc 6))))
 (bCons (sRaiseP 14 (eLoc 5))
 bNil)
 bNil)
 bNil)))
 bNil)
def f_Groups_barred : Fn := mkFn 5 7 b_Groups_barred
def b_Yards_look_heads : S := (bCons (sEx (eMeth [1] 5 f_Groups_barred (eLoc 0) (aCons (eLoc 1) (aCons (eDc false [3] (gLoc 3) (iSeq (eLoc 1)) tYes (eLoc 3) (eMeth [1] 2 f_Yards_held_heads (eLoc 0) (aCons (eLoc 3) aNil))) (aCons (eLoc 2) (aCons (eCst (D.int (1 : Int))) aNil))))))
 bNil)
def f_Yards_look_heads : Fn := mkFn 3 4 b_Yards_look_heads
def b_Groups_add_group : S := (bCons (sEx (eCall 1 f_look_name (aCons (eLoc 1) aNil)))
 (bCons (sEx (eMeth [1] 2 f_Groups_look_group (eLoc 0) (aCons (eLoc 2) aNil)))
 (bCons (sEx (eCall 3 f_look_whole (aCons (eLoc 3) (aCons (eCst (D.int (1 : Int))) (aCons (eCst (D.int (100 : Int))) aNil)))))
 (bCons (sEx (eCall 1 f_look_caps (aCons (eLoc 4) aNil)))
 (bCons (sIf (tVal (two fIn (eLoc 1) (one (fFld [1] 0) (eLoc 0))))
 (bCons (sRaise 11)
 bNil)
 bNil)
 (bCons (sAsg (gSub (one (fFld [1] 0) (eLoc 0)) (eLoc 1)) (eMake 2 0 4 4 f_Group___init__ (aCons (eLoc 2) (aCons (eLoc 3) (aCons (eLoc 4) aNil)))))
 bNil))))))
def f_Groups_add_group : Fn := mkFn 5 5 b_Groups_add_group
def b_flat_of : S := (bCons (sAsg (gLoc 4) (eDc2 false [1, 2, 3] (gLoc 1) (iSeq (eLoc 0)) [2, 3] (gTup 2 (gCons (gLoc 2) (gCons (gLoc 3) gNil))) (iSeq (eLoc 1)) (eLoc 2) (eLoc 3)))
 (bCons (sRet (eDc false [2] (gLoc 2) (iSeq (eLoc 4)) (tVal (one fNotN (two fIdx (eLoc 4) (eLoc 2)))) (eLoc 2) (two fIdx (eLoc 4) (eLoc 2))))
 bNil))
def f_flat_of : Fn := mkFn 1 5 b_flat_of
def b_Deeds_make_store : S := (bCons (sEx (eCall 1 f_look_name (aCons (eLoc 1) aNil)))
 (bCons (sEx (eCall 1 f_look_layers (aCons (eLoc 2) aNil)))
 (bCons (sIf (tVal (two fIn (eLoc 1) (one (fFld [1] 3) (eLoc 0))))
 (bCons (sRaise 11)
 bNil)
 bNil)
 (bCons (sAsg (gSub (one (fFld [1] 3) (eLoc 0)) (eLoc 1)) (eCall 1 f_flat_of (aCons (eLoc 2) aNil)))
 (bCons (sRet (one fLen (two fIdx (one (fFld [1] 3) (eLoc 0)) (eLoc 1))))
 bNil)))))
def f_Deeds_make_store : Fn := mkFn 3 3 b_Deeds_make_store
def b_Yard_open_cell : S := (bCons (sEx (eCall 1 f_look_name (aCons (eLoc 1) aNil)))
 (bCons (sEx (eCall 1 f_look_layers (aCons (eLoc 2) aNil)))
 (bCons (sEx (eCall 3 f_look_whole (aCons (eLoc 3) (aCons (eCst (D.int (1 : Int))) (aCons (eCst (D.int (100 : Int))) aNil)))))
 (bCons (sAsg (gLoc 7) (eTup (aCons (eLoc 4) (aCons (eLoc 5) (aCons (eLoc 6) aNil)))))
 (bCons (sEx (eCall 1 f_look_caps (aCons (eLoc 7) aNil)))
 (bCons (sEx (eMeth [1] 2 f_Yard_look_new_cell (eLoc 0) (aCons (eLoc 1) aNil)))
 (bCons (sEx (eMeth [1] 3 f_Yards_look_heads (eLoc 0) (aCons (eLst (aCons (eCst (D.str ⟨#[121, 97, 114, 100]⟩)) aNil)) (aCons (eCst (D.int (1 : Int))) aNil))))
 (bCons (sIf (tVal (two fEq (eLoc 5) (eCst (D.int (0 : Int)))))
 (bCons (sRaise 0)
 bNil)
 bNil)
 (bCons (sEx (eMeth [1] 5 f_Groups_add_group (eLoc 0) (aCons (eLoc 1) (aCons (eCst (D.str ⟨#[121, 97, 114, 100]⟩)) (aCons (eLoc 3) (aCons (eLoc 7) aNil))))))
 (bCons (sEx (eMeth [1] 3 f_Deeds_make_store (eLoc 0) (aCons (eLoc 1) (aCons (eLoc 2) aNil))))
 (bCons (sAsg (gLoc 8) (eMeth [1] 4 f_Yards_add_process (eLoc 0) (aCons (two fIdx (one (fFld [1] 2) (eLoc 0)) (eCst (D.int (1 : Int)))) (aCons (eLoc 1) (aCons (eCst (D.ctp [(D.str ⟨#[110, 117, 109, 98, 101, 114, 115]⟩), (D.str ⟨#[109, 111, 117, 110, 116, 115]⟩), (D.str ⟨#[98, 111, 120, 101, 115]⟩)])) aNil)))))
 (bCons (sAsg (gSub (one (fFld [3] 1) (one (fFld [1] 1) (eLoc 0))) (one (fFld [4] 4) (two fIdx (one (fFld [1] 2) (eLoc 0)) (eLoc 8)))) (eDispT (eTup aNil) (eTup (aCons (eLoc 1) (aCons (eCst (D.bl false)) aNil)))))
 (bCons (sAsg (gSub (one (fFld [1] 5) (eLoc 0)) (eLoc 1)) (eLoc 8))
 (bCons (sRet (eMethK [1] 1 2 [] [0, 2, 1] f_Yard_note (eLoc 0) aNil (aCons (eLoc 8) (aCons (two fAdd (eTup (aCons (eCst (D.str ⟨#[99, 101, 108, 108]⟩)) (aCons (eLoc 1) (aCons (eLoc 2) (aCons (eLoc 3) aNil))))) (eLoc 7)) aNil))))
 bNil))))))))))))))
def f_Yard_open_cell : Fn := mkFn 7 9 b_Yard_open_cell
def b_Yards_look_process : S := (bCons (sIf (tOr (tNot (tVal (eCall 3 f_is_whole (aCons (eLoc 1) (aCons (eCst (D.int (1 : Int))) (aCons (one (fFld [1] 4) (eLoc 0)) aNil)))))) (tOr (tVal (two fNotIn (eLoc 1) (one (fFld [1] 2) (eLoc 0)))) (tVal (one (fFld [4] 12) (two fIdx (one (fFld [1] 2) (eLoc 0)) (eLoc 1))))))
 (bCons (sRaise 7)
 bNil)
 bNil)
 (bCons (sRet (two fIdx (one (fFld [1] 2) (eLoc 0)) (eLoc 1)))
 bNil))
def f_Yards_look_process : Fn := mkFn 2 2 b_Yards_look_process
def b_Groups_cold_by : S := (bCons (sAsg (gLoc 3) (eLc [2] (gLoc 2) (iSeq (eMeth [1] 2 f_Groups_way_up (eLoc 0) (aCons (eLoc 1) aNil))) (tVal (one (fFld [0] 3) (two fIdx (one (fFld [1] 0) (eLoc 0)) (eLoc 2)))) (eLoc 2)))
 (bCons (sRet (eIf (tVal (two fNe (eLoc 3) (eLst aNil))) (two fIdx (eLoc 3) (one fNeg (eCst (D.int (1 : Int))))) (eCst D.non)))
 bNil))
def f_Groups_cold_by : Fn := mkFn 2 4 b_Groups_cold_by
def b_Yards_look_actor : S := (bCons (sAsg (gLoc 2) (eMeth [1] 2 f_Yards_look_process (eLoc 0) (aCons (eLoc 1) aNil)))
 (bCons (sAsg (gLoc 3) (eMeth [1] 2 f_Groups_cold_by (eLoc 0) (aCons (one (fFld [4] 2) (eLoc 2)) aNil)))
 (bCons (sIf (tVal (one fNotN (eLoc 3)))
 (bCons (sRaiseP 13 (eLoc 3))
 bNil)
 bNil)
 (bCons (sRet (eLoc 2))
 bNil))))
def f_Yards_look_actor : Fn := mkFn 2 4 b_Yards_look_actor
def b_are_kinds : S := (bCons (sIf (tOr (tNot (tVal (one (fIs Ty.tuple) (eLoc 0)))) (tNot (tVal (one fAll (eLc [1] (gLoc 1) (iSeq (eLoc 0)) tYes (eAnd (one (fIs Ty.str) (eLoc 1)) (two fIn (eLoc 1) (eCst (D.ctp [(D.str ⟨#[110, 117, 109, 98, 101, 114, 115]⟩), (D.str ⟨#[109, 111, 117, 110, 116, 115]⟩), (D.str ⟨#[98, 111, 120, 101, 115]⟩)])))))))))
 (bCons (sRet (eCst (D.bl false)))
 bNil)
 bNil)
 (bCons (sRet (two fEq (one fLenD (eLoc 0)) (one fLen (eLoc 0))))
 bNil))
def f_are_kinds : Fn := mkFn 1 2 b_are_kinds
def b_Deeds_make_process : S := (bCons (sAsg (gLoc 3) (eMeth [1] 2 f_Yards_look_actor (eLoc 0) (aCons (eLoc 1) aNil)))
 (bCons (sIf (tNot (tVal (eCall 1 f_are_kinds (aCons (eLoc 2) aNil))))
 (bCons (sRaise 6)
 bNil)
 bNil)
 (bCons (sEx (eMeth [1] 3 f_Yards_look_heads (eLoc 0) (aCons (eMeth [1] 2 f_Groups_way_up (eLoc 0) (aCons (one (fFld [4] 2) (eLoc 3)) aNil)) (aCons (eCst (D.int (1 : Int))) aNil))))
 (bCons (sRet (eMeth [1] 4 f_Yards_add_process (eLoc 0) (aCons (eLoc 3) (aCons (one (fFld [4] 2) (eLoc 3)) (aCons (eLoc 2) aNil)))))
 bNil))))
def f_Deeds_make_process : Fn := mkFn 3 4 b_Deeds_make_process
def b_Yard_spawn : S := (bCons (sRet (eMethK [1] 1 2 [] [0, 2, 1] f_Yard_note (eLoc 0) aNil (aCons (eMeth [1] 3 f_Deeds_make_process (eLoc 0) (aCons (eLoc 1) (aCons (eLoc 2) aNil))) (aCons (eTup (aCons (eCst (D.str ⟨#[115, 112, 97, 119, 110]⟩)) (aCons (eLoc 1) (aCons (eLoc 2) aNil)))) aNil))))
 bNil)
def f_Yard_spawn : Fn := mkFn 3 3 b_Yard_spawn
def b_Yard_make_group : S := (bCons (sEx (eMeth [1] 5 f_Groups_add_group (eLoc 0) (aCons (eLoc 1) (aCons (eLoc 2) (aCons (eLoc 3) (aCons (eTup (aCons (eLoc 4) (aCons (eLoc 5) (aCons (eLoc 6) aNil)))) aNil))))))
 (bCons (sRet (eMethK [1] 1 1 [.non] [0, 2, 1] f_Yard_note (eLoc 0) aNil (aCons (eTup (aCons (eCst (D.str ⟨#[103, 114, 111, 117, 112]⟩)) (aCons (eLoc 1) (aCons (eLoc 2) (aCons (eLoc 3) (aCons (eLoc 4) (aCons (eLoc 5) (aCons (eLoc 6) aNil)))))))) aNil)))
 bNil))
def f_Yard_make_group : Fn := mkFn 7 7 b_Yard_make_group
def b_Yards_look_units : S := (bCons (sEx (eMeth [1] 5 f_Groups_barred (eLoc 0) (aCons (eLoc 1) (aCons (eDc false [3] (gLoc 3) (iSeq (eLoc 1)) tYes (eLoc 3) (eMeth [1] 2 f_Yards_held_units (eLoc 0) (aCons (eLoc 3) aNil))) (aCons (eLoc 2) (aCons (eCst (D.int (0 : Int))) aNil))))))
 bNil)
def f_Yards_look_units : Fn := mkFn 3 4 b_Yards_look_units
def b_Deeds_put_group : S := (bCons (sAsg (gLoc 3) (eMeth [1] 2 f_Yards_look_process (eLoc 0) (aCons (eLoc 1) aNil)))
 (bCons (sEx (eMeth [1] 2 f_Groups_look_group (eLoc 0) (aCons (eLoc 2) aNil)))
 (bCons (sIf (tVal (two fEq (eLoc 1) (eCst (D.int (1 : Int)))))
 (bCons (sRaise 17)
 bNil)
 bNil)
 (bCons (sIf (tVal (two fEq (one (fFld [4] 2) (eLoc 3)) (eLoc 2)))
 (bCons (sRaise 12)
 bNil)
 bNil)
 (bCons (sAsg (gLoc 4) (eMeth [1] 2 f_Groups_way_up (eLoc 0) (aCons (one (fFld [4] 2) (eLoc 3)) aNil)))
 (bCons (sAsg (gLoc 6) (eLc [5] (gLoc 5) (iSeq (eMeth [1] 2 f_Groups_way_up (eLoc 0) (aCons (eLoc 2) aNil))) (tVal (two fNotIn (eLoc 5) (eLoc 4))) (eLoc 5)))
 (bCons (sEx (eMeth [1] 3 f_Yards_look_heads (eLoc 0) (aCons (eLoc 6) (aCons (eCst (D.int (1 : Int))) aNil))))
 (bCons (sEx (eMeth [1] 3 f_Yards_look_units (eLoc 0) (aCons (eLoc 6) (aCons (one (fFld [4] 8) (eLoc 3)) aNil))))
 (bCons (sAsg (gFld [4] 2 (eLoc 3)) (eLoc 2))
 bNil)))))))))
def f_Deeds_put_group : Fn := mkFn 3 7 b_Deeds_put_group
def b_Yard_move : S := (bCons (sEx (eMeth [1] 3 f_Deeds_put_group (eLoc 0) (aCons (eLoc 1) (aCons (eLoc 2) aNil))))
 (bCons (sRet (eMethK [1] 1 1 [.non] [0, 2, 1] f_Yard_note (eLoc 0) aNil (aCons (eTup (aCons (eCst (D.str ⟨#[109, 111, 118, 101]⟩)) (aCons (eLoc 1) (aCons (eLoc 2) aNil)))) aNil)))
 bNil))
def f_Yard_move : Fn := mkFn 3 3 b_Yard_move
def b_look_path : S := (bCons (sIf (tNot (tVal (eCall 1 f_is_path (aCons (eLoc 0) aNil))))
 (bCons (sRaise 4)
 bNil)
 bNil)
 bNil)
def f_look_path : Fn := mkFn 1 1 b_look_path
def b_Deeds_drop_mount : S := (bCons (sAsg (gLoc 3) (eMeth [1] 2 f_Yards_look_actor (eLoc 0) (aCons (eLoc 1) aNil)))
 (bCons (sEx (eCall 1 f_look_path (aCons (eLoc 2) aNil)))
 (bCons (sIf (tVal (two fNotIn (eLoc 2) (two fIdx (one (fFld [3] 1) (one (fFld [1] 1) (eLoc 0))) (one (fFld [4] 4) (eLoc 3)))))
 (bCons (sRaise 21)
 bNil)
 bNil)
 (bCons (sEx (ePopT (two fIdx (one (fFld [3] 1) (one (fFld [1] 1) (eLoc 0))) (one (fFld [4] 4) (eLoc 3))) (eLoc 2)))
 bNil))))
def f_Deeds_drop_mount : Fn := mkFn 3 4 b_Deeds_drop_mount
def b_Yard_unmount : S := (bCons (sEx (eMeth [1] 3 f_Deeds_drop_mount (eLoc 0) (aCons (eLoc 1) (aCons (eLoc 2) aNil))))
 (bCons (sRet (eMethK [1] 1 1 [.non] [0, 2, 1] f_Yard_note (eLoc 0) aNil (aCons (eTup (aCons (eCst (D.str ⟨#[117, 110, 109, 111, 117, 110, 116]⟩)) (aCons (eLoc 1) (aCons (eLoc 2) aNil)))) aNil)))
 bNil))
def f_Yard_unmount : Fn := mkFn 3 3 b_Yard_unmount
def b_Deeds_add_units : S := (bCons (sAsg (gLoc 3) (eMeth [1] 2 f_Yards_look_actor (eLoc 0) (aCons (eLoc 1) aNil)))
 (bCons (sEx (eCall 3 f_look_whole (aCons (eLoc 2) (aCons (eCst (D.int (1 : Int))) (aCons (eCst (D.int (999 : Int))) aNil)))))
 (bCons (sEx (eMeth [1] 3 f_Yards_look_units (eLoc 0) (aCons (eMeth [1] 2 f_Groups_way_up (eLoc 0) (aCons (one (fFld [4] 2) (eLoc 3)) aNil)) (aCons (eLoc 2) aNil))))
 (bCons (sAugF [4] 8 fIAdd (eLoc 3) (eLoc 2))
 (bCons (sRet (one (fFld [4] 8) (eLoc 3)))
 bNil)))))
def f_Deeds_add_units : Fn := mkFn 3 4 b_Deeds_add_units
def b_Yard_grow : S := (bCons (sRet (eMethK [1] 1 2 [] [0, 2, 1] f_Yard_note (eLoc 0) aNil (aCons (eMeth [1] 3 f_Deeds_add_units (eLoc 0) (aCons (eLoc 1) (aCons (eLoc 2) aNil))) (aCons (eTup (aCons (eCst (D.str ⟨#[103, 114, 111, 119]⟩)) (aCons (eLoc 1) (aCons (eLoc 2) aNil)))) aNil))))
 bNil)
def f_Yard_grow : Fn := mkFn 3 3 b_Yard_grow
def b_Yard_look_cell : S := (bCons (sIf (tOr (tNot (tVal (one (fIs Ty.str) (eLoc 1)))) (tVal (two fNotIn (eLoc 1) (one (fFld [1] 5) (eLoc 0)))))
 (bCons (sRaise 10)
 bNil)
 bNil)
 bNil)
def f_Yard_look_cell : Fn := mkFn 2 2 b_Yard_look_cell
def b_Yards_list_processes : S := (bCons (sRet (eLc [1] (gLoc 1) (iSeq (one fSorted (one (fFld [1] 2) (eLoc 0)))) tYes (two fIdx (one (fFld [1] 2) (eLoc 0)) (eLoc 1))))
 bNil)
def f_Yards_list_processes : Fn := mkFn 1 2 b_Yards_list_processes
def b_Yard___len__ : S := (bCons (sRet (one fLen (eLc [1] (gLoc 1) (iSeq (eMeth [1] 1 f_Yards_list_processes (eLoc 0) aNil)) (tNot (tVal (one (fFld [4] 12) (eLoc 1)))) (eLoc 1))))
 bNil)
def f_Yard___len__ : Fn := mkFn 1 2 b_Yard___len__
def b_Yards_heir_of : S := (bCons (sFor (gLoc 2) (iSeq (eMeth [3] 2 f_Rooms_rooms_up (one (fFld [1] 1) (eLoc 0)) (aCons (one (fFld [4] 3) (eLoc 1)) aNil)))
 (bCons (sAsg (gLoc 3) (one (fFld [2] 2) (two fIdx (one (fFld [3] 0) (one (fFld [1] 1) (eLoc 0))) (eLoc 2))))
 (bCons (sIf (tAnd (tVal (two fIn (eLoc 3) (one (fFld [1] 2) (eLoc 0)))) (tAnd (tNot (tVal (one (fFld [4] 12) (two fIdx (one (fFld [1] 2) (eLoc 0)) (eLoc 3))))) (tVal (two fNe (eLoc 3) (one (fFld [4] 0) (eLoc 1))))))
 (bCons (sRet (eLoc 3))
 bNil)
 bNil)
 bNil)))
 (bCons (sRet (eCst (D.int (1 : Int))))
 bNil))
def f_Yards_heir_of : Fn := mkFn 2 4 b_Yards_heir_of
def b_Yards_young_of : S := (bCons (sRet (eLc [2] (gLoc 2) (iSeq (one fSorted (one (fFld [1] 2) (eLoc 0)))) (tVal (two fEq (one (fFld [4] 1) (two fIdx (one (fFld [1] 2) (eLoc 0)) (eLoc 2))) (eLoc 1))) (two fIdx (one (fFld [1] 2) (eLoc 0)) (eLoc 2))))
 bNil)
def f_Yards_young_of : Fn := mkFn 2 3 b_Yards_young_of
def b_Yards_drop_process : S := (bCons (sEx (ePop1 (one (fFld [1] 2) (eLoc 0)) (eLoc 1)))
 bNil)
def f_Yards_drop_process : Fn := mkFn 2 2 b_Yards_drop_process
def b_Yards_put_end : S := (bCons (sAsg (gFld [4] 12 (eLoc 1)) (eCst (D.bl true)))
 (bCons (sAsg (gFld [4] 10 (eLoc 1)) (eLoc 2))
 (bCons (sMul (gFld [4] 8 (eLoc 1)) (gFld [4] 9 (eLoc 1)) (eCst (D.int (0 : Int))))
 (bCons (sAsg (gLoc 3) (eMeth [1] 2 f_Yards_heir_of (eLoc 0) (aCons (eLoc 1) aNil)))
 (bCons (sFor (gLoc 4) (iSeq (eMeth [1] 2 f_Yards_young_of (eLoc 0) (aCons (one (fFld [4] 0) (eLoc 1)) aNil)))
 (bCons (sAsg (gFld [4] 1 (eLoc 4)) (eLoc 3))
 bNil))
 (bCons (sFor (gLoc 5) (iSeq (eMeth [1] 2 f_Yards_young_of (eLoc 0) (aCons (eCst (D.int (1 : Int))) aNil)))
 (bCons (sIf (tVal (one (fFld [4] 12) (eLoc 5)))
 (bCons (sEx (eMeth [1] 2 f_Yards_drop_process (eLoc 0) (aCons (one (fFld [4] 0) (eLoc 5)) aNil)))
 bNil)
 bNil)
 bNil))
 bNil))))))
def f_Yards_put_end : Fn := mkFn 3 6 b_Yards_put_end
def b_Rooms_lies_in : S := (bCons (sRet (two fIn (eLoc 2) (eMeth [3] 2 f_Rooms_rooms_up (eLoc 0) (aCons (eLoc 1) aNil))))
 bNil)
def f_Rooms_lies_in : Fn := mkFn 3 3 b_Rooms_lies_in
def b_Rooms_sweep : S := (bCons (sAsg (gLoc 4) (eDc2 false [2, 3] (gLoc 2) (iSeq (eLoc 1)) [3] (gLoc 3) (iSeq (one (fFld [4] 6) (eLoc 2))) (eLoc 3) (eCst (D.bl true))))
 (bCons (sAsg (gFld [3] 0 (eLoc 0)) (eLk (one (fFld [3] 0) (eLoc 0)) (eDcR false [5] (gLoc 5) (iLk false (one (fFld [3] 0) (eLoc 0))) (tOr (tVal (two fIn (eLoc 5) (eLoc 4))) (tVal (two fEq (eLoc 5) (eCst (D.int (0 : Int)))))) (eLoc 5) (two fIdx (one (fFld [3] 0) (eLoc 0)) (eLoc 5)))))
 (bCons (sAsg (gLoc 6) (eLc [2] (gLoc 2) (iSeq (eLoc 1)) (tNot (tVal (one (fFld [4] 12) (eLoc 2)))) (eLoc 2)))
 (bCons (sAsg (gLoc 4) (eDc false [2] (gLoc 2) (iSeq (eLoc 6)) tYes (one (fFld [4] 4) (eLoc 2)) (eCst (D.bl true))))
 (bCons (sAsg (gFld [3] 1 (eLoc 0)) (eLk (one (fFld [3] 1) (eLoc 0)) (eDcR false [5] (gLoc 5) (iLk false (one (fFld [3] 1) (eLoc 0))) (tOr (tVal (two fIn (eLoc 5) (eLoc 4))) (tVal (two fEq (eLoc 5) (eCst (D.int (0 : Int)))))) (eLoc 5) (two fIdx (one (fFld [3] 1) (eLoc 0)) (eLoc 5)))))
 (bCons (sAsg (gLoc 4) (eDc false [2] (gLoc 2) (iSeq (eLoc 6)) tYes (one (fFld [4] 5) (eLoc 2)) (eCst (D.bl true))))
 (bCons (sAsg (gFld [3] 2 (eLoc 0)) (eLk (one (fFld [3] 2) (eLoc 0)) (eDcR false [5] (gLoc 5) (iLk false (one (fFld [3] 2) (eLoc 0))) (tOr (tVal (two fIn (eLoc 5) (eLoc 4))) (tVal (two fEq (eLoc 5) (eCst (D.int (0 : Int)))))) (eLoc 5) (two fIdx (one (fFld [3] 2) (eLoc 0)) (eLoc 5)))))
 bNil)))))))
def f_Rooms_sweep : Fn := mkFn 2 7 b_Rooms_sweep
def b_Yards_end_room : S := (bCons (sAsg (gLoc 3) (eCst (D.int (1 : Int))))
 (bCons (sAsg (gLoc 4) (one (fFld [4] 3) (eLoc 1)))
 (bCons (sEx (eMeth [1] 3 f_Yards_put_end (eLoc 0) (aCons (eLoc 1) (aCons (eLoc 2) aNil))))
 (bCons (sIf (tVal (two fEq (one (fFld [2] 2) (two fIdx (one (fFld [3] 0) (one (fFld [1] 1) (eLoc 0))) (eLoc 4))) (one (fFld [4] 0) (eLoc 1))))
 (bCons (sAsg (gLoc 6) (eLc [5] (gLoc 5) (iSeq (eMeth [1] 1 f_Yards_list_processes (eLoc 0) aNil)) (tVal (eMeth [3] 3 f_Rooms_lies_in (one (fFld [1] 1) (eLoc 0)) (aCons (one (fFld [4] 3) (eLoc 5)) (aCons (eLoc 4) aNil)))) (eLoc 5)))
 (bCons (sFor (gLoc 5) (iSeq (eLoc 6))
 (bCons (sIf (tVal (two fNe (one (fFld [4] 0) (eLoc 5)) (one (fFld [4] 0) (eLoc 1))))
 (bCons (sAugL 3 fIAdd (one fInt (eNot (one (fFld [4] 12) (eLoc 5)))))
 (bCons (sEx (ePop2 (one (fFld [1] 2) (eLoc 0)) (one (fFld [4] 0) (eLoc 5)) (eCst D.non)))
 bNil))
 bNil)
 bNil))
 bNil))
 bNil)
 (bCons (sEx (eMeth [3] 2 f_Rooms_sweep (one (fFld [1] 1) (eLoc 0)) (aCons (eMeth [1] 1 f_Yards_list_processes (eLoc 0) aNil) aNil)))
 (bCons (sRet (eLoc 3))
 bNil))))))
def f_Yards_end_room : Fn := mkFn 3 7 b_Yards_end_room
def b_Yard_close_cell : S := (bCons (sEx (eMeth [1] 2 f_Yard_look_cell (eLoc 0) (aCons (eLoc 1) aNil)))
 (bCons (sAsg (gLoc 2) (eMeth [1] 2 f_Yards_all_of (eLoc 0) (aCons (eLoc 1) aNil)))
 (bCons (sAsg (gLoc 4) (eDc false [3] (gLoc 3) (iSeq (eMeth [1] 1 f_Yards_list_processes (eLoc 0) aNil)) (tAnd (tVal (two (fNotInI 4) (eLoc 3) (eLoc 2))) (tNot (tVal (one (fFld [4] 12) (eLoc 3))))) (one (fFld [4] 4) (eLoc 3)) (eCst (D.bl true))))
 (bCons (sFor (gLoc 5) (iSeq (two fAdd (one fListD (eLoc 4)) (eLst (aCons (eCst (D.int (0 : Int))) aNil))))
 (bCons (sIf (tVal (two fIn (eLoc 1) (eLk (two fGetD (one (fFld [3] 1) (one (fFld [1] 1) (eLoc 0))) (eLoc 5)) (eLc [3] (gLoc 3) (iLk true (two fIdx (one (fFld [3] 1) (one (fFld [1] 1) (eLoc 0))) (eLoc 5))) tYes (two fIdx (eLoc 3) (eCst (D.int (0 : Int))))))))
 (bCons (sRaise 24)
 bNil)
 bNil)
 bNil))
 (bCons (sAsg (gLoc 6) (eLenM 1 f_Yard___len__ (eLoc 0)))
 (bCons (sFor (gLoc 3) (iSeq (eLoc 2))
 (bCons (sIf (tAnd (tVal (two fIn (one (fFld [4] 0) (eLoc 3)) (one (fFld [1] 2) (eLoc 0)))) (tNot (tVal (one (fFld [4] 12) (eLoc 3)))))
 (bCons (sEx (eMeth [1] 3 f_Yards_end_room (eLoc 0) (aCons (eLoc 3) (aCons (eCst (D.int (9 : Int))) aNil))))
 bNil)
 bNil)
 bNil))
 (bCons (sFor (gLoc 3) (iSeq (eLoc 2))
 (bCons (sEx (ePop2 (one (fFld [1] 2) (eLoc 0)) (one (fFld [4] 0) (eLoc 3)) (eCst D.non)))
 bNil))
 (bCons (sFor (gLoc 7) (iSeq (eMeth [1] 2 f_Groups_within (eLoc 0) (aCons (eLoc 1) aNil)))
 (bCons (sEx (ePop1 (one (fFld [1] 0) (eLoc 0)) (eLoc 7)))
 bNil))
 (bCons (sAsg (gFld [1] 5 (eLoc 0)) (eLk (one (fFld [1] 5) (eLoc 0)) (eDcR false [3] (gLoc 3) (iLk false (one (fFld [1] 5) (eLoc 0))) (tVal (two fIn (eLoc 3) (one (fFld [1] 0) (eLoc 0)))) (eLoc 3) (two fIdx (one (fFld [1] 5) (eLoc 0)) (eLoc 3)))))
 (bCons (sEx (ePop1 (one (fFld [1] 3) (eLoc 0)) (eLoc 1)))
 (bCons (sEx (eMeth [3] 2 f_Rooms_sweep (one (fFld [1] 1) (eLoc 0)) (aCons (eMeth [1] 1 f_Yards_list_processes (eLoc 0) aNil) aNil)))
 (bCons (sRet (eMethK [1] 1 2 [] [0, 1, 2] f_Yard_note (eLoc 0) aNil (aCons (eTup (aCons (eCst (D.str ⟨#[117, 110, 99, 101, 108, 108]⟩)) (aCons (eLoc 1) aNil))) (aCons (two fSub (eLoc 6) (eLenM 1 f_Yard___len__ (eLoc 0))) aNil))))
 bNil))))))))))))
def f_Yard_close_cell : Fn := mkFn 2 8 b_Yard_close_cell
def b_processes : S := (bCons (sRet (eLc [1] (gLoc 1) (iSeq (eMeth [1] 1 f_Yards_list_processes (eLoc 0) aNil)) (tNot (tVal (one (fFld [4] 12) (eLoc 1)))) (one (fFld [4] 0) (eLoc 1))))
 bNil)
def f_processes : Fn := mkFn 1 2 b_processes
def b_ended : S := (bCons (sRet (eLc [1] (gLoc 1) (iSeq (eMeth [1] 1 f_Yards_list_processes (eLoc 0) aNil)) (tVal (one (fFld [4] 12) (eLoc 1))) (eTup (aCons (one (fFld [4] 0) (eLoc 1)) (aCons (one (fFld [4] 1) (eLoc 1)) (aCons (one (fFld [4] 10) (eLoc 1)) aNil))))))
 bNil)
def f_ended : Fn := mkFn 1 2 b_ended
def b_charges : S := (bCons (sEx (eMeth [1] 2 f_Groups_look_group (eLoc 0) (aCons (eLoc 1) aNil)))
 (bCons (sRet (eTup (aCons (eMeth [1] 2 f_Yards_held_units (eLoc 0) (aCons (eLoc 1) aNil)) (aCons (eMeth [1] 2 f_Yards_held_heads (eLoc 0) (aCons (eLoc 1) aNil)) aNil))))
 bNil))
def f_charges : Fn := mkFn 2 2 b_charges
def b_groups : S := (bCons (sAsg (gLoc 1) (one (fFld [1] 0) (eLoc 0)))
 (bCons (sRet (eLc [2] (gLoc 2) (iSeq (one fSorted (eLoc 1))) tYes (two fAdd (two fAdd (eTup (aCons (eLoc 2) (aCons (one (fFld [0] 0) (two fIdx (eLoc 1) (eLoc 2))) (aCons (one (fFld [0] 1) (two fIdx (eLoc 1) (eLoc 2))) aNil)))) (one (fFld [0] 2) (two fIdx (eLoc 1) (eLoc 2)))) (eTup (aCons (one (fFld [0] 3) (two fIdx (eLoc 1) (eLoc 2))) aNil)))))
 bNil))
def f_groups : Fn := mkFn 1 3 b_groups
def b_stores : S := (bCons (sRet (one fSorted (one (fFld [1] 3) (eLoc 0))))
 bNil)
def f_stores : Fn := mkFn 1 1 b_stores
def b_cells : S := (bCons (sAsg (gLoc 1) (one (fFld [1] 5) (eLoc 0)))
 (bCons (sRet (eLc [2] (gLoc 2) (iSeq (one fSorted (eLoc 1))) tYes (eTup (aCons (eLoc 2) (aCons (eIf (tVal (two fIn (two fIdx (eLoc 1) (eLoc 2)) (eCall 1 f_processes (aCons (eLoc 0) aNil)))) (two fIdx (eLoc 1) (eLoc 2)) (eCst D.non)) aNil)))))
 bNil))
def f_cells : Fn := mkFn 1 3 b_cells
def b_rooms : S := (bCons (sRet (eTup (aCons (one fLen (one (fFld [3] 0) (one (fFld [1] 1) (eLoc 0)))) (aCons (one fLen (one (fFld [3] 1) (one (fFld [1] 1) (eLoc 0)))) (aCons (one fLen (one (fFld [3] 2) (one (fFld [1] 1) (eLoc 0)))) aNil)))))
 bNil)
def f_rooms : Fn := mkFn 1 1 b_rooms
def b__law_class : S := (bCons (sOwnL 1 (aCons (one (fIsX (hot 29 0)) (eLoc 0)) (aCons (one (fIsX (hot 29 1)) (eLoc 0)) (aCons (one (fIsX (hot 29 2)) (eLoc 0)) (aCons (one (fIsX (hot 29 3)) (eLoc 0)) aNil)))))
 (bCons (sOExA 1 (aCons (one (fIsX (hot 29 4)) (eLoc 0)) (aCons (one (fIsX (hot 29 5)) (eLoc 0)) (aCons (one (fIsX (hot 29 6)) (eLoc 0)) (aCons (one (fIsX (hot 29 7)) (eLoc 0)) aNil)))))
 (bCons (sOExA 1 (aCons (one (fIsX (hot 29 8)) (eLoc 0)) (aCons (one (fIsX (hot 29 9)) (eLoc 0)) (aCons (one (fIsX (hot 29 10)) (eLoc 0)) (aCons (one (fIsX (hot 29 11)) (eLoc 0)) aNil)))))
 (bCons (sOExA 1 (aCons (one (fIsX (hot 29 12)) (eLoc 0)) (aCons (one (fIsX (hot 29 13)) (eLoc 0)) (aCons (one (fIsX (hot 29 14)) (eLoc 0)) (aCons (one (fIsX (hot 29 15)) (eLoc 0)) aNil)))))
 (bCons (sOExA 1 (aCons (one (fIsX (hot 29 16)) (eLoc 0)) (aCons (one (fIsX (hot 29 17)) (eLoc 0)) (aCons (one (fIsX (hot 29 18)) (eLoc 0)) (aCons (one (fIsX (hot 29 19)) (eLoc 0)) aNil)))))
 (bCons (sOExA 1 (aCons (one (fIsX (hot 29 20)) (eLoc 0)) (aCons (one (fIsX (hot 29 21)) (eLoc 0)) (aCons (one (fIsX (hot 29 22)) (eLoc 0)) (aCons (one (fIsX (hot 29 23)) (eLoc 0)) aNil)))))
 (bCons (sOExA 1 (aCons (one (fIsX (hot 29 24)) (eLoc 0)) (aCons (one (fIsX (hot 29 25)) (eLoc 0)) (aCons (one (fIsX (hot 29 26)) (eLoc 0)) (aCons (one (fIsX (hot 29 27)) (eLoc 0)) aNil)))))
 (bCons (sOApp 1 (one (fIsX (hot 29 28)) (eLoc 0)))
 (bCons (sFrz 1)
 (bCons (sIf (tOr (tVal (two fNe (eCnt (eLoc 1) (eCst (D.bl true))) (eCst (D.int (1 : Int))))) (tNot (tVal (one (fIsX (allT 29)) (eLoc 0)))))
 (bCons (sRet (eCst (D.str ⟨#[119, 114, 111, 110, 103]⟩)))
 bNil)
 bNil)
 (bCons (sOwnL 2 (aCons (eCst (D.str ⟨#[78, 111, 78, 117, 109, 98, 101, 114]⟩)) (aCons (eCst (D.str ⟨#[78, 111, 78, 97, 109, 101]⟩)) (aCons (eCst (D.str ⟨#[78, 111, 87, 97, 110, 116, 115]⟩)) (aCons (eCst (D.str ⟨#[78, 111, 76, 97, 121, 101, 114, 115]⟩)) (aCons (eCst (D.str ⟨#[78, 111, 80, 97, 116, 104]⟩)) (aCons (eCst (D.str ⟨#[78, 111, 87, 111, 114, 100, 115]⟩)) (aCons (eCst (D.str ⟨#[78, 111, 75, 105, 110, 100, 115]⟩)) (aCons (eCst (D.str ⟨#[78, 111, 80, 114, 111, 99, 101, 115, 115]⟩)) (aCons (eCst (D.str ⟨#[78, 111, 71, 114, 111, 117, 112]⟩)) aNil))))))))))
 (bCons (sOExA 2 (aCons (eCst (D.str ⟨#[78, 111, 83, 116, 111, 114, 101]⟩)) (aCons (eCst (D.str ⟨#[78, 111, 67, 101, 108, 108]⟩)) (aCons (eCst (D.str ⟨#[84, 97, 107, 101, 110]⟩)) (aCons (eCst (D.str ⟨#[73, 116, 115, 101, 108, 102]⟩)) (aCons (eCst (D.str ⟨#[70, 114, 111, 122, 101, 110]⟩)) (aCons (eCst (D.str ⟨#[67, 97, 112, 112, 101, 100]⟩)) (aCons (eCst (D.str ⟨#[79, 118, 101, 114]⟩)) (aCons (eCst (D.str ⟨#[84, 111, 111, 70, 101, 119]⟩)) (aCons (eCst (D.str ⟨#[71, 117, 97, 114, 100, 101, 100]⟩)) (aCons (eCst (D.str ⟨#[78, 111, 83, 117, 99, 104]⟩)) aNil)))))))))))
 (bCons (sOExA 2 (aCons (eCst (D.str ⟨#[78, 111, 67, 104, 105, 108, 100]⟩)) (aCons (eCst (D.str ⟨#[78, 111, 116, 89, 101, 116]⟩)) (aCons (eCst (D.str ⟨#[78, 111, 77, 111, 117, 110, 116]⟩)) (aCons (eCst (D.str ⟨#[70, 105, 120, 101, 100]⟩)) (aCons (eCst (D.str ⟨#[78, 111, 70, 105, 108, 101]⟩)) (aCons (eCst (D.str ⟨#[72, 101, 108, 100]⟩)) (aCons (eCst (D.str ⟨#[78, 111, 116, 67, 108, 111, 115, 101, 100]⟩)) (aCons (eCst (D.str ⟨#[78, 111, 80, 105, 99, 116, 117, 114, 101]⟩)) (aCons (eCst (D.str ⟨#[78, 111, 68, 101, 101, 100, 115]⟩)) aNil))))))))))
 (bCons (sFrz 2)
 (bCons (sRet (two fIdx (two fAdd (eLoc 2) (eLst (aCons (eCst (D.str ⟨#[78, 111, 84, 101, 120, 116]⟩)) aNil))) (eIxO (eLoc 1) (eCst (D.bl true)))))
 bNil)))))))))))))))
def f__law_class : Fn := mkFn 1 3 b__law_class
def b_Deeds_wait_for : S := (bCons (sAsg (gLoc 2) (eMeth [1] 2 f_Yards_look_actor (eLoc 0) (aCons (eLoc 1) aNil)))
 (bCons (sAsg (gLoc 3) (eMeth [1] 2 f_Yards_young_of (eLoc 0) (aCons (eLoc 1) aNil)))
 (bCons (sIf (tVal (two fEq (eLoc 3) (eLst aNil)))
 (bCons (sRaise 19)
 bNil)
 bNil)
 (bCons (sAsg (gLoc 5) (one fSorted (eLc [4] (gLoc 4) (iSeq (eLoc 3)) (tVal (one (fFld [4] 12) (eLoc 4))) (eTup (aCons (two fIdx (one (fFld [4] 6) (eLoc 4)) (one (fFld [4] 3) (eLoc 2))) (aCons (one (fFld [4] 0) (eLoc 4)) aNil))))))
 (bCons (sIf (tVal (two fEq (eLoc 5) (eLst aNil)))
 (bCons (sRaise 20)
 bNil)
 bNil)
 (bCons (sAsg (gTup 2 (gCons (gLoc 6) (gCons (gLoc 4) gNil))) (two fIdx (eLoc 5) (eCst (D.int (0 : Int)))))
 (bCons (sAsg (gLoc 7) (one (fFld [4] 10) (two fIdx (one (fFld [1] 2) (eLoc 0)) (eLoc 4))))
 (bCons (sEx (eMeth [1] 2 f_Yards_drop_process (eLoc 0) (aCons (eLoc 4) aNil)))
 (bCons (sEx (eMeth [3] 2 f_Rooms_sweep (one (fFld [1] 1) (eLoc 0)) (aCons (eMeth [1] 1 f_Yards_list_processes (eLoc 0) aNil) aNil)))
 (bCons (sRet (eTup (aCons (eLoc 6) (aCons (eLoc 7) aNil))))
 bNil))))))))))
def f_Deeds_wait_for : Fn := mkFn 2 8 b_Deeds_wait_for
def b_Yard_wait : S := (bCons (sRet (eMethK [1] 1 2 [] [0, 2, 1] f_Yard_note (eLoc 0) aNil (aCons (eMeth [1] 2 f_Deeds_wait_for (eLoc 0) (aCons (eLoc 1) aNil)) (aCons (eTup (aCons (eCst (D.str ⟨#[119, 97, 105, 116]⟩)) (aCons (eLoc 1) aNil))) aNil))))
 bNil)
def f_Yard_wait : Fn := mkFn 2 2 b_Yard_wait
def b_law (pk : Fn) : S := (bCons (sMix [2, 3] (aCons (eMake 3 1 7 1 f_Yard___init__ aNil) (aCons (eLc [1] (gLoc 1) (iRng (eCst (D.int (4 : Int)))) tYes (eCall 3 pk (aCons (eLoc 0) (aCons (eLoc 1) (aCons (eCst (D.int (3 : Int))) aNil))))) aNil)))
 (bCons (sEx (eMethK [1] 2 1 [.non, .non] [0, 1, 4, 2, 3] f_Yard_set_caps (eLoc 2) (aCons (eCst (D.str ⟨#[121, 97, 114, 100]⟩)) aNil) (aCons (eCst (D.int (500 : Int))) aNil)))
 (bCons (sAsg (gLoc 4) (eMethK [1] 3 0 [(.int 1), .non, .non, .non] [0, 1, 2, 3, 4, 5, 6] f_Yard_open_cell (eLoc 2) (aCons (eCst (D.str ⟨#[97, 97]⟩)) (aCons (eTup aNil) aNil)) aNil))
 (bCons (sAsg (gLoc 5) (eMethK [1] 2 1 [] [0, 1, 2] f_Yard_spawn (eLoc 2) (aCons (eCst (D.int (1 : Int))) aNil) (aCons (eTup (aCons (eCst (D.str ⟨#[110, 117, 109, 98, 101, 114, 115]⟩)) aNil)) aNil)))
 (bCons (sAsg (gLoc 6) (eLc [1] (gLoc 1) (iRng (two fIdx (eLoc 3) (eCst (D.int (0 : Int))))) tYes (eMethK [1] 2 0 [(.ctp [])] [0, 1, 2] f_Yard_spawn (eLoc 2) (aCons (eLoc 5) aNil) aNil)))
 (bCons (sEx (eMethK [1] 3 0 [(.int 1), .non, .non, .non] [0, 1, 2, 3, 4, 5, 6] f_Yard_make_group (eLoc 2) (aCons (eCst (D.str ⟨#[98, 98]⟩)) (aCons (eCst (D.str ⟨#[97, 97]⟩)) aNil)) aNil))
 (bCons (sAsg (gLoc 7) (eLc [1] (gLoc 1) (iRng (two fAdd (eCst (D.int (1 : Int))) (two fIdx (eLoc 3) (eCst (D.int (1 : Int)))))) tYes (eMethK [1] 2 0 [(.ctp [])] [0, 1, 2] f_Yard_spawn (eLoc 2) (aCons (eLoc 4) aNil) aNil)))
 (bCons (sAsg (gLoc 8) (eMethK [1] 2 1 [] [0, 1, 2] f_Yard_spawn (eLoc 2) (aCons (two fIdx (eLoc 7) (eCst (D.int (0 : Int)))) aNil) (aCons (eTup (aCons (eCst (D.str ⟨#[110, 117, 109, 98, 101, 114, 115]⟩)) (aCons (eCst (D.str ⟨#[98, 111, 120, 101, 115]⟩)) aNil))) aNil)))
 (bCons (sAsg (gLoc 9) (eLc [1] (gLoc 1) (iRng (two fIdx (eLoc 3) (eCst (D.int (2 : Int))))) tYes (eMethK [1] 2 0 [(.ctp [])] [0, 1, 2] f_Yard_spawn (eLoc 2) (aCons (eLoc 8) aNil) aNil)))
 (bCons (sFor (gLoc 10) (iSeq (eLoc 6))
 (bCons (sEx (eMeth [1] 3 f_Yard_move (eLoc 2) (aCons (eLoc 10) (aCons (eCst (D.str ⟨#[98, 98]⟩)) aNil))))
 bNil))
 (bCons (sEx (eMeth [1] 3 f_Yard_move (eLoc 2) (aCons (two fIdx (eLoc 7) (one fNeg (eCst (D.int (1 : Int))))) (aCons (eCst (D.str ⟨#[98, 98]⟩)) aNil))))
 (bCons (sEx (eMeth [1] 3 f_Yard_unmount (eLoc 2) (aCons (eLoc 4) (aCons (eTup aNil) aNil))))
 (bCons (sFor (gLoc 10) (iSeq (eSl (eLoc 9) pNo (pAt (two fIdx (eLoc 3) (eCst (D.int (3 : Int)))))))
 (bCons (sEx (eMeth [1] 3 f_Yard_move (eLoc 2) (aCons (eLoc 10) (aCons (eCst (D.str ⟨#[121, 97, 114, 100]⟩)) aNil))))
 bNil))
 (bCons (sEx (eMeth [1] 3 f_Yard_grow (eLoc 2) (aCons (two fIdx (eLoc 7) (eCst (D.int (0 : Int)))) (aCons (eCst (D.int (7 : Int))) aNil))))
 (bCons (sAsg (gLoc 11) (two fAdd (two fAdd (two fAdd (two fAdd (eCst (D.int (1 : Int))) (one fLen (eLoc 7))) (eCst (D.int (1 : Int)))) (one fLen (eLoc 9))) (one fLen (eLoc 6))))
 (bCons (sAsg (gLoc 12) (eMeth [1] 2 f_Yard_close_cell (eLoc 2) (aCons (eCst (D.str ⟨#[97, 97]⟩)) aNil)))
 (bCons (sIf (tOr (tVal (two fNe (eLoc 12) (eLoc 11))) (tOr (tVal (two fNe (eCall 1 f_processes (aCons (eLoc 2) aNil)) (eLst (aCons (eCst (D.int (1 : Int))) (aCons (eLoc 5) aNil))))) (tVal (two fNe (eCall 1 f_ended (aCons (eLoc 2) aNil)) (eLst aNil)))))
 (bCons (sRet (eCst (D.bl false)))
 bNil)
 bNil)
 (bCons (sIf (tOr (tVal (two fNe (eCall 2 f_charges (aCons (eLoc 2) (aCons (eCst (D.str ⟨#[121, 97, 114, 100]⟩)) aNil))) (eTup (aCons (eCst (D.int (0 : Int))) (aCons (eCst (D.int (2 : Int))) aNil))))) (tVal (two fNe (eLc [13] (gLoc 13) (iSeq (eCall 1 f_groups (aCons (eLoc 2) aNil))) tYes (two fIdx (eLoc 13) (eCst (D.int (0 : Int))))) (eLst (aCons (eCst (D.str ⟨#[121, 97, 114, 100]⟩)) aNil)))))
 (bCons (sRet (eCst (D.bl false)))
 bNil)
 bNil)
 (bCons (sIf (tOr (tVal (two fNe (eCall 1 f_stores (aCons (eLoc 2) aNil)) (eLst aNil))) (tVal (two fNe (eCall 1 f_cells (aCons (eLoc 2) aNil)) (eLst aNil))))
 (bCons (sRet (eCst (D.bl false)))
 bNil)
 bNil)
 (bCons (sIf (tOr (tVal (two fNe (eCall 1 f_rooms (aCons (eLoc 2) aNil)) (eTup (aCons (eCst (D.int (2 : Int))) (aCons (eCst (D.int (1 : Int))) (aCons (eCst (D.int (1 : Int))) aNil)))))) (tVal (two fNe (eTold nmK ⟨#[114, 101, 102, 117, 115, 101, 100]⟩ (eMeth [1] 2 f_Yard_wait (eLoc 2) (aCons (eLoc 5) aNil))) (eTup (aCons (eCst (D.str ⟨#[114, 101, 102, 117, 115, 101, 100]⟩)) (aCons (eCst (D.str ⟨#[78, 111, 67, 104, 105, 108, 100]⟩)) aNil))))))
 (bCons (sRet (eCst (D.bl false)))
 bNil)
 bNil)
 (bCons (sRet (eAnd (two fEq (eMeth [1] 3 f_Yard_grow (eLoc 2) (aCons (eCst (D.int (1 : Int))) (aCons (eCst (D.int (500 : Int))) aNil))) (eCst (D.int (500 : Int)))) (two fGt (eMethK [1] 3 0 [(.int 1), .non, .non, .non] [0, 1, 2, 3, 4, 5, 6] f_Yard_open_cell (eLoc 2) (aCons (eCst (D.str ⟨#[97, 97]⟩)) (aCons (eTup aNil) aNil)) aNil) (eLoc 5))))
 bNil)))))))))))))))))))))
def f_law (pk : Fn) : Fn := mkFn 1 14 (b_law pk)
end
end K48

namespace K48
open PySem PySem.Spec PyProof.Rows L2 IP
abbrev N_Group___init__ : List Str := ["self", "inner", "heft", "caps"]
abbrev P_Group___init__ : List Str := ["self", "inner", "heft", "caps"]
theorem sc_Group___init__ : FnScope N_Group___init__ P_Group___init__ (defScope s_Group___init__) := ⟨rfl, rfl, rfl, by decide +kernel, rfl, by decide +kernel, by decide +kernel⟩
abbrev N_Groups___init__ : List Str := ["self"]
abbrev P_Groups___init__ : List Str := ["self"]
theorem sc_Groups___init__ : FnScope N_Groups___init__ P_Groups___init__ (defScope s_Groups___init__) := ⟨rfl, rfl, rfl, by decide +kernel, rfl, by decide +kernel, by decide +kernel⟩
abbrev N_Numbers___init__ : List Str := ["self", "inner"]
abbrev P_Numbers___init__ : List Str := ["self", "inner"]
theorem sc_Numbers___init__ : FnScope N_Numbers___init__ P_Numbers___init__ (defScope s_Numbers___init__) := ⟨rfl, rfl, rfl, by decide +kernel, rfl, by decide +kernel, by decide +kernel⟩
abbrev N_Rooms___init__ : List Str := ["self"]
abbrev P_Rooms___init__ : List Str := ["self"]
theorem sc_Rooms___init__ : FnScope N_Rooms___init__ P_Rooms___init__ (defScope s_Rooms___init__) := ⟨rfl, rfl, rfl, by decide +kernel, rfl, by decide +kernel, by decide +kernel⟩
abbrev N_Process___init__ : List Str := ["self", "own", "elder", "group"]
abbrev P_Process___init__ : List Str := ["self", "own", "elder", "group"]
theorem sc_Process___init__ : FnScope N_Process___init__ P_Process___init__ (defScope s_Process___init__) := ⟨rfl, rfl, rfl, by decide +kernel, rfl, by decide +kernel, by decide +kernel⟩
abbrev N_Rooms_new_key : List Str := ["self", "kind"]
abbrev P_Rooms_new_key : List Str := ["self", "kind"]
theorem sc_Rooms_new_key : FnScope N_Rooms_new_key P_Rooms_new_key (defScope s_Rooms_new_key) := ⟨rfl, rfl, rfl, by decide +kernel, rfl, by decide +kernel, by decide +kernel⟩
abbrev N_Rooms_new_numbers : List Str := ["self", "inner", "key"]
abbrev P_Rooms_new_numbers : List Str := ["self", "inner"]
theorem sc_Rooms_new_numbers : FnScope N_Rooms_new_numbers P_Rooms_new_numbers (defScope s_Rooms_new_numbers) := ⟨rfl, rfl, rfl, by decide +kernel, rfl, by decide +kernel, by decide +kernel⟩
abbrev N_Rooms_new_mounts : List Str := ["self", "elder", "key"]
abbrev P_Rooms_new_mounts : List Str := ["self", "elder"]
theorem sc_Rooms_new_mounts : FnScope N_Rooms_new_mounts P_Rooms_new_mounts (defScope s_Rooms_new_mounts) := ⟨rfl, rfl, rfl, by decide +kernel, rfl, by decide +kernel, by decide +kernel⟩
abbrev N_Rooms_new_boxes : List Str := ["self", "key"]
abbrev P_Rooms_new_boxes : List Str := ["self"]
theorem sc_Rooms_new_boxes : FnScope N_Rooms_new_boxes P_Rooms_new_boxes (defScope s_Rooms_new_boxes) := ⟨rfl, rfl, rfl, by decide +kernel, rfl, by decide +kernel, by decide +kernel⟩
abbrev N_Rooms_rooms_up : List Str := ["self", "key", "made"]
abbrev P_Rooms_rooms_up : List Str := ["self", "key"]
theorem sc_Rooms_rooms_up : FnScope N_Rooms_rooms_up P_Rooms_rooms_up (defScope s_Rooms_rooms_up) := ⟨rfl, rfl, rfl, by decide +kernel, rfl, by decide +kernel, by decide +kernel⟩
abbrev N_Rooms_number_all : List Str := ["self", "process", "key", "made", "room"]
abbrev P_Rooms_number_all : List Str := ["self", "process", "key"]
theorem sc_Rooms_number_all : FnScope N_Rooms_number_all P_Rooms_number_all (defScope s_Rooms_number_all) := ⟨rfl, rfl, rfl, by decide +kernel, rfl, by decide +kernel, by decide +kernel⟩
abbrev N_Yards_add_process : List Str := ["self", "elder", "group", "fresh", "made"]
abbrev P_Yards_add_process : List Str := ["self", "elder", "group", "fresh"]
theorem sc_Yards_add_process : FnScope N_Yards_add_process P_Yards_add_process (defScope s_Yards_add_process) := ⟨rfl, rfl, rfl, by decide +kernel, rfl, by decide +kernel, by decide +kernel⟩
abbrev N_Yards___init__ : List Str := ["self"]
abbrev P_Yards___init__ : List Str := ["self"]
theorem sc_Yards___init__ : FnScope N_Yards___init__ P_Yards___init__ (defScope s_Yards___init__) := ⟨rfl, rfl, rfl, by decide +kernel, rfl, by decide +kernel, by decide +kernel⟩
abbrev N_Yard___init__ : List Str := ["self"]
abbrev P_Yard___init__ : List Str := ["self"]
theorem sc_Yard___init__ : FnScope N_Yard___init__ P_Yard___init__ (defScope s_Yard___init__) := ⟨rfl, rfl, rfl, by decide +kernel, rfl, by decide +kernel, by decide +kernel⟩
abbrev N__law_pick : List Str := ["_law_script", "_law_k", "_law_many", "_law_cell", "_law_rest", "_law_turn", "_law_drawn"]
abbrev P__law_pick : List Str := ["_law_script", "_law_k", "_law_many"]
theorem sc__law_pick : FnScope N__law_pick P__law_pick (defScope s__law_pick) := ⟨rfl, rfl, rfl, by decide +kernel, rfl, by decide +kernel, by decide +kernel⟩
abbrev N_is_name : List Str := ["thing", "sign"]
abbrev P_is_name : List Str := ["thing"]
theorem sc_is_name : FnScope N_is_name P_is_name (defScope s_is_name) := ⟨rfl, rfl, rfl, by decide +kernel, rfl, by decide +kernel, by decide +kernel⟩
abbrev N_Groups_look_group : List Str := ["self", "name"]
abbrev P_Groups_look_group : List Str := ["self", "name"]
theorem sc_Groups_look_group : FnScope N_Groups_look_group P_Groups_look_group (defScope s_Groups_look_group) := ⟨rfl, rfl, rfl, by decide +kernel, rfl, by decide +kernel, by decide +kernel⟩
abbrev N_is_whole : List Str := ["thing", "least", "most"]
abbrev P_is_whole : List Str := ["thing", "least", "most"]
theorem sc_is_whole : FnScope N_is_whole P_is_whole (defScope s_is_whole) := ⟨rfl, rfl, rfl, by decide +kernel, rfl, by decide +kernel, by decide +kernel⟩
abbrev N_are_caps : List Str := ["caps", "cap"]
abbrev P_are_caps : List Str := ["caps"]
theorem sc_are_caps : FnScope N_are_caps P_are_caps (defScope s_are_caps) := ⟨rfl, rfl, rfl, by decide +kernel, rfl, by decide +kernel, by decide +kernel⟩
abbrev N_look_caps : List Str := ["caps"]
abbrev P_look_caps : List Str := ["caps"]
theorem sc_look_caps : FnScope N_look_caps P_look_caps (defScope s_look_caps) := ⟨rfl, rfl, rfl, by decide +kernel, rfl, by decide +kernel, by decide +kernel⟩
abbrev N_Groups_look_lowered : List Str := ["self", "caps", "units", "heads"]
abbrev P_Groups_look_lowered : List Str := ["self", "caps", "units", "heads"]
theorem sc_Groups_look_lowered : FnScope N_Groups_look_lowered P_Groups_look_lowered (defScope s_Groups_look_lowered) := ⟨rfl, rfl, rfl, by decide +kernel, rfl, by decide +kernel, by decide +kernel⟩
abbrev N_Groups_way_up : List Str := ["self", "name", "made"]
abbrev P_Groups_way_up : List Str := ["self", "name"]
theorem sc_Groups_way_up : FnScope N_Groups_way_up P_Groups_way_up (defScope s_Groups_way_up) := ⟨rfl, rfl, rfl, by decide +kernel, rfl, by decide +kernel, by decide +kernel⟩
abbrev N_Groups_within : List Str := ["self", "name", "one"]
abbrev P_Groups_within : List Str := ["self", "name"]
theorem sc_Groups_within : FnScope N_Groups_within P_Groups_within (defScope s_Groups_within) := ⟨rfl, rfl, rfl, by decide +kernel, rfl, by decide +kernel, by decide +kernel⟩
abbrev N_Yards_all_of : List Str := ["self", "group", "some", "own"]
abbrev P_Yards_all_of : List Str := ["self", "group"]
theorem sc_Yards_all_of : FnScope N_Yards_all_of P_Yards_all_of (defScope s_Yards_all_of) := ⟨rfl, rfl, rfl, by decide +kernel, rfl, by decide +kernel, by decide +kernel⟩
abbrev N_Yards_held_heads : List Str := ["self", "group"]
abbrev P_Yards_held_heads : List Str := ["self", "group"]
theorem sc_Yards_held_heads : FnScope N_Yards_held_heads P_Yards_held_heads (defScope s_Yards_held_heads) := ⟨rfl, rfl, rfl, by decide +kernel, rfl, by decide +kernel, by decide +kernel⟩
abbrev N_Yards_held_units : List Str := ["self", "group", "one"]
abbrev P_Yards_held_units : List Str := ["self", "group"]
theorem sc_Yards_held_units : FnScope N_Yards_held_units P_Yards_held_units (defScope s_Yards_held_units) := ⟨rfl, rfl, rfl, by decide +kernel, rfl, by decide +kernel, by decide +kernel⟩
abbrev N_Deeds_put_caps : List Str := ["self", "name", "caps", "group"]
abbrev P_Deeds_put_caps : List Str := ["self", "name", "caps"]
theorem sc_Deeds_put_caps : FnScope N_Deeds_put_caps P_Deeds_put_caps (defScope s_Deeds_put_caps) := ⟨rfl, rfl, rfl, by decide +kernel, rfl, by decide +kernel, by decide +kernel⟩
abbrev N_Yard_note : List Str := ["self", "deed", "told"]
abbrev P_Yard_note : List Str := ["self", "deed", "told"]
theorem sc_Yard_note : FnScope N_Yard_note P_Yard_note (defScope s_Yard_note) := ⟨rfl, rfl, rfl, by decide +kernel, rfl, by decide +kernel, by decide +kernel⟩
abbrev N_Yard_set_caps : List Str := ["self", "name", "unit_cap", "head_cap", "turn_cap"]
abbrev P_Yard_set_caps : List Str := ["self", "name", "unit_cap", "head_cap", "turn_cap"]
theorem sc_Yard_set_caps : FnScope N_Yard_set_caps P_Yard_set_caps (defScope s_Yard_set_caps) := ⟨rfl, rfl, rfl, by decide +kernel, rfl, by decide +kernel, by decide +kernel⟩
abbrev N_look_name : List Str := ["thing"]
abbrev P_look_name : List Str := ["thing"]
theorem sc_look_name : FnScope N_look_name P_look_name (defScope s_look_name) := ⟨rfl, rfl, rfl, by decide +kernel, rfl, by decide +kernel, by decide +kernel⟩
abbrev N_is_path : List Str := ["thing", "part"]
abbrev P_is_path : List Str := ["thing"]
theorem sc_is_path : FnScope N_is_path P_is_path (defScope s_is_path) := ⟨rfl, rfl, rfl, by decide +kernel, rfl, by decide +kernel, by decide +kernel⟩
abbrev N_are_words : List Str := ["thing", "sign"]
abbrev P_are_words : List Str := ["thing"]
theorem sc_are_words : FnScope N_are_words P_are_words (defScope s_are_words) := ⟨rfl, rfl, rfl, by decide +kernel, rfl, by decide +kernel, by decide +kernel⟩
abbrev N_is_file : List Str := ["thing"]
abbrev P_is_file : List Str := ["thing"]
theorem sc_is_file : FnScope N_is_file P_is_file (defScope s_is_file) := ⟨rfl, rfl, rfl, by decide +kernel, rfl, by decide +kernel, by decide +kernel⟩
abbrev N_is_layer : List Str := ["thing", "one", "path", "text"]
abbrev P_is_layer : List Str := ["thing"]
theorem sc_is_layer : FnScope N_is_layer P_is_layer (defScope s_is_layer) := ⟨rfl, rfl, rfl, by decide +kernel, rfl, by decide +kernel, by decide +kernel⟩
abbrev N_are_layers : List Str := ["thing", "layer"]
abbrev P_are_layers : List Str := ["thing"]
theorem sc_are_layers : FnScope N_are_layers P_are_layers (defScope s_are_layers) := ⟨rfl, rfl, rfl, by decide +kernel, rfl, by decide +kernel, by decide +kernel⟩
abbrev N_look_layers : List Str := ["layers"]
abbrev P_look_layers : List Str := ["layers"]
theorem sc_look_layers : FnScope N_look_layers P_look_layers (defScope s_look_layers) := ⟨rfl, rfl, rfl, by decide +kernel, rfl, by decide +kernel, by decide +kernel⟩
abbrev N_look_whole : List Str := ["thing", "least", "most"]
abbrev P_look_whole : List Str := ["thing", "least", "most"]
theorem sc_look_whole : FnScope N_look_whole P_look_whole (defScope s_look_whole) := ⟨rfl, rfl, rfl, by decide +kernel, rfl, by decide +kernel, by decide +kernel⟩
abbrev N_Yard_look_new_cell : List Str := ["self", "name"]
abbrev P_Yard_look_new_cell : List Str := ["self", "name"]
theorem sc_Yard_look_new_cell : FnScope N_Yard_look_new_cell P_Yard_look_new_cell (defScope s_Yard_look_new_cell) := ⟨rfl, rfl, rfl, by decide +kernel, rfl, by decide +kernel, by decide +kernel⟩
abbrev N_Groups_barred : List Str := ["self", "groups", "held", "more", "at", "name", "cap"]
abbrev P_Groups_barred : List Str := ["self", "groups", "held", "more", "at"]
theorem sc_Groups_barred : FnScope N_Groups_barred P_Groups_barred (defScope s_Groups_barred) := ⟨rfl, rfl, rfl, by decide +kernel, rfl, by decide +kernel, by decide +kernel⟩
abbrev N_Yards_look_heads : List Str := ["self", "groups", "more", "name"]
abbrev P_Yards_look_heads : List Str := ["self", "groups", "more"]
theorem sc_Yards_look_heads : FnScope N_Yards_look_heads P_Yards_look_heads (defScope s_Yards_look_heads) := ⟨rfl, rfl, rfl, by decide +kernel, rfl, by decide +kernel, by decide +kernel⟩
abbrev N_Groups_add_group : List Str := ["self", "name", "inner", "heft", "caps"]
abbrev P_Groups_add_group : List Str := ["self", "name", "inner", "heft", "caps"]
theorem sc_Groups_add_group : FnScope N_Groups_add_group P_Groups_add_group (defScope s_Groups_add_group) := ⟨rfl, rfl, rfl, by decide +kernel, rfl, by decide +kernel, by decide +kernel⟩
abbrev N_flat_of : List Str := ["layers", "layer", "path", "text", "made"]
abbrev P_flat_of : List Str := ["layers"]
theorem sc_flat_of : FnScope N_flat_of P_flat_of (defScope s_flat_of) := ⟨rfl, rfl, rfl, by decide +kernel, rfl, by decide +kernel, by decide +kernel⟩
abbrev N_Deeds_make_store : List Str := ["self", "name", "layers"]
abbrev P_Deeds_make_store : List Str := ["self", "name", "layers"]
theorem sc_Deeds_make_store : FnScope N_Deeds_make_store P_Deeds_make_store (defScope s_Deeds_make_store) := ⟨rfl, rfl, rfl, by decide +kernel, rfl, by decide +kernel, by decide +kernel⟩
abbrev N_Yard_open_cell : List Str := ["self", "name", "layers", "heft", "unit_cap", "head_cap", "turn_cap", "caps", "first"]
abbrev P_Yard_open_cell : List Str := ["self", "name", "layers", "heft", "unit_cap", "head_cap", "turn_cap"]
theorem sc_Yard_open_cell : FnScope N_Yard_open_cell P_Yard_open_cell (defScope s_Yard_open_cell) := ⟨rfl, rfl, rfl, by decide +kernel, rfl, by decide +kernel, by decide +kernel⟩
abbrev N_Yards_look_process : List Str := ["self", "own"]
abbrev P_Yards_look_process : List Str := ["self", "own"]
theorem sc_Yards_look_process : FnScope N_Yards_look_process P_Yards_look_process (defScope s_Yards_look_process) := ⟨rfl, rfl, rfl, by decide +kernel, rfl, by decide +kernel, by decide +kernel⟩
abbrev N_Groups_cold_by : List Str := ["self", "name", "one", "some"]
abbrev P_Groups_cold_by : List Str := ["self", "name"]
theorem sc_Groups_cold_by : FnScope N_Groups_cold_by P_Groups_cold_by (defScope s_Groups_cold_by) := ⟨rfl, rfl, rfl, by decide +kernel, rfl, by decide +kernel, by decide +kernel⟩
abbrev N_Yards_look_actor : List Str := ["self", "own", "process", "by"]
abbrev P_Yards_look_actor : List Str := ["self", "own"]
theorem sc_Yards_look_actor : FnScope N_Yards_look_actor P_Yards_look_actor (defScope s_Yards_look_actor) := ⟨rfl, rfl, rfl, by decide +kernel, rfl, by decide +kernel, by decide +kernel⟩
abbrev N_are_kinds : List Str := ["thing", "kind"]
abbrev P_are_kinds : List Str := ["thing"]
theorem sc_are_kinds : FnScope N_are_kinds P_are_kinds (defScope s_are_kinds) := ⟨rfl, rfl, rfl, by decide +kernel, rfl, by decide +kernel, by decide +kernel⟩
abbrev N_Deeds_make_process : List Str := ["self", "own", "fresh", "process"]
abbrev P_Deeds_make_process : List Str := ["self", "own", "fresh"]
theorem sc_Deeds_make_process : FnScope N_Deeds_make_process P_Deeds_make_process (defScope s_Deeds_make_process) := ⟨rfl, rfl, rfl, by decide +kernel, rfl, by decide +kernel, by decide +kernel⟩
abbrev N_Yard_spawn : List Str := ["self", "own", "fresh"]
abbrev P_Yard_spawn : List Str := ["self", "own", "fresh"]
theorem sc_Yard_spawn : FnScope N_Yard_spawn P_Yard_spawn (defScope s_Yard_spawn) := ⟨rfl, rfl, rfl, by decide +kernel, rfl, by decide +kernel, by decide +kernel⟩
abbrev N_Yard_make_group : List Str := ["self", "name", "inner", "heft", "unit_cap", "head_cap", "turn_cap"]
abbrev P_Yard_make_group : List Str := ["self", "name", "inner", "heft", "unit_cap", "head_cap", "turn_cap"]
theorem sc_Yard_make_group : FnScope N_Yard_make_group P_Yard_make_group (defScope s_Yard_make_group) := ⟨rfl, rfl, rfl, by decide +kernel, rfl, by decide +kernel, by decide +kernel⟩
abbrev N_Yards_look_units : List Str := ["self", "groups", "more", "name"]
abbrev P_Yards_look_units : List Str := ["self", "groups", "more"]
theorem sc_Yards_look_units : FnScope N_Yards_look_units P_Yards_look_units (defScope s_Yards_look_units) := ⟨rfl, rfl, rfl, by decide +kernel, rfl, by decide +kernel, by decide +kernel⟩
abbrev N_Deeds_put_group : List Str := ["self", "own", "name", "process", "old", "one", "groups"]
abbrev P_Deeds_put_group : List Str := ["self", "own", "name"]
theorem sc_Deeds_put_group : FnScope N_Deeds_put_group P_Deeds_put_group (defScope s_Deeds_put_group) := ⟨rfl, rfl, rfl, by decide +kernel, rfl, by decide +kernel, by decide +kernel⟩
abbrev N_Yard_move : List Str := ["self", "own", "name"]
abbrev P_Yard_move : List Str := ["self", "own", "name"]
theorem sc_Yard_move : FnScope N_Yard_move P_Yard_move (defScope s_Yard_move) := ⟨rfl, rfl, rfl, by decide +kernel, rfl, by decide +kernel, by decide +kernel⟩
abbrev N_look_path : List Str := ["path"]
abbrev P_look_path : List Str := ["path"]
theorem sc_look_path : FnScope N_look_path P_look_path (defScope s_look_path) := ⟨rfl, rfl, rfl, by decide +kernel, rfl, by decide +kernel, by decide +kernel⟩
abbrev N_Deeds_drop_mount : List Str := ["self", "own", "path", "process"]
abbrev P_Deeds_drop_mount : List Str := ["self", "own", "path"]
theorem sc_Deeds_drop_mount : FnScope N_Deeds_drop_mount P_Deeds_drop_mount (defScope s_Deeds_drop_mount) := ⟨rfl, rfl, rfl, by decide +kernel, rfl, by decide +kernel, by decide +kernel⟩
abbrev N_Yard_unmount : List Str := ["self", "own", "path"]
abbrev P_Yard_unmount : List Str := ["self", "own", "path"]
theorem sc_Yard_unmount : FnScope N_Yard_unmount P_Yard_unmount (defScope s_Yard_unmount) := ⟨rfl, rfl, rfl, by decide +kernel, rfl, by decide +kernel, by decide +kernel⟩
abbrev N_Deeds_add_units : List Str := ["self", "own", "many", "process"]
abbrev P_Deeds_add_units : List Str := ["self", "own", "many"]
theorem sc_Deeds_add_units : FnScope N_Deeds_add_units P_Deeds_add_units (defScope s_Deeds_add_units) := ⟨rfl, rfl, rfl, by decide +kernel, rfl, by decide +kernel, by decide +kernel⟩
abbrev N_Yard_grow : List Str := ["self", "own", "many"]
abbrev P_Yard_grow : List Str := ["self", "own", "many"]
theorem sc_Yard_grow : FnScope N_Yard_grow P_Yard_grow (defScope s_Yard_grow) := ⟨rfl, rfl, rfl, by decide +kernel, rfl, by decide +kernel, by decide +kernel⟩
abbrev N_Yard_look_cell : List Str := ["self", "name"]
abbrev P_Yard_look_cell : List Str := ["self", "name"]
theorem sc_Yard_look_cell : FnScope N_Yard_look_cell P_Yard_look_cell (defScope s_Yard_look_cell) := ⟨rfl, rfl, rfl, by decide +kernel, rfl, by decide +kernel, by decide +kernel⟩
abbrev N_Yards_list_processes : List Str := ["self", "own"]
abbrev P_Yards_list_processes : List Str := ["self"]
theorem sc_Yards_list_processes : FnScope N_Yards_list_processes P_Yards_list_processes (defScope s_Yards_list_processes) := ⟨rfl, rfl, rfl, by decide +kernel, rfl, by decide +kernel, by decide +kernel⟩
abbrev N_Yard___len__ : List Str := ["self", "one"]
abbrev P_Yard___len__ : List Str := ["self"]
theorem sc_Yard___len__ : FnScope N_Yard___len__ P_Yard___len__ (defScope s_Yard___len__) := ⟨rfl, rfl, rfl, by decide +kernel, rfl, by decide +kernel, by decide +kernel⟩
abbrev N_Yards_heir_of : List Str := ["self", "process", "room", "first"]
abbrev P_Yards_heir_of : List Str := ["self", "process"]
theorem sc_Yards_heir_of : FnScope N_Yards_heir_of P_Yards_heir_of (defScope s_Yards_heir_of) := ⟨rfl, rfl, rfl, by decide +kernel, rfl, by decide +kernel, by decide +kernel⟩
abbrev N_Yards_young_of : List Str := ["self", "own", "one"]
abbrev P_Yards_young_of : List Str := ["self", "own"]
theorem sc_Yards_young_of : FnScope N_Yards_young_of P_Yards_young_of (defScope s_Yards_young_of) := ⟨rfl, rfl, rfl, by decide +kernel, rfl, by decide +kernel, by decide +kernel⟩
abbrev N_Yards_drop_process : List Str := ["self", "own"]
abbrev P_Yards_drop_process : List Str := ["self", "own"]
theorem sc_Yards_drop_process : FnScope N_Yards_drop_process P_Yards_drop_process (defScope s_Yards_drop_process) := ⟨rfl, rfl, rfl, by decide +kernel, rfl, by decide +kernel, by decide +kernel⟩
abbrev N_Yards_put_end : List Str := ["self", "process", "outcome", "heir", "young", "one"]
abbrev P_Yards_put_end : List Str := ["self", "process", "outcome"]
theorem sc_Yards_put_end : FnScope N_Yards_put_end P_Yards_put_end (defScope s_Yards_put_end) := ⟨rfl, rfl, rfl, by decide +kernel, rfl, by decide +kernel, by decide +kernel⟩
abbrev N_Rooms_lies_in : List Str := ["self", "key", "outer"]
abbrev P_Rooms_lies_in : List Str := ["self", "key", "outer"]
theorem sc_Rooms_lies_in : FnScope N_Rooms_lies_in P_Rooms_lies_in (defScope s_Rooms_lies_in) := ⟨rfl, rfl, rfl, by decide +kernel, rfl, by decide +kernel, by decide +kernel⟩
abbrev N_Rooms_sweep : List Str := ["self", "processes", "one", "room", "some", "key", "going"]
abbrev P_Rooms_sweep : List Str := ["self", "processes"]
theorem sc_Rooms_sweep : FnScope N_Rooms_sweep P_Rooms_sweep (defScope s_Rooms_sweep) := ⟨rfl, rfl, rfl, by decide +kernel, rfl, by decide +kernel, by decide +kernel⟩
abbrev N_Yards_end_room : List Str := ["self", "process", "outcome", "many", "room", "one", "inside"]
abbrev P_Yards_end_room : List Str := ["self", "process", "outcome"]
theorem sc_Yards_end_room : FnScope N_Yards_end_room P_Yards_end_room (defScope s_Yards_end_room) := ⟨rfl, rfl, rfl, by decide +kernel, rfl, by decide +kernel, by decide +kernel⟩
abbrev N_Yard_close_cell : List Str := ["self", "name", "inside", "one", "rooms", "room", "going", "group"]
abbrev P_Yard_close_cell : List Str := ["self", "name"]
theorem sc_Yard_close_cell : FnScope N_Yard_close_cell P_Yard_close_cell (defScope s_Yard_close_cell) := ⟨rfl, rfl, rfl, by decide +kernel, rfl, by decide +kernel, by decide +kernel⟩
abbrev N_processes : List Str := ["yard", "one"]
abbrev P_processes : List Str := ["yard"]
theorem sc_processes : FnScope N_processes P_processes (defScope s_processes) := ⟨rfl, rfl, rfl, by decide +kernel, rfl, by decide +kernel, by decide +kernel⟩
abbrev N_ended : List Str := ["yard", "one"]
abbrev P_ended : List Str := ["yard"]
theorem sc_ended : FnScope N_ended P_ended (defScope s_ended) := ⟨rfl, rfl, rfl, by decide +kernel, rfl, by decide +kernel, by decide +kernel⟩
abbrev N_charges : List Str := ["yard", "name"]
abbrev P_charges : List Str := ["yard", "name"]
theorem sc_charges : FnScope N_charges P_charges (defScope s_charges) := ⟨rfl, rfl, rfl, by decide +kernel, rfl, by decide +kernel, by decide +kernel⟩
abbrev N_groups : List Str := ["yard", "some", "name"]
abbrev P_groups : List Str := ["yard"]
theorem sc_groups : FnScope N_groups P_groups (defScope s_groups) := ⟨rfl, rfl, rfl, by decide +kernel, rfl, by decide +kernel, by decide +kernel⟩
abbrev N_stores : List Str := ["yard"]
abbrev P_stores : List Str := ["yard"]
theorem sc_stores : FnScope N_stores P_stores (defScope s_stores) := ⟨rfl, rfl, rfl, by decide +kernel, rfl, by decide +kernel, by decide +kernel⟩
abbrev N_cells : List Str := ["yard", "some", "name"]
abbrev P_cells : List Str := ["yard"]
theorem sc_cells : FnScope N_cells P_cells (defScope s_cells) := ⟨rfl, rfl, rfl, by decide +kernel, rfl, by decide +kernel, by decide +kernel⟩
abbrev N_rooms : List Str := ["yard"]
abbrev P_rooms : List Str := ["yard"]
theorem sc_rooms : FnScope N_rooms P_rooms (defScope s_rooms) := ⟨rfl, rfl, rfl, by decide +kernel, rfl, by decide +kernel, by decide +kernel⟩
abbrev N__law_class : List Str := ["_law_e", "_law_kinds", "_law_some"]
abbrev P__law_class : List Str := ["_law_e"]
theorem sc__law_class : FnScope N__law_class P__law_class (defScope s__law_class) := ⟨rfl, rfl, rfl, by decide +kernel, rfl, by decide +kernel, by decide +kernel⟩
abbrev N__law_told : List Str := ["_law_deed", "_law_e"]
abbrev P__law_told : List Str := ["_law_deed"]
theorem sc__law_told : FnScope N__law_told P__law_told (defScope s__law_told) := ⟨rfl, rfl, rfl, by decide +kernel, rfl, by decide +kernel, by decide +kernel⟩
abbrev N_Deeds_wait_for : List Str := ["self", "own", "process", "young", "one", "some", "number", "outcome"]
abbrev P_Deeds_wait_for : List Str := ["self", "own"]
theorem sc_Deeds_wait_for : FnScope N_Deeds_wait_for P_Deeds_wait_for (defScope s_Deeds_wait_for) := ⟨rfl, rfl, rfl, by decide +kernel, rfl, by decide +kernel, by decide +kernel⟩
abbrev N_Yard_wait : List Str := ["self", "own"]
abbrev P_Yard_wait : List Str := ["self", "own"]
theorem sc_Yard_wait : FnScope N_Yard_wait P_Yard_wait (defScope s_Yard_wait) := ⟨rfl, rfl, rfl, by decide +kernel, rfl, by decide +kernel, by decide +kernel⟩
abbrev N_law : List Str := ["_law_script", "_law_k", "_law_yard", "_law_more", "_law_first", "_law_outside", "_law_guests", "_law_own", "_law_nested", "_law_inner", "_law_one", "_law_many", "_law_told_here", "_law_row"]
abbrev P_law : List Str := ["_law_script"]
theorem sc_law : FnScope N_law P_law (defScope s_law) := ⟨rfl, rfl, rfl, by decide +kernel, rfl, by decide +kernel, by decide +kernel⟩
/-! ### classes -/
def cn : Nat → Str
  | 0 => "Group"
  | 1 => "Yard"
  | 2 => "Numbers"
  | 3 => "Rooms"
  | 4 => "Process"
  | _ => ""
def fl : Nat → List Str
  | 0 => ["inner", "heft", "caps", "cold"]
  | 1 => ["all_groups", "rooms", "processes", "stores", "born", "cells", "done"]
  | 2 => ["inner", "next_one", "first"]
  | 3 => ["numbers", "mounts", "boxes", "born"]
  | 4 => ["own", "elder", "group", "room", "mounts", "boxes", "numbers", "heft", "units", "want", "outcome", "used", "has_ended"]
  | _ => []
def xfN : Nat → Str
  | 14 => "group"
  | 13 => "group"
  | 15 => "many"
  | _ => ""
def cl (K : PySem.W.Frag) (sc : List D) : Cl := { cv := fun c => .ref (He.ga K (eAt errL c)), adr := fun c => He.ga K (cn c), fld := fl, xf := xfN, fnA := fun _ => 0, tabs := tabsOf lamL K, scr := some sc }
structure Tx (K : PySem.W.Frag) (mg : Str → Option Value) where
  n_ValueError : mg "ValueError" = none
  n_all : mg "all" = none
  n_bool : mg "bool" = none
  n_dict : mg "dict" = none
  n_int : mg "int" = none
  n_isinstance : mg "isinstance" = none
  n_len : mg "len" = none
  n_list : mg "list" = none
  n_max : mg "max" = none
  n_range : mg "range" = none
  n_set : mg "set" = none
  n_sorted : mg "sorted" = none
  n_str : mg "str" = none
  n_sum : mg "sum" = none
  n_tuple : mg "tuple" = none
  c_BOXES : Cst K mg "BOXES" (D.str ⟨#[98, 111, 120, 101, 115]⟩)
  c_DEEPEST : Cst K mg "DEEPEST" (D.int (4 : Int))
  c_FIRST : Cst K mg "FIRST" (D.int (1 : Int))
  c_KINDS : Cst K mg "KINDS" (D.ctp [(D.str ⟨#[110, 117, 109, 98, 101, 114, 115]⟩), (D.str ⟨#[109, 111, 117, 110, 116, 115]⟩), (D.str ⟨#[98, 111, 120, 101, 115]⟩)])
  c_LONGEST : Cst K mg "LONGEST" (D.int (20 : Int))
  c_LONGEST_NAME : Cst K mg "LONGEST_NAME" (D.int (6 : Int))
  c_MOST_CAP : Cst K mg "MOST_CAP" (D.int (9999 : Int))
  c_MOST_FILES : Cst K mg "MOST_FILES" (D.int (12 : Int))
  c_MOST_HEFT : Cst K mg "MOST_HEFT" (D.int (100 : Int))
  c_MOST_LAYERS : Cst K mg "MOST_LAYERS" (D.int (4 : Int))
  c_MOST_UNITS : Cst K mg "MOST_UNITS" (D.int (999 : Int))
  c_MOUNTS : Cst K mg "MOUNTS" (D.str ⟨#[109, 111, 117, 110, 116, 115]⟩)
  c_NOTHING : Cst K mg "NOTHING" (D.ctp [(D.int (0 : Int)), (D.int (1 : Int))])
  c_NUMBERS : Cst K mg "NUMBERS" (D.str ⟨#[110, 117, 109, 98, 101, 114, 115]⟩)
  c_ROOT : Cst K mg "ROOT" (D.str ⟨#[121, 97, 114, 100]⟩)
  c_SIGNS : Cst K mg "SIGNS" (D.str ⟨#[97, 98, 99, 100, 101, 102, 103, 104, 105, 106, 107, 108, 109, 110, 111, 112, 113, 114, 115, 116, 117, 118, 119, 120, 121, 122, 48, 49, 50, 51, 52, 53, 54, 55, 56, 57]⟩)
  c_SMALL : Cst K mg "SMALL" (D.str ⟨#[97, 98, 99, 100, 101, 102, 103, 104, 105, 106, 107, 108, 109, 110, 111, 112, 113, 114, 115, 116, 117, 118, 119, 120, 121, 122]⟩)
  cf_0 : ∀ {sc : List D}, CF K (cl K sc) 0
  cf_1 : ∀ {sc : List D}, CF K (cl K sc) 1
  cf_2 : ∀ {sc : List D}, CF K (cl K sc) 2
  cf_3 : ∀ {sc : List D}, CF K (cl K sc) 3
  cf_4 : ∀ {sc : List D}, CF K (cl K sc) 4
  g_Group : mg "Group" = some (.ref (He.ga K "Group"))
  g_Yard : mg "Yard" = some (.ref (He.ga K "Yard"))
  g_Numbers : mg "Numbers" = some (.ref (He.ga K "Numbers"))
  g_Rooms : mg "Rooms" = some (.ref (He.ga K "Rooms"))
  g_Process : mg "Process" = some (.ref (He.ga K "Process"))
  g_Groups : mg "Groups" = some (.ref (He.ga K "Groups"))
  g_Deeds : mg "Deeds" = some (.ref (He.ga K "Deeds"))
  g_NoNumber : mg "NoNumber" = some (.ref (He.ga K "NoNumber"))
  g_NoName : mg "NoName" = some (.ref (He.ga K "NoName"))
  g_NoWants : mg "NoWants" = some (.ref (He.ga K "NoWants"))
  g_NoLayers : mg "NoLayers" = some (.ref (He.ga K "NoLayers"))
  g_NoPath : mg "NoPath" = some (.ref (He.ga K "NoPath"))
  g_NoWords : mg "NoWords" = some (.ref (He.ga K "NoWords"))
  g_NoKinds : mg "NoKinds" = some (.ref (He.ga K "NoKinds"))
  g_NoProcess : mg "NoProcess" = some (.ref (He.ga K "NoProcess"))
  g_NoGroup : mg "NoGroup" = some (.ref (He.ga K "NoGroup"))
  g_NoStore : mg "NoStore" = some (.ref (He.ga K "NoStore"))
  g_NoCell : mg "NoCell" = some (.ref (He.ga K "NoCell"))
  g_Taken : mg "Taken" = some (.ref (He.ga K "Taken"))
  g_Itself : mg "Itself" = some (.ref (He.ga K "Itself"))
  g_Frozen : mg "Frozen" = some (.ref (He.ga K "Frozen"))
  g_Capped : mg "Capped" = some (.ref (He.ga K "Capped"))
  g_Over : mg "Over" = some (.ref (He.ga K "Over"))
  g_TooFew : mg "TooFew" = some (.ref (He.ga K "TooFew"))
  g_Guarded : mg "Guarded" = some (.ref (He.ga K "Guarded"))
  g_NoSuch : mg "NoSuch" = some (.ref (He.ga K "NoSuch"))
  g_NoChild : mg "NoChild" = some (.ref (He.ga K "NoChild"))
  g_NotYet : mg "NotYet" = some (.ref (He.ga K "NotYet"))
  g_NoMount : mg "NoMount" = some (.ref (He.ga K "NoMount"))
  g_Fixed : mg "Fixed" = some (.ref (He.ga K "Fixed"))
  g_NoFile : mg "NoFile" = some (.ref (He.ga K "NoFile"))
  g_Held : mg "Held" = some (.ref (He.ga K "Held"))
  g_NotClosed : mg "NotClosed" = some (.ref (He.ga K "NotClosed"))
  g_NoPicture : mg "NoPicture" = some (.ref (He.ga K "NoPicture"))
  g_NoDeeds : mg "NoDeeds" = some (.ref (He.ga K "NoDeeds"))
  g_NoText : mg "NoText" = some (.ref (He.ga K "NoText"))
  g_CellError : mg "CellError" = some (.ref (He.ga K "CellError"))
  errs : Errs errL "CellError" K
  tabs : TabsK lamL K
  ns_law : PySem.W.nsIn K mainGlobals "law" = some (some (.ref (He.ga K "law")))
  e_Guarded : ErrC K mg "Guarded" (He.ga K "Guarded")
  e_Held : ErrC K mg "Held" (He.ga K "Held")
  e_Itself : ErrC K mg "Itself" (He.ga K "Itself")
  e_NoCell : ErrC K mg "NoCell" (He.ga K "NoCell")
  e_NoChild : ErrC K mg "NoChild" (He.ga K "NoChild")
  e_NoGroup : ErrC K mg "NoGroup" (He.ga K "NoGroup")
  e_NoKinds : ErrC K mg "NoKinds" (He.ga K "NoKinds")
  e_NoLayers : ErrC K mg "NoLayers" (He.ga K "NoLayers")
  e_NoMount : ErrC K mg "NoMount" (He.ga K "NoMount")
  e_NoName : ErrC K mg "NoName" (He.ga K "NoName")
  e_NoNumber : ErrC K mg "NoNumber" (He.ga K "NoNumber")
  e_NoPath : ErrC K mg "NoPath" (He.ga K "NoPath")
  e_NoProcess : ErrC K mg "NoProcess" (He.ga K "NoProcess")
  e_NotYet : ErrC K mg "NotYet" (He.ga K "NotYet")
  e_Taken : ErrC K mg "Taken" (He.ga K "Taken")
  x_Capped : OexC K (He.ga K "Capped")
  i_Capped : PySem.W.findIn K (.ref (He.ga K "Capped")) "__init__" = some (some (.ref (He.ma K (He.ga K "Capped") "__init__")))
  t_Capped : PySem.W.typeIn K (.ref (He.ma K (He.ga K "Capped") "__init__")) = some (.type "function")
  n_Capped_f : PySem.W.findIn K (.ref (He.ga K "Capped")) "group" = some none
  d_Capped_init : FuncData
  F_Capped_init : FunD K "__init__" "Capped.__init__" (defArgs s_Capped_init) (defBody s_Capped_init) (defScope s_Capped_init) [] [] (He.ma K (He.ga K "Capped") "__init__") d_Capped_init
  x_Frozen : OexC K (He.ga K "Frozen")
  i_Frozen : PySem.W.findIn K (.ref (He.ga K "Frozen")) "__init__" = some (some (.ref (He.ma K (He.ga K "Frozen") "__init__")))
  t_Frozen : PySem.W.typeIn K (.ref (He.ma K (He.ga K "Frozen") "__init__")) = some (.type "function")
  n_Frozen_f : PySem.W.findIn K (.ref (He.ga K "Frozen")) "group" = some none
  d_Frozen_init : FuncData
  F_Frozen_init : FunD K "__init__" "Frozen.__init__" (defArgs s_Frozen_init) (defBody s_Frozen_init) (defScope s_Frozen_init) [] [] (He.ma K (He.ga K "Frozen") "__init__") d_Frozen_init
  x_Over : OexC K (He.ga K "Over")
  i_Over : PySem.W.findIn K (.ref (He.ga K "Over")) "__init__" = some (some (.ref (He.ma K (He.ga K "Over") "__init__")))
  t_Over : PySem.W.typeIn K (.ref (He.ma K (He.ga K "Over") "__init__")) = some (.type "function")
  n_Over_f : PySem.W.findIn K (.ref (He.ga K "Over")) "many" = some none
  d_Over_init : FuncData
  F_Over_init : FunD K "__init__" "Over.__init__" (defArgs s_Over_init) (defBody s_Over_init) (defScope s_Over_init) [] [] (He.ma K (He.ga K "Over") "__init__") d_Over_init
  baseI : BaseI K (He.ga K "CellError")
  ne_4 : ∀ {sc : List D}, NoEq K ((cl K sc).adr 4)
  k_0 : Mk K ((cl K []).adr 0) (He.ma K (He.ga K "Group") "__init__")
  k_2 : Mk K ((cl K []).adr 2) (He.ma K (He.ga K "Numbers") "__init__")
  k_3 : Mk K ((cl K []).adr 3) (He.ma K (He.ga K "Rooms") "__init__")
  k_4 : Mk K ((cl K []).adr 4) (He.ma K (He.ga K "Process") "__init__")
  k_1 : Mk K ((cl K []).adr 1) (He.ma K (He.ga K "Yard") "__init__")
  d_Group___init__ : FuncData
  F_Group___init__ : FunD K "__init__" "Group.__init__" (defArgs s_Group___init__) (defBody s_Group___init__) (defScope s_Group___init__) [] [] (He.ma K (He.ga K "Group") "__init__") d_Group___init__
  b_Group___init__ : Binds K d_Group___init__ P_Group___init__ []
  d_Groups___init__ : FuncData
  F_Groups___init__ : FunD K "__init__" "Groups.__init__" (defArgs s_Groups___init__) (defBody s_Groups___init__) (defScope s_Groups___init__) [] [] (He.ma K (He.ga K "Groups") "__init__") d_Groups___init__
  o_Groups___init__ : Off K (He.ga K "Groups") "__init__" (He.ma K (He.ga K "Groups") "__init__")
  b_Groups___init__ : Binds K d_Groups___init__ P_Groups___init__ []
  d_Numbers___init__ : FuncData
  F_Numbers___init__ : FunD K "__init__" "Numbers.__init__" (defArgs s_Numbers___init__) (defBody s_Numbers___init__) (defScope s_Numbers___init__) [] [] (He.ma K (He.ga K "Numbers") "__init__") d_Numbers___init__
  b_Numbers___init__ : Binds K d_Numbers___init__ P_Numbers___init__ []
  d_Rooms___init__ : FuncData
  F_Rooms___init__ : FunD K "__init__" "Rooms.__init__" (defArgs s_Rooms___init__) (defBody s_Rooms___init__) (defScope s_Rooms___init__) [] [] (He.ma K (He.ga K "Rooms") "__init__") d_Rooms___init__
  b_Rooms___init__ : Binds K d_Rooms___init__ P_Rooms___init__ []
  d_Process___init__ : FuncData
  F_Process___init__ : FunD K "__init__" "Process.__init__" (defArgs s_Process___init__) (defBody s_Process___init__) (defScope s_Process___init__) [] [] (He.ma K (He.ga K "Process") "__init__") d_Process___init__
  b_Process___init__ : Binds K d_Process___init__ P_Process___init__ []
  d_Rooms_new_key : FuncData
  F_Rooms_new_key : FunD K "new_key" "Rooms.new_key" (defArgs s_Rooms_new_key) (defBody s_Rooms_new_key) (defScope s_Rooms_new_key) [] [] (He.ma K (He.ga K "Rooms") "new_key") d_Rooms_new_key
  m_Rooms_new_key : Meth K ((cl K []).adr 3) "new_key" (He.ma K (He.ga K "Rooms") "new_key")
  b_Rooms_new_key : Binds K d_Rooms_new_key P_Rooms_new_key []
  d_Rooms_new_numbers : FuncData
  F_Rooms_new_numbers : FunD K "new_numbers" "Rooms.new_numbers" (defArgs s_Rooms_new_numbers) (defBody s_Rooms_new_numbers) (defScope s_Rooms_new_numbers) [] [] (He.ma K (He.ga K "Rooms") "new_numbers") d_Rooms_new_numbers
  m_Rooms_new_numbers : Meth K ((cl K []).adr 3) "new_numbers" (He.ma K (He.ga K "Rooms") "new_numbers")
  b_Rooms_new_numbers : Binds K d_Rooms_new_numbers P_Rooms_new_numbers []
  d_Rooms_new_mounts : FuncData
  F_Rooms_new_mounts : FunD K "new_mounts" "Rooms.new_mounts" (defArgs s_Rooms_new_mounts) (defBody s_Rooms_new_mounts) (defScope s_Rooms_new_mounts) [] [] (He.ma K (He.ga K "Rooms") "new_mounts") d_Rooms_new_mounts
  m_Rooms_new_mounts : Meth K ((cl K []).adr 3) "new_mounts" (He.ma K (He.ga K "Rooms") "new_mounts")
  b_Rooms_new_mounts : Binds K d_Rooms_new_mounts P_Rooms_new_mounts []
  d_Rooms_new_boxes : FuncData
  F_Rooms_new_boxes : FunD K "new_boxes" "Rooms.new_boxes" (defArgs s_Rooms_new_boxes) (defBody s_Rooms_new_boxes) (defScope s_Rooms_new_boxes) [] [] (He.ma K (He.ga K "Rooms") "new_boxes") d_Rooms_new_boxes
  m_Rooms_new_boxes : Meth K ((cl K []).adr 3) "new_boxes" (He.ma K (He.ga K "Rooms") "new_boxes")
  b_Rooms_new_boxes : Binds K d_Rooms_new_boxes P_Rooms_new_boxes []
  d_Rooms_rooms_up : FuncData
  F_Rooms_rooms_up : FunD K "rooms_up" "Rooms.rooms_up" (defArgs s_Rooms_rooms_up) (defBody s_Rooms_rooms_up) (defScope s_Rooms_rooms_up) [] [] (He.ma K (He.ga K "Rooms") "rooms_up") d_Rooms_rooms_up
  m_Rooms_rooms_up : Meth K ((cl K []).adr 3) "rooms_up" (He.ma K (He.ga K "Rooms") "rooms_up")
  b_Rooms_rooms_up : Binds K d_Rooms_rooms_up P_Rooms_rooms_up []
  d_Rooms_number_all : FuncData
  F_Rooms_number_all : FunD K "number_all" "Rooms.number_all" (defArgs s_Rooms_number_all) (defBody s_Rooms_number_all) (defScope s_Rooms_number_all) [] [] (He.ma K (He.ga K "Rooms") "number_all") d_Rooms_number_all
  m_Rooms_number_all : Meth K ((cl K []).adr 3) "number_all" (He.ma K (He.ga K "Rooms") "number_all")
  b_Rooms_number_all : Binds K d_Rooms_number_all P_Rooms_number_all []
  d_Yards_add_process : FuncData
  F_Yards_add_process : FunD K "add_process" "Yards.add_process" (defArgs s_Yards_add_process) (defBody s_Yards_add_process) (defScope s_Yards_add_process) [] [] (He.ma K (He.ga K "Yard") "add_process") d_Yards_add_process
  m_Yards_add_process : Meth K ((cl K []).adr 1) "add_process" (He.ma K (He.ga K "Yard") "add_process")
  b_Yards_add_process : Binds K d_Yards_add_process P_Yards_add_process []
  d_Yards___init__ : FuncData
  F_Yards___init__ : FunD K "__init__" "Yards.__init__" (defArgs s_Yards___init__) (defBody s_Yards___init__) (defScope s_Yards___init__) [] [] (He.ma K (He.ga K "Deeds") "__init__") d_Yards___init__
  o_Yards___init__ : Off K (He.ga K "Deeds") "__init__" (He.ma K (He.ga K "Deeds") "__init__")
  b_Yards___init__ : Binds K d_Yards___init__ P_Yards___init__ []
  d_Yard___init__ : FuncData
  F_Yard___init__ : FunD K "__init__" "Yard.__init__" (defArgs s_Yard___init__) (defBody s_Yard___init__) (defScope s_Yard___init__) [] [] (He.ma K (He.ga K "Yard") "__init__") d_Yard___init__
  b_Yard___init__ : Binds K d_Yard___init__ P_Yard___init__ []
  d__law_pick : FuncData
  F__law_pick : FunD K "_law_pick" "_law_pick" (defArgs s__law_pick) (defBody s__law_pick) (defScope s__law_pick) [] [] (He.ga K "_law_pick") d__law_pick
  g__law_pick : mg "_law_pick" = some (.ref (He.ga K "_law_pick"))
  b__law_pick : Binds K d__law_pick P__law_pick []
  d_is_name : FuncData
  F_is_name : FunD K "is_name" "is_name" (defArgs s_is_name) (defBody s_is_name) (defScope s_is_name) [] [] (He.ga K "is_name") d_is_name
  g_is_name : mg "is_name" = some (.ref (He.ga K "is_name"))
  b_is_name : Binds K d_is_name P_is_name []
  d_Groups_look_group : FuncData
  F_Groups_look_group : FunD K "look_group" "Groups.look_group" (defArgs s_Groups_look_group) (defBody s_Groups_look_group) (defScope s_Groups_look_group) [] [] (He.ma K (He.ga K "Yard") "look_group") d_Groups_look_group
  m_Groups_look_group : Meth K ((cl K []).adr 1) "look_group" (He.ma K (He.ga K "Yard") "look_group")
  b_Groups_look_group : Binds K d_Groups_look_group P_Groups_look_group []
  d_is_whole : FuncData
  F_is_whole : FunD K "is_whole" "is_whole" (defArgs s_is_whole) (defBody s_is_whole) (defScope s_is_whole) [] [] (He.ga K "is_whole") d_is_whole
  g_is_whole : mg "is_whole" = some (.ref (He.ga K "is_whole"))
  b_is_whole : Binds K d_is_whole P_is_whole []
  d_are_caps : FuncData
  F_are_caps : FunD K "are_caps" "are_caps" (defArgs s_are_caps) (defBody s_are_caps) (defScope s_are_caps) [] [] (He.ga K "are_caps") d_are_caps
  g_are_caps : mg "are_caps" = some (.ref (He.ga K "are_caps"))
  b_are_caps : Binds K d_are_caps P_are_caps []
  d_look_caps : FuncData
  F_look_caps : FunD K "look_caps" "look_caps" (defArgs s_look_caps) (defBody s_look_caps) (defScope s_look_caps) [] [] (He.ga K "look_caps") d_look_caps
  g_look_caps : mg "look_caps" = some (.ref (He.ga K "look_caps"))
  b_look_caps : Binds K d_look_caps P_look_caps []
  d_Groups_look_lowered : FuncData
  F_Groups_look_lowered : FunD K "look_lowered" "Groups.look_lowered" (defArgs s_Groups_look_lowered) (defBody s_Groups_look_lowered) (defScope s_Groups_look_lowered) [] [] (He.ma K (He.ga K "Yard") "look_lowered") d_Groups_look_lowered
  m_Groups_look_lowered : Meth K ((cl K []).adr 1) "look_lowered" (He.ma K (He.ga K "Yard") "look_lowered")
  b_Groups_look_lowered : Binds K d_Groups_look_lowered P_Groups_look_lowered []
  d_Groups_way_up : FuncData
  F_Groups_way_up : FunD K "way_up" "Groups.way_up" (defArgs s_Groups_way_up) (defBody s_Groups_way_up) (defScope s_Groups_way_up) [] [] (He.ma K (He.ga K "Yard") "way_up") d_Groups_way_up
  m_Groups_way_up : Meth K ((cl K []).adr 1) "way_up" (He.ma K (He.ga K "Yard") "way_up")
  b_Groups_way_up : Binds K d_Groups_way_up P_Groups_way_up []
  d_Groups_within : FuncData
  F_Groups_within : FunD K "within" "Groups.within" (defArgs s_Groups_within) (defBody s_Groups_within) (defScope s_Groups_within) [] [] (He.ma K (He.ga K "Yard") "within") d_Groups_within
  m_Groups_within : Meth K ((cl K []).adr 1) "within" (He.ma K (He.ga K "Yard") "within")
  b_Groups_within : Binds K d_Groups_within P_Groups_within []
  d_Yards_all_of : FuncData
  F_Yards_all_of : FunD K "all_of" "Yards.all_of" (defArgs s_Yards_all_of) (defBody s_Yards_all_of) (defScope s_Yards_all_of) [] [] (He.ma K (He.ga K "Yard") "all_of") d_Yards_all_of
  m_Yards_all_of : Meth K ((cl K []).adr 1) "all_of" (He.ma K (He.ga K "Yard") "all_of")
  b_Yards_all_of : Binds K d_Yards_all_of P_Yards_all_of []
  d_Yards_held_heads : FuncData
  F_Yards_held_heads : FunD K "held_heads" "Yards.held_heads" (defArgs s_Yards_held_heads) (defBody s_Yards_held_heads) (defScope s_Yards_held_heads) [] [] (He.ma K (He.ga K "Yard") "held_heads") d_Yards_held_heads
  m_Yards_held_heads : Meth K ((cl K []).adr 1) "held_heads" (He.ma K (He.ga K "Yard") "held_heads")
  b_Yards_held_heads : Binds K d_Yards_held_heads P_Yards_held_heads []
  d_Yards_held_units : FuncData
  F_Yards_held_units : FunD K "held_units" "Yards.held_units" (defArgs s_Yards_held_units) (defBody s_Yards_held_units) (defScope s_Yards_held_units) [] [] (He.ma K (He.ga K "Yard") "held_units") d_Yards_held_units
  m_Yards_held_units : Meth K ((cl K []).adr 1) "held_units" (He.ma K (He.ga K "Yard") "held_units")
  b_Yards_held_units : Binds K d_Yards_held_units P_Yards_held_units []
  d_Deeds_put_caps : FuncData
  F_Deeds_put_caps : FunD K "put_caps" "Deeds.put_caps" (defArgs s_Deeds_put_caps) (defBody s_Deeds_put_caps) (defScope s_Deeds_put_caps) [] [] (He.ma K (He.ga K "Yard") "put_caps") d_Deeds_put_caps
  m_Deeds_put_caps : Meth K ((cl K []).adr 1) "put_caps" (He.ma K (He.ga K "Yard") "put_caps")
  b_Deeds_put_caps : Binds K d_Deeds_put_caps P_Deeds_put_caps []
  d_Yard_note : FuncData
  F_Yard_note : FunD K "note" "Yard.note" (defArgs s_Yard_note) (defBody s_Yard_note) (defScope s_Yard_note) [] [("told", He.Dv.v K (.non))] (He.ma K (He.ga K "Yard") "note") d_Yard_note
  m_Yard_note : Meth K ((cl K []).adr 1) "note" (He.ma K (He.ga K "Yard") "note")
  bx_Yard_note_1_deed : BindX K d_Yard_note P_Yard_note 1 ["deed"] [V.non] [0, 2, 1]
  bx_Yard_note_1_told_deed : BindX K d_Yard_note P_Yard_note 1 ["told", "deed"] [] [0, 2, 1]
  bx_Yard_note_1_deed_told : BindX K d_Yard_note P_Yard_note 1 ["deed", "told"] [] [0, 1, 2]
  d_Yard_set_caps : FuncData
  F_Yard_set_caps : FunD K "set_caps" "Yard.set_caps" (defArgs s_Yard_set_caps) (defBody s_Yard_set_caps) (defScope s_Yard_set_caps) [] [("unit_cap", He.Dv.v K (.non)), ("head_cap", He.Dv.v K (.non)), ("turn_cap", He.Dv.v K (.non))] (He.ma K (He.ga K "Yard") "set_caps") d_Yard_set_caps
  m_Yard_set_caps : Meth K ((cl K []).adr 1) "set_caps" (He.ma K (He.ga K "Yard") "set_caps")
  bx_Yard_set_caps_2_unit_cap : BindX K d_Yard_set_caps P_Yard_set_caps 2 ["unit_cap"] [V.non, V.non] [0, 1, 4, 2, 3]
  d_look_name : FuncData
  F_look_name : FunD K "look_name" "look_name" (defArgs s_look_name) (defBody s_look_name) (defScope s_look_name) [] [] (He.ga K "look_name") d_look_name
  g_look_name : mg "look_name" = some (.ref (He.ga K "look_name"))
  b_look_name : Binds K d_look_name P_look_name []
  d_is_path : FuncData
  F_is_path : FunD K "is_path" "is_path" (defArgs s_is_path) (defBody s_is_path) (defScope s_is_path) [] [] (He.ga K "is_path") d_is_path
  g_is_path : mg "is_path" = some (.ref (He.ga K "is_path"))
  b_is_path : Binds K d_is_path P_is_path []
  d_are_words : FuncData
  F_are_words : FunD K "are_words" "are_words" (defArgs s_are_words) (defBody s_are_words) (defScope s_are_words) [] [] (He.ga K "are_words") d_are_words
  g_are_words : mg "are_words" = some (.ref (He.ga K "are_words"))
  b_are_words : Binds K d_are_words P_are_words []
  d_is_file : FuncData
  F_is_file : FunD K "is_file" "is_file" (defArgs s_is_file) (defBody s_is_file) (defScope s_is_file) [] [] (He.ga K "is_file") d_is_file
  g_is_file : mg "is_file" = some (.ref (He.ga K "is_file"))
  b_is_file : Binds K d_is_file P_is_file []
  d_is_layer : FuncData
  F_is_layer : FunD K "is_layer" "is_layer" (defArgs s_is_layer) (defBody s_is_layer) (defScope s_is_layer) [] [] (He.ga K "is_layer") d_is_layer
  g_is_layer : mg "is_layer" = some (.ref (He.ga K "is_layer"))
  b_is_layer : Binds K d_is_layer P_is_layer []
  d_are_layers : FuncData
  F_are_layers : FunD K "are_layers" "are_layers" (defArgs s_are_layers) (defBody s_are_layers) (defScope s_are_layers) [] [] (He.ga K "are_layers") d_are_layers
  g_are_layers : mg "are_layers" = some (.ref (He.ga K "are_layers"))
  b_are_layers : Binds K d_are_layers P_are_layers []
  d_look_layers : FuncData
  F_look_layers : FunD K "look_layers" "look_layers" (defArgs s_look_layers) (defBody s_look_layers) (defScope s_look_layers) [] [] (He.ga K "look_layers") d_look_layers
  g_look_layers : mg "look_layers" = some (.ref (He.ga K "look_layers"))
  b_look_layers : Binds K d_look_layers P_look_layers []
  d_look_whole : FuncData
  F_look_whole : FunD K "look_whole" "look_whole" (defArgs s_look_whole) (defBody s_look_whole) (defScope s_look_whole) [] [] (He.ga K "look_whole") d_look_whole
  g_look_whole : mg "look_whole" = some (.ref (He.ga K "look_whole"))
  b_look_whole : Binds K d_look_whole P_look_whole []
  d_Yard_look_new_cell : FuncData
  F_Yard_look_new_cell : FunD K "look_new_cell" "Yard.look_new_cell" (defArgs s_Yard_look_new_cell) (defBody s_Yard_look_new_cell) (defScope s_Yard_look_new_cell) [] [] (He.ma K (He.ga K "Yard") "look_new_cell") d_Yard_look_new_cell
  m_Yard_look_new_cell : Meth K ((cl K []).adr 1) "look_new_cell" (He.ma K (He.ga K "Yard") "look_new_cell")
  b_Yard_look_new_cell : Binds K d_Yard_look_new_cell P_Yard_look_new_cell []
  d_Groups_barred : FuncData
  F_Groups_barred : FunD K "barred" "Groups.barred" (defArgs s_Groups_barred) (defBody s_Groups_barred) (defScope s_Groups_barred) [] [] (He.ma K (He.ga K "Yard") "barred") d_Groups_barred
  m_Groups_barred : Meth K ((cl K []).adr 1) "barred" (He.ma K (He.ga K "Yard") "barred")
  b_Groups_barred : Binds K d_Groups_barred P_Groups_barred []
  d_Yards_look_heads : FuncData
  F_Yards_look_heads : FunD K "look_heads" "Yards.look_heads" (defArgs s_Yards_look_heads) (defBody s_Yards_look_heads) (defScope s_Yards_look_heads) [] [] (He.ma K (He.ga K "Yard") "look_heads") d_Yards_look_heads
  m_Yards_look_heads : Meth K ((cl K []).adr 1) "look_heads" (He.ma K (He.ga K "Yard") "look_heads")
  b_Yards_look_heads : Binds K d_Yards_look_heads P_Yards_look_heads []
  d_Groups_add_group : FuncData
  F_Groups_add_group : FunD K "add_group" "Groups.add_group" (defArgs s_Groups_add_group) (defBody s_Groups_add_group) (defScope s_Groups_add_group) [] [] (He.ma K (He.ga K "Yard") "add_group") d_Groups_add_group
  m_Groups_add_group : Meth K ((cl K []).adr 1) "add_group" (He.ma K (He.ga K "Yard") "add_group")
  b_Groups_add_group : Binds K d_Groups_add_group P_Groups_add_group []
  d_flat_of : FuncData
  F_flat_of : FunD K "flat_of" "flat_of" (defArgs s_flat_of) (defBody s_flat_of) (defScope s_flat_of) [] [] (He.ga K "flat_of") d_flat_of
  g_flat_of : mg "flat_of" = some (.ref (He.ga K "flat_of"))
  b_flat_of : Binds K d_flat_of P_flat_of []
  d_Deeds_make_store : FuncData
  F_Deeds_make_store : FunD K "make_store" "Deeds.make_store" (defArgs s_Deeds_make_store) (defBody s_Deeds_make_store) (defScope s_Deeds_make_store) [] [] (He.ma K (He.ga K "Yard") "make_store") d_Deeds_make_store
  m_Deeds_make_store : Meth K ((cl K []).adr 1) "make_store" (He.ma K (He.ga K "Yard") "make_store")
  b_Deeds_make_store : Binds K d_Deeds_make_store P_Deeds_make_store []
  d_Yard_open_cell : FuncData
  F_Yard_open_cell : FunD K "open_cell" "Yard.open_cell" (defArgs s_Yard_open_cell) (defBody s_Yard_open_cell) (defScope s_Yard_open_cell) [] [("heft", He.Dv.v K (.int 1)), ("unit_cap", He.Dv.v K (.non)), ("head_cap", He.Dv.v K (.non)), ("turn_cap", He.Dv.v K (.non))] (He.ma K (He.ga K "Yard") "open_cell") d_Yard_open_cell
  m_Yard_open_cell : Meth K ((cl K []).adr 1) "open_cell" (He.ma K (He.ga K "Yard") "open_cell")
  bx_Yard_open_cell_3 : BindX K d_Yard_open_cell P_Yard_open_cell 3 [] [(V.int 1), V.non, V.non, V.non] [0, 1, 2, 3, 4, 5, 6]
  d_Yards_look_process : FuncData
  F_Yards_look_process : FunD K "look_process" "Yards.look_process" (defArgs s_Yards_look_process) (defBody s_Yards_look_process) (defScope s_Yards_look_process) [] [] (He.ma K (He.ga K "Yard") "look_process") d_Yards_look_process
  m_Yards_look_process : Meth K ((cl K []).adr 1) "look_process" (He.ma K (He.ga K "Yard") "look_process")
  b_Yards_look_process : Binds K d_Yards_look_process P_Yards_look_process []
  d_Groups_cold_by : FuncData
  F_Groups_cold_by : FunD K "cold_by" "Groups.cold_by" (defArgs s_Groups_cold_by) (defBody s_Groups_cold_by) (defScope s_Groups_cold_by) [] [] (He.ma K (He.ga K "Yard") "cold_by") d_Groups_cold_by
  m_Groups_cold_by : Meth K ((cl K []).adr 1) "cold_by" (He.ma K (He.ga K "Yard") "cold_by")
  b_Groups_cold_by : Binds K d_Groups_cold_by P_Groups_cold_by []
  d_Yards_look_actor : FuncData
  F_Yards_look_actor : FunD K "look_actor" "Yards.look_actor" (defArgs s_Yards_look_actor) (defBody s_Yards_look_actor) (defScope s_Yards_look_actor) [] [] (He.ma K (He.ga K "Yard") "look_actor") d_Yards_look_actor
  m_Yards_look_actor : Meth K ((cl K []).adr 1) "look_actor" (He.ma K (He.ga K "Yard") "look_actor")
  b_Yards_look_actor : Binds K d_Yards_look_actor P_Yards_look_actor []
  d_are_kinds : FuncData
  F_are_kinds : FunD K "are_kinds" "are_kinds" (defArgs s_are_kinds) (defBody s_are_kinds) (defScope s_are_kinds) [] [] (He.ga K "are_kinds") d_are_kinds
  g_are_kinds : mg "are_kinds" = some (.ref (He.ga K "are_kinds"))
  b_are_kinds : Binds K d_are_kinds P_are_kinds []
  d_Deeds_make_process : FuncData
  F_Deeds_make_process : FunD K "make_process" "Deeds.make_process" (defArgs s_Deeds_make_process) (defBody s_Deeds_make_process) (defScope s_Deeds_make_process) [] [] (He.ma K (He.ga K "Yard") "make_process") d_Deeds_make_process
  m_Deeds_make_process : Meth K ((cl K []).adr 1) "make_process" (He.ma K (He.ga K "Yard") "make_process")
  b_Deeds_make_process : Binds K d_Deeds_make_process P_Deeds_make_process []
  d_Yard_spawn : FuncData
  F_Yard_spawn : FunD K "spawn" "Yard.spawn" (defArgs s_Yard_spawn) (defBody s_Yard_spawn) (defScope s_Yard_spawn) [] [("fresh", He.Dv.v K (.adr (kwdAt ("Yard", some "spawn") "fresh")))] (He.ma K (He.ga K "Yard") "spawn") d_Yard_spawn
  m_Yard_spawn : Meth K ((cl K []).adr 1) "spawn" (He.ma K (He.ga K "Yard") "spawn")
  bx_Yard_spawn_2_fresh : BindX K d_Yard_spawn P_Yard_spawn 2 ["fresh"] [] [0, 1, 2]
  bx_Yard_spawn_2 : BindX K d_Yard_spawn P_Yard_spawn 2 [] [(V.ref (kwdAt ("Yard", some "spawn") "fresh" K))] [0, 1, 2]
  z_Yard_spawn_fresh : ∀ H, SqT K H (kwdAt ("Yard", some "spawn") "fresh" K) []
  d_Yard_make_group : FuncData
  F_Yard_make_group : FunD K "make_group" "Yard.make_group" (defArgs s_Yard_make_group) (defBody s_Yard_make_group) (defScope s_Yard_make_group) [] [("heft", He.Dv.v K (.int 1)), ("unit_cap", He.Dv.v K (.non)), ("head_cap", He.Dv.v K (.non)), ("turn_cap", He.Dv.v K (.non))] (He.ma K (He.ga K "Yard") "make_group") d_Yard_make_group
  m_Yard_make_group : Meth K ((cl K []).adr 1) "make_group" (He.ma K (He.ga K "Yard") "make_group")
  bx_Yard_make_group_3 : BindX K d_Yard_make_group P_Yard_make_group 3 [] [(V.int 1), V.non, V.non, V.non] [0, 1, 2, 3, 4, 5, 6]
  d_Yards_look_units : FuncData
  F_Yards_look_units : FunD K "look_units" "Yards.look_units" (defArgs s_Yards_look_units) (defBody s_Yards_look_units) (defScope s_Yards_look_units) [] [] (He.ma K (He.ga K "Yard") "look_units") d_Yards_look_units
  m_Yards_look_units : Meth K ((cl K []).adr 1) "look_units" (He.ma K (He.ga K "Yard") "look_units")
  b_Yards_look_units : Binds K d_Yards_look_units P_Yards_look_units []
  d_Deeds_put_group : FuncData
  F_Deeds_put_group : FunD K "put_group" "Deeds.put_group" (defArgs s_Deeds_put_group) (defBody s_Deeds_put_group) (defScope s_Deeds_put_group) [] [] (He.ma K (He.ga K "Yard") "put_group") d_Deeds_put_group
  m_Deeds_put_group : Meth K ((cl K []).adr 1) "put_group" (He.ma K (He.ga K "Yard") "put_group")
  b_Deeds_put_group : Binds K d_Deeds_put_group P_Deeds_put_group []
  d_Yard_move : FuncData
  F_Yard_move : FunD K "move" "Yard.move" (defArgs s_Yard_move) (defBody s_Yard_move) (defScope s_Yard_move) [] [] (He.ma K (He.ga K "Yard") "move") d_Yard_move
  m_Yard_move : Meth K ((cl K []).adr 1) "move" (He.ma K (He.ga K "Yard") "move")
  b_Yard_move : Binds K d_Yard_move P_Yard_move []
  d_look_path : FuncData
  F_look_path : FunD K "look_path" "look_path" (defArgs s_look_path) (defBody s_look_path) (defScope s_look_path) [] [] (He.ga K "look_path") d_look_path
  g_look_path : mg "look_path" = some (.ref (He.ga K "look_path"))
  b_look_path : Binds K d_look_path P_look_path []
  d_Deeds_drop_mount : FuncData
  F_Deeds_drop_mount : FunD K "drop_mount" "Deeds.drop_mount" (defArgs s_Deeds_drop_mount) (defBody s_Deeds_drop_mount) (defScope s_Deeds_drop_mount) [] [] (He.ma K (He.ga K "Yard") "drop_mount") d_Deeds_drop_mount
  m_Deeds_drop_mount : Meth K ((cl K []).adr 1) "drop_mount" (He.ma K (He.ga K "Yard") "drop_mount")
  b_Deeds_drop_mount : Binds K d_Deeds_drop_mount P_Deeds_drop_mount []
  d_Yard_unmount : FuncData
  F_Yard_unmount : FunD K "unmount" "Yard.unmount" (defArgs s_Yard_unmount) (defBody s_Yard_unmount) (defScope s_Yard_unmount) [] [] (He.ma K (He.ga K "Yard") "unmount") d_Yard_unmount
  m_Yard_unmount : Meth K ((cl K []).adr 1) "unmount" (He.ma K (He.ga K "Yard") "unmount")
  b_Yard_unmount : Binds K d_Yard_unmount P_Yard_unmount []
  d_Deeds_add_units : FuncData
  F_Deeds_add_units : FunD K "add_units" "Deeds.add_units" (defArgs s_Deeds_add_units) (defBody s_Deeds_add_units) (defScope s_Deeds_add_units) [] [] (He.ma K (He.ga K "Yard") "add_units") d_Deeds_add_units
  m_Deeds_add_units : Meth K ((cl K []).adr 1) "add_units" (He.ma K (He.ga K "Yard") "add_units")
  b_Deeds_add_units : Binds K d_Deeds_add_units P_Deeds_add_units []
  d_Yard_grow : FuncData
  F_Yard_grow : FunD K "grow" "Yard.grow" (defArgs s_Yard_grow) (defBody s_Yard_grow) (defScope s_Yard_grow) [] [] (He.ma K (He.ga K "Yard") "grow") d_Yard_grow
  m_Yard_grow : Meth K ((cl K []).adr 1) "grow" (He.ma K (He.ga K "Yard") "grow")
  b_Yard_grow : Binds K d_Yard_grow P_Yard_grow []
  d_Yard_look_cell : FuncData
  F_Yard_look_cell : FunD K "look_cell" "Yard.look_cell" (defArgs s_Yard_look_cell) (defBody s_Yard_look_cell) (defScope s_Yard_look_cell) [] [] (He.ma K (He.ga K "Yard") "look_cell") d_Yard_look_cell
  m_Yard_look_cell : Meth K ((cl K []).adr 1) "look_cell" (He.ma K (He.ga K "Yard") "look_cell")
  b_Yard_look_cell : Binds K d_Yard_look_cell P_Yard_look_cell []
  d_Yards_list_processes : FuncData
  F_Yards_list_processes : FunD K "list_processes" "Yards.list_processes" (defArgs s_Yards_list_processes) (defBody s_Yards_list_processes) (defScope s_Yards_list_processes) [] [] (He.ma K (He.ga K "Yard") "list_processes") d_Yards_list_processes
  m_Yards_list_processes : Meth K ((cl K []).adr 1) "list_processes" (He.ma K (He.ga K "Yard") "list_processes")
  b_Yards_list_processes : Binds K d_Yards_list_processes P_Yards_list_processes []
  d_Yard___len__ : FuncData
  F_Yard___len__ : FunD K "__len__" "Yard.__len__" (defArgs s_Yard___len__) (defBody s_Yard___len__) (defScope s_Yard___len__) [] [] (He.ma K (He.ga K "Yard") "__len__") d_Yard___len__
  m_Yard___len__ : Meth K ((cl K []).adr 1) "__len__" (He.ma K (He.ga K "Yard") "__len__")
  b_Yard___len__ : Binds K d_Yard___len__ P_Yard___len__ []
  d_Yards_heir_of : FuncData
  F_Yards_heir_of : FunD K "heir_of" "Yards.heir_of" (defArgs s_Yards_heir_of) (defBody s_Yards_heir_of) (defScope s_Yards_heir_of) [] [] (He.ma K (He.ga K "Yard") "heir_of") d_Yards_heir_of
  m_Yards_heir_of : Meth K ((cl K []).adr 1) "heir_of" (He.ma K (He.ga K "Yard") "heir_of")
  b_Yards_heir_of : Binds K d_Yards_heir_of P_Yards_heir_of []
  d_Yards_young_of : FuncData
  F_Yards_young_of : FunD K "young_of" "Yards.young_of" (defArgs s_Yards_young_of) (defBody s_Yards_young_of) (defScope s_Yards_young_of) [] [] (He.ma K (He.ga K "Yard") "young_of") d_Yards_young_of
  m_Yards_young_of : Meth K ((cl K []).adr 1) "young_of" (He.ma K (He.ga K "Yard") "young_of")
  b_Yards_young_of : Binds K d_Yards_young_of P_Yards_young_of []
  d_Yards_drop_process : FuncData
  F_Yards_drop_process : FunD K "drop_process" "Yards.drop_process" (defArgs s_Yards_drop_process) (defBody s_Yards_drop_process) (defScope s_Yards_drop_process) [] [] (He.ma K (He.ga K "Yard") "drop_process") d_Yards_drop_process
  m_Yards_drop_process : Meth K ((cl K []).adr 1) "drop_process" (He.ma K (He.ga K "Yard") "drop_process")
  b_Yards_drop_process : Binds K d_Yards_drop_process P_Yards_drop_process []
  d_Yards_put_end : FuncData
  F_Yards_put_end : FunD K "put_end" "Yards.put_end" (defArgs s_Yards_put_end) (defBody s_Yards_put_end) (defScope s_Yards_put_end) [] [] (He.ma K (He.ga K "Yard") "put_end") d_Yards_put_end
  m_Yards_put_end : Meth K ((cl K []).adr 1) "put_end" (He.ma K (He.ga K "Yard") "put_end")
  b_Yards_put_end : Binds K d_Yards_put_end P_Yards_put_end []
  d_Rooms_lies_in : FuncData
  F_Rooms_lies_in : FunD K "lies_in" "Rooms.lies_in" (defArgs s_Rooms_lies_in) (defBody s_Rooms_lies_in) (defScope s_Rooms_lies_in) [] [] (He.ma K (He.ga K "Rooms") "lies_in") d_Rooms_lies_in
  m_Rooms_lies_in : Meth K ((cl K []).adr 3) "lies_in" (He.ma K (He.ga K "Rooms") "lies_in")
  b_Rooms_lies_in : Binds K d_Rooms_lies_in P_Rooms_lies_in []
  d_Rooms_sweep : FuncData
  F_Rooms_sweep : FunD K "sweep" "Rooms.sweep" (defArgs s_Rooms_sweep) (defBody s_Rooms_sweep) (defScope s_Rooms_sweep) [] [] (He.ma K (He.ga K "Rooms") "sweep") d_Rooms_sweep
  m_Rooms_sweep : Meth K ((cl K []).adr 3) "sweep" (He.ma K (He.ga K "Rooms") "sweep")
  b_Rooms_sweep : Binds K d_Rooms_sweep P_Rooms_sweep []
  d_Yards_end_room : FuncData
  F_Yards_end_room : FunD K "end_room" "Yards.end_room" (defArgs s_Yards_end_room) (defBody s_Yards_end_room) (defScope s_Yards_end_room) [] [] (He.ma K (He.ga K "Yard") "end_room") d_Yards_end_room
  m_Yards_end_room : Meth K ((cl K []).adr 1) "end_room" (He.ma K (He.ga K "Yard") "end_room")
  b_Yards_end_room : Binds K d_Yards_end_room P_Yards_end_room []
  d_Yard_close_cell : FuncData
  F_Yard_close_cell : FunD K "close_cell" "Yard.close_cell" (defArgs s_Yard_close_cell) (defBody s_Yard_close_cell) (defScope s_Yard_close_cell) [] [] (He.ma K (He.ga K "Yard") "close_cell") d_Yard_close_cell
  m_Yard_close_cell : Meth K ((cl K []).adr 1) "close_cell" (He.ma K (He.ga K "Yard") "close_cell")
  b_Yard_close_cell : Binds K d_Yard_close_cell P_Yard_close_cell []
  d_processes : FuncData
  F_processes : FunD K "processes" "processes" (defArgs s_processes) (defBody s_processes) (defScope s_processes) [] [] (He.ga K "processes") d_processes
  g_processes : mg "processes" = some (.ref (He.ga K "processes"))
  b_processes : Binds K d_processes P_processes []
  d_ended : FuncData
  F_ended : FunD K "ended" "ended" (defArgs s_ended) (defBody s_ended) (defScope s_ended) [] [] (He.ga K "ended") d_ended
  g_ended : mg "ended" = some (.ref (He.ga K "ended"))
  b_ended : Binds K d_ended P_ended []
  d_charges : FuncData
  F_charges : FunD K "charges" "charges" (defArgs s_charges) (defBody s_charges) (defScope s_charges) [] [] (He.ga K "charges") d_charges
  g_charges : mg "charges" = some (.ref (He.ga K "charges"))
  b_charges : Binds K d_charges P_charges []
  d_groups : FuncData
  F_groups : FunD K "groups" "groups" (defArgs s_groups) (defBody s_groups) (defScope s_groups) [] [] (He.ga K "groups") d_groups
  g_groups : mg "groups" = some (.ref (He.ga K "groups"))
  b_groups : Binds K d_groups P_groups []
  d_stores : FuncData
  F_stores : FunD K "stores" "stores" (defArgs s_stores) (defBody s_stores) (defScope s_stores) [] [] (He.ga K "stores") d_stores
  g_stores : mg "stores" = some (.ref (He.ga K "stores"))
  b_stores : Binds K d_stores P_stores []
  d_cells : FuncData
  F_cells : FunD K "cells" "cells" (defArgs s_cells) (defBody s_cells) (defScope s_cells) [] [] (He.ga K "cells") d_cells
  g_cells : mg "cells" = some (.ref (He.ga K "cells"))
  b_cells : Binds K d_cells P_cells []
  d_rooms : FuncData
  F_rooms : FunD K "rooms" "rooms" (defArgs s_rooms) (defBody s_rooms) (defScope s_rooms) [] [] (He.ga K "rooms") d_rooms
  g_rooms : mg "rooms" = some (.ref (He.ga K "rooms"))
  b_rooms : Binds K d_rooms P_rooms []
  d__law_class : FuncData
  F__law_class : FunD K "_law_class" "_law_class" (defArgs s__law_class) (defBody s__law_class) (defScope s__law_class) [] [] (He.ga K "_law_class") d__law_class
  g__law_class : mg "_law_class" = some (.ref (He.ga K "_law_class"))
  b__law_class : Binds K d__law_class P__law_class []
  d__law_told : FuncData
  F__law_told : FunD K "_law_told" "_law_told" (defArgs s__law_told) (defBody s__law_told) (defScope s__law_told) [] [] (He.ga K "_law_told") d__law_told
  g__law_told : mg "_law_told" = some (.ref (He.ga K "_law_told"))
  b__law_told : Binds K d__law_told P__law_told []
  d_Deeds_wait_for : FuncData
  F_Deeds_wait_for : FunD K "wait_for" "Deeds.wait_for" (defArgs s_Deeds_wait_for) (defBody s_Deeds_wait_for) (defScope s_Deeds_wait_for) [] [] (He.ma K (He.ga K "Yard") "wait_for") d_Deeds_wait_for
  m_Deeds_wait_for : Meth K ((cl K []).adr 1) "wait_for" (He.ma K (He.ga K "Yard") "wait_for")
  b_Deeds_wait_for : Binds K d_Deeds_wait_for P_Deeds_wait_for []
  d_Yard_wait : FuncData
  F_Yard_wait : FunD K "wait" "Yard.wait" (defArgs s_Yard_wait) (defBody s_Yard_wait) (defScope s_Yard_wait) [] [] (He.ma K (He.ga K "Yard") "wait") d_Yard_wait
  m_Yard_wait : Meth K ((cl K []).adr 1) "wait" (He.ma K (He.ga K "Yard") "wait")
  b_Yard_wait : Binds K d_Yard_wait P_Yard_wait []
  d_law : FuncData
  F_law : FunD K "law" "law" (defArgs s_law) (defBody s_law) (defScope s_law) [] [] (He.ga K "law") d_law
  g_law : mg "law" = some (.ref (He.ga K "law"))
  b_law : Binds K d_law P_law []
section
variable {P : Program} {w : World} {K : PySem.W.Frag} {mg : Str → Option Value} {base : Heap} {sc : List D} {pk : Fn}
theorem kd : ∀ (c : Nat) (s : Str), nmK c = some s → ∀ h, b__law_class (entry 3 [.exn c]) h = .ok (.ret (.str s)) h
  | 0, s, e => by cases e; intro h; kernel_rfl
  | 1, s, e => by cases e; intro h; kernel_rfl
  | 2, s, e => by cases e; intro h; kernel_rfl
  | 3, s, e => by cases e; intro h; kernel_rfl
  | 4, s, e => by cases e; intro h; kernel_rfl
  | 5, s, e => by cases e; intro h; kernel_rfl
  | 6, s, e => by cases e; intro h; kernel_rfl
  | 7, s, e => by cases e; intro h; kernel_rfl
  | 8, s, e => by cases e; intro h; kernel_rfl
  | 9, s, e => by cases e; intro h; kernel_rfl
  | 10, s, e => by cases e; intro h; kernel_rfl
  | 11, s, e => by cases e; intro h; kernel_rfl
  | 12, s, e => by cases e; intro h; kernel_rfl
  | 13, s, e => by cases e; intro h; kernel_rfl
  | 14, s, e => by cases e; intro h; kernel_rfl
  | 15, s, e => by cases e; intro h; kernel_rfl
  | 16, s, e => by cases e; intro h; kernel_rfl
  | 17, s, e => by cases e; intro h; kernel_rfl
  | 18, s, e => by cases e; intro h; kernel_rfl
  | 19, s, e => by cases e; intro h; kernel_rfl
  | 20, s, e => by cases e; intro h; kernel_rfl
  | 21, s, e => by cases e; intro h; kernel_rfl
  | 22, s, e => by cases e; intro h; kernel_rfl
  | 23, s, e => by cases e; intro h; kernel_rfl
  | 24, s, e => by cases e; intro h; kernel_rfl
  | 25, s, e => by cases e; intro h; kernel_rfl
  | 26, s, e => by cases e; intro h; kernel_rfl
  | 27, s, e => by cases e; intro h; kernel_rfl
  | 28, s, e => by cases e; intro h; kernel_rfl
  | c + 29, s, e => by cases e
theorem kdlt : ∀ (c : Nat) (s : Str), nmK c = some s → c < 29
  | 0, _, _ => by decide
  | 1, _, _ => by decide
  | 2, _, _ => by decide
  | 3, _, _ => by decide
  | 4, _, _ => by decide
  | 5, _, _ => by decide
  | 6, _, _ => by decide
  | 7, _, _ => by decide
  | 8, _, _ => by decide
  | 9, _, _ => by decide
  | 10, _, _ => by decide
  | 11, _, _ => by decide
  | 12, _, _ => by decide
  | 13, _, _ => by decide
  | 14, _, _ => by decide
  | 15, _, _ => by decide
  | 16, _, _ => by decide
  | 17, _, _ => by decide
  | 18, _, _ => by decide
  | 19, _, _ => by decide
  | 20, _, _ => by decide
  | 21, _, _ => by decide
  | 22, _, _ => by decide
  | 23, _, _ => by decide
  | 24, _, _ => by decide
  | 25, _, _ => by decide
  | 26, _, _ => by decide
  | 27, _, _ => by decide
  | 28, _, _ => by decide
  | c + 29, s, e => by cases e
theorem ok_kind (T : Tx K mg) : KindOk P w K mg base (cl K sc) (He.ga K "CellError") 1 (He.ga K "_law_class") nmK :=
  ⟨fun c s e A outer st H p Q E m h hA he e0 C q => run_err (k := 0) T.F__law_class sc__law_class rfl (fun cdv A outer s H E p cl1 same on hr hx =>
    have nd := sc__law_class.nd
    have scv : cl1.cv = fun c => .ref (He.ga K (eAt errL c)) := same.cv.symm
 (sns_cons (sns_ownL (i := 1) nd rfl (.inl rfl) (sna_cons (snd_isX hx (by exact rfl) T.n_isinstance (by exact rfl) T.g_NoNumber (T.errs.hot scv 0 (by decide) rfl) (sv 0)) (sna_cons (snd_isX hx (by exact rfl) T.n_isinstance (by exact rfl) T.g_NoName (T.errs.hot scv 1 (by decide) rfl) (sv 0)) (sna_cons (snd_isX hx (by exact rfl) T.n_isinstance (by exact rfl) T.g_NoWants (T.errs.hot scv 2 (by decide) rfl) (sv 0)) (sna_cons (snd_isX hx (by exact rfl) T.n_isinstance (by exact rfl) T.g_NoLayers (T.errs.hot scv 3 (by decide) rfl) (sv 0)) sna_nil)))))
 (sns_cons (sns_oexA (i := 1) rfl (by first | exact Or.inl rfl | exact Or.inr (Or.inl rfl) | exact Or.inr (Or.inr rfl)) (sna_cons (snd_isX hx (by exact rfl) T.n_isinstance (by exact rfl) T.g_NoPath (T.errs.hot scv 4 (by decide) rfl) (sv 0)) (sna_cons (snd_isX hx (by exact rfl) T.n_isinstance (by exact rfl) T.g_NoWords (T.errs.hot scv 5 (by decide) rfl) (sv 0)) (sna_cons (snd_isX hx (by exact rfl) T.n_isinstance (by exact rfl) T.g_NoKinds (T.errs.hot scv 6 (by decide) rfl) (sv 0)) (sna_cons (snd_isX hx (by exact rfl) T.n_isinstance (by exact rfl) T.g_NoProcess (T.errs.hot scv 7 (by decide) rfl) (sv 0)) sna_nil)))))
 (sns_cons (sns_oexA (i := 1) rfl (by first | exact Or.inl rfl | exact Or.inr (Or.inl rfl) | exact Or.inr (Or.inr rfl)) (sna_cons (snd_isX hx (by exact rfl) T.n_isinstance (by exact rfl) T.g_NoGroup (T.errs.hot scv 8 (by decide) rfl) (sv 0)) (sna_cons (snd_isX hx (by exact rfl) T.n_isinstance (by exact rfl) T.g_NoStore (T.errs.hot scv 9 (by decide) rfl) (sv 0)) (sna_cons (snd_isX hx (by exact rfl) T.n_isinstance (by exact rfl) T.g_NoCell (T.errs.hot scv 10 (by decide) rfl) (sv 0)) (sna_cons (snd_isX hx (by exact rfl) T.n_isinstance (by exact rfl) T.g_Taken (T.errs.hot scv 11 (by decide) rfl) (sv 0)) sna_nil)))))
 (sns_cons (sns_oexA (i := 1) rfl (by first | exact Or.inl rfl | exact Or.inr (Or.inl rfl) | exact Or.inr (Or.inr rfl)) (sna_cons (snd_isX hx (by exact rfl) T.n_isinstance (by exact rfl) T.g_Itself (T.errs.hot scv 12 (by decide) rfl) (sv 0)) (sna_cons (snd_isX hx (by exact rfl) T.n_isinstance (by exact rfl) T.g_Frozen (T.errs.hot scv 13 (by decide) rfl) (sv 0)) (sna_cons (snd_isX hx (by exact rfl) T.n_isinstance (by exact rfl) T.g_Capped (T.errs.hot scv 14 (by decide) rfl) (sv 0)) (sna_cons (snd_isX hx (by exact rfl) T.n_isinstance (by exact rfl) T.g_Over (T.errs.hot scv 15 (by decide) rfl) (sv 0)) sna_nil)))))
 (sns_cons (sns_oexA (i := 1) rfl (by first | exact Or.inl rfl | exact Or.inr (Or.inl rfl) | exact Or.inr (Or.inr rfl)) (sna_cons (snd_isX hx (by exact rfl) T.n_isinstance (by exact rfl) T.g_TooFew (T.errs.hot scv 16 (by decide) rfl) (sv 0)) (sna_cons (snd_isX hx (by exact rfl) T.n_isinstance (by exact rfl) T.g_Guarded (T.errs.hot scv 17 (by decide) rfl) (sv 0)) (sna_cons (snd_isX hx (by exact rfl) T.n_isinstance (by exact rfl) T.g_NoSuch (T.errs.hot scv 18 (by decide) rfl) (sv 0)) (sna_cons (snd_isX hx (by exact rfl) T.n_isinstance (by exact rfl) T.g_NoChild (T.errs.hot scv 19 (by decide) rfl) (sv 0)) sna_nil)))))
 (sns_cons (sns_oexA (i := 1) rfl (by first | exact Or.inl rfl | exact Or.inr (Or.inl rfl) | exact Or.inr (Or.inr rfl)) (sna_cons (snd_isX hx (by exact rfl) T.n_isinstance (by exact rfl) T.g_NotYet (T.errs.hot scv 20 (by decide) rfl) (sv 0)) (sna_cons (snd_isX hx (by exact rfl) T.n_isinstance (by exact rfl) T.g_NoMount (T.errs.hot scv 21 (by decide) rfl) (sv 0)) (sna_cons (snd_isX hx (by exact rfl) T.n_isinstance (by exact rfl) T.g_Fixed (T.errs.hot scv 22 (by decide) rfl) (sv 0)) (sna_cons (snd_isX hx (by exact rfl) T.n_isinstance (by exact rfl) T.g_NoFile (T.errs.hot scv 23 (by decide) rfl) (sv 0)) sna_nil)))))
 (sns_cons (sns_oexA (i := 1) rfl (by first | exact Or.inl rfl | exact Or.inr (Or.inl rfl) | exact Or.inr (Or.inr rfl)) (sna_cons (snd_isX hx (by exact rfl) T.n_isinstance (by exact rfl) T.g_Held (T.errs.hot scv 24 (by decide) rfl) (sv 0)) (sna_cons (snd_isX hx (by exact rfl) T.n_isinstance (by exact rfl) T.g_NotClosed (T.errs.hot scv 25 (by decide) rfl) (sv 0)) (sna_cons (snd_isX hx (by exact rfl) T.n_isinstance (by exact rfl) T.g_NoPicture (T.errs.hot scv 26 (by decide) rfl) (sv 0)) (sna_cons (snd_isX hx (by exact rfl) T.n_isinstance (by exact rfl) T.g_NoDeeds (T.errs.hot scv 27 (by decide) rfl) (sv 0)) sna_nil)))))
 (sns_cons (sns_oapp (i := 1) rfl (by first | exact Or.inl rfl | exact Or.inr (Or.inl rfl) | exact Or.inr (Or.inr rfl)) (snd_isX hx (by exact rfl) T.n_isinstance (by exact rfl) T.g_NoText (T.errs.hot scv 28 (by decide) rfl) (sv 0)))
 (sns_frz (i := 1)
 (sns_cons (sns_if (PW.pt (snw_or (snt_cmp (op_neA hr.units) ops_ne (snd_cnt (sv 1) snd_bl) snd_int (nomark _)) (snw_or1 (snt_not (snt_val (snd_isXB hx (by exact rfl) T.n_isinstance (by exact rfl) T.n_ValueError (by decide +kernel) (T.errs.allT scv) (sv 0)))))))
 (sns_cons (sns_ret (snd_str (by decide +kernel)))
 sns_nil)
 sns_nil)
 (sns_cons (sns_ownL (i := 2) nd rfl (.inl rfl) (sna_cons (snd_str (by decide +kernel)) (sna_cons (snd_str (by decide +kernel)) (sna_cons (snd_str (by decide +kernel)) (sna_cons (snd_str (by decide +kernel)) (sna_cons (snd_str (by decide +kernel)) (sna_cons (snd_str (by decide +kernel)) (sna_cons (snd_str (by decide +kernel)) (sna_cons (snd_str (by decide +kernel)) (sna_cons (snd_str (by decide +kernel)) sna_nil))))))))))
 (sns_cons (sns_oexA (i := 2) rfl (by first | exact Or.inl rfl | exact Or.inr (Or.inl rfl) | exact Or.inr (Or.inr rfl)) (sna_cons (snd_str (by decide +kernel)) (sna_cons (snd_str (by decide +kernel)) (sna_cons (snd_str (by decide +kernel)) (sna_cons (snd_str (by decide +kernel)) (sna_cons (snd_str (by decide +kernel)) (sna_cons (snd_str (by decide +kernel)) (sna_cons (snd_str (by decide +kernel)) (sna_cons (snd_str (by decide +kernel)) (sna_cons (snd_str (by decide +kernel)) (sna_cons (snd_str (by decide +kernel)) sna_nil)))))))))))
 (sns_cons (sns_oexA (i := 2) rfl (by first | exact Or.inl rfl | exact Or.inr (Or.inl rfl) | exact Or.inr (Or.inr rfl)) (sna_cons (snd_str (by decide +kernel)) (sna_cons (snd_str (by decide +kernel)) (sna_cons (snd_str (by decide +kernel)) (sna_cons (snd_str (by decide +kernel)) (sna_cons (snd_str (by decide +kernel)) (sna_cons (snd_str (by decide +kernel)) (sna_cons (snd_str (by decide +kernel)) (sna_cons (snd_str (by decide +kernel)) (sna_cons (snd_str (by decide +kernel)) sna_nil))))))))))
 (sns_frz (i := 2)
 (sns_cons (sns_ret (snd_idx hr.un1 (snd_add (sv 2) (snd_lst (sna_cons (snd_str (by decide +kernel)) sna_nil))) (snd_ixo (sv 1) snd_bl)))
 sns_nil)))))))))))))))) T.b__law_class (kd c s e) rfl rfl hA he e0 C q,
  fun c s e => ⟨He.ga K (eAt errL c), rfl, T.errs.exc c (kdlt c s e), T.errs.exm c (kdlt c s e)⟩⟩
theorem okI_Capped (T : Tx K mg) : FnOk P w K mg base (L2.CX P w) 2 (He.ma K (He.ga K "Capped") "__init__") T.d_Capped_init ["self", "group"] (spErr K (He.ga K "Capped") "group") :=
  ok_errinit (k := 1) (ce := "CellError") T.F_Capped_init ⟨rfl, rfl, rfl, by decide +kernel, rfl, by decide +kernel, by decide +kernel⟩ T.x_Capped T.n_Capped_f T.baseI T.g_CellError rfl (.inl rfl) (.inl rfl) (fun _ _ => ⟨_, rfl⟩) (fun _ => rfl) (fun _ _ => rfl)
theorem bI_Capped (T : Tx K mg) (s : Shared) (a v : Value) (KX : K.In s.heap) : BindsTo s T.d_Capped_init ⟨[a], [("group", v)]⟩ ((["self", "group"] : List Str).zip [a, v]) := by
  obtain ⟨oc, od, dV, kV, doc, pm, an, cdv, ct, osl, e, _, _, hD, _⟩ := T.F_Capped_init.ex
  rcases hD with ⟨_, rfl⟩ | ⟨z, _⟩
  case inr => exact absurd rfl z
  rw [e]
  exact BindsTo.of_looks fun M => PySem.W.Looks.of_pure rfl
theorem okI_Frozen (T : Tx K mg) : FnOk P w K mg base (L2.CX P w) 2 (He.ma K (He.ga K "Frozen") "__init__") T.d_Frozen_init ["self", "group"] (spErr K (He.ga K "Frozen") "group") :=
  ok_errinit (k := 1) (ce := "CellError") T.F_Frozen_init ⟨rfl, rfl, rfl, by decide +kernel, rfl, by decide +kernel, by decide +kernel⟩ T.x_Frozen T.n_Frozen_f T.baseI T.g_CellError rfl (.inl rfl) (.inl rfl) (fun _ _ => ⟨_, rfl⟩) (fun _ => rfl) (fun _ _ => rfl)
theorem bI_Frozen (T : Tx K mg) (s : Shared) (a v : Value) (KX : K.In s.heap) : BindsTo s T.d_Frozen_init ⟨[a], [("group", v)]⟩ ((["self", "group"] : List Str).zip [a, v]) := by
  obtain ⟨oc, od, dV, kV, doc, pm, an, cdv, ct, osl, e, _, _, hD, _⟩ := T.F_Frozen_init.ex
  rcases hD with ⟨_, rfl⟩ | ⟨z, _⟩
  case inr => exact absurd rfl z
  rw [e]
  exact BindsTo.of_looks fun M => PySem.W.Looks.of_pure rfl
theorem okI_Over (T : Tx K mg) : FnOk P w K mg base (L2.CX P w) 2 (He.ma K (He.ga K "Over") "__init__") T.d_Over_init ["self", "many"] (spErr K (He.ga K "Over") "many") :=
  ok_errinit (k := 1) (ce := "CellError") T.F_Over_init ⟨rfl, rfl, rfl, by decide +kernel, rfl, by decide +kernel, by decide +kernel⟩ T.x_Over T.n_Over_f T.baseI T.g_CellError rfl (.inl rfl) (.inl rfl) (fun _ _ => ⟨_, rfl⟩) (fun _ => rfl) (fun _ _ => rfl)
theorem bI_Over (T : Tx K mg) (s : Shared) (a v : Value) (KX : K.In s.heap) : BindsTo s T.d_Over_init ⟨[a], [("many", v)]⟩ ((["self", "many"] : List Str).zip [a, v]) := by
  obtain ⟨oc, od, dV, kV, doc, pm, an, cdv, ct, osl, e, _, _, hD, _⟩ := T.F_Over_init.ex
  rcases hD with ⟨_, rfl⟩ | ⟨z, _⟩
  case inr => exact absurd rfl z
  rw [e]
  exact BindsTo.of_looks fun M => PySem.W.Looks.of_pure rfl
theorem ok_Group___init__ (T : Tx K mg) (TB : ∀ p ∈ csOf lamL K, LamX.TabB base mg p.1 p.2) : FnOk P w K mg base (L2.CX P w) 1 (He.ma K (He.ga K "Group") "__init__") T.d_Group___init__ P_Group___init__ (spI K (cl K sc) 4 f_Group___init__) :=
  have nd := sc_Group___init__.nd
  fn_I (b := b_Group___init__) (g := f_Group___init__) T.F_Group___init__ sc_Group___init__ rfl rfl rfl fun cdv A outer s H E hr tk =>
 (sns_cons (sns_asg (sv 1) (sng_fld (one_cf T.cf_0) (one_f rfl) (sv 0)))
 (sns_cons (sns_asg (sv 2) (sng_fld (one_cf T.cf_0) (one_f rfl) (sv 0)))
 (sns_cons (sns_asg (sv 3) (sng_fld (one_cf T.cf_0) (one_f rfl) (sv 0)))
 (sns_cons (sns_asg snd_bl (sng_fld (one_cf T.cf_0) (one_f rfl) (sv 0)))
 sns_nil))))
theorem ok_Groups___init__ (T : Tx K mg) (TB : ∀ p ∈ csOf lamL K, LamX.TabB base mg p.1 p.2) : FnOk P w K mg base (L2.CX P w) 3 (He.ma K (He.ga K "Groups") "__init__") T.d_Groups___init__ P_Groups___init__ (spI K (cl K sc) 1 f_Groups___init__) :=
  have nd := sc_Groups___init__.nd
  fn_I (b := b_Groups___init__) (g := f_Groups___init__) T.F_Groups___init__ sc_Groups___init__ rfl rfl rfl fun cdv A outer s H E hr tk =>
 (sns_cons (sns_asg (snd_dispRE (ps := [((eCst (D.str ⟨#[121, 97, 114, 100]⟩)), (eMake 2 0 4 4 f_Group___init__ (aCons (eCst D.non) (aCons (eCst (D.int (1 : Int))) (aCons (eTup (aCons (eCst D.non) (aCons (eCst D.non) (aCons (eCst D.non) aNil)))) aNil)))))]) (by exact (pps_cons (T.c_ROOT.pe rfl) (snd_make (x := "Group") T.k_0 (ok_Group___init__ T TB) (hr.mono (by decide)) tk flatE T.cf_0 rfl rfl T.g_Group T.b_Group___init__ (sna_cons snd_non (sna_cons snd_int (sna_cons (snd_tup (sna_cons snd_non (sna_cons snd_non (sna_cons snd_non sna_nil)))) sna_nil)))) pps_nil)) rfl rfl (by simp) (by decide)) (sng_fld (one_cf T.cf_1) (one_f rfl) (sv 0)))
 sns_nil)
theorem ok_Numbers___init__ (T : Tx K mg) (TB : ∀ p ∈ csOf lamL K, LamX.TabB base mg p.1 p.2) : FnOk P w K mg base (L2.CX P w) 1 (He.ma K (He.ga K "Numbers") "__init__") T.d_Numbers___init__ P_Numbers___init__ (spI K (cl K sc) 2 f_Numbers___init__) :=
  have nd := sc_Numbers___init__.nd
  fn_I (b := b_Numbers___init__) (g := f_Numbers___init__) T.F_Numbers___init__ sc_Numbers___init__ rfl rfl rfl fun cdv A outer s H E hr tk =>
 (sns_cons (sns_asg (sv 1) (sng_fld (one_cf T.cf_2) (one_f rfl) (sv 0)))
 (sns_cons (sns_asg snd_int (sng_fld (one_cf T.cf_2) (one_f rfl) (sv 0)))
 (sns_cons (sns_asg snd_non (sng_fld (one_cf T.cf_2) (one_f rfl) (sv 0)))
 sns_nil)))
theorem ok_Rooms___init__ (T : Tx K mg) (TB : ∀ p ∈ csOf lamL K, LamX.TabB base mg p.1 p.2) : FnOk P w K mg base (L2.CX P w) 3 (He.ma K (He.ga K "Rooms") "__init__") T.d_Rooms___init__ P_Rooms___init__ (spI K (cl K sc) 1 f_Rooms___init__) :=
  have nd := sc_Rooms___init__.nd
  fn_I (b := b_Rooms___init__) (g := f_Rooms___init__) T.F_Rooms___init__ sc_Rooms___init__ rfl rfl rfl fun cdv A outer s H E hr tk =>
 (sns_cons (sns_asg (snd_dispRE (ps := [((eCst (D.int (0 : Int))), (eMake 4 2 3 2 f_Numbers___init__ (aCons (eCst D.non) aNil)))]) (by exact (pps_cons snd_int (snd_make (x := "Numbers") T.k_2 (ok_Numbers___init__ T TB) (hr.mono (by decide)) tk flatE T.cf_2 rfl rfl T.g_Numbers T.b_Numbers___init__ (sna_cons snd_non sna_nil)) pps_nil)) rfl rfl (by simp) (by decide)) (sng_fld (one_cf T.cf_3) (one_f rfl) (sv 0)))
 (sns_cons (sns_asg (snd_dispRE (ps := [((eCst (D.int (0 : Int))), (eMkd false))]) (by exact (pps_cons snd_int snd_mkdK pps_nil)) rfl rfl (by simp) (by decide)) (sng_fld (one_cf T.cf_3) (one_f rfl) (sv 0)))
 (sns_cons (sns_asg (snd_dispRE (ps := [((eCst (D.int (0 : Int))), (eMkd false))]) (by exact (pps_cons snd_int snd_mkdK pps_nil)) rfl rfl (by simp) (by decide)) (sng_fld (one_cf T.cf_3) (one_f rfl) (sv 0)))
 (sns_cons (sns_asg (snd_dispRE (ps := [((eCst (D.str ⟨#[110, 117, 109, 98, 101, 114, 115]⟩)), (eCst (D.int (1 : Int)))), ((eCst (D.str ⟨#[109, 111, 117, 110, 116, 115]⟩)), (eCst (D.int (1 : Int)))), ((eCst (D.str ⟨#[98, 111, 120, 101, 115]⟩)), (eCst (D.int (1 : Int))))]) (by exact (pps_cons (T.c_NUMBERS.pe rfl) snd_int (pps_cons (T.c_MOUNTS.pe rfl) snd_int (pps_cons (T.c_BOXES.pe rfl) snd_int pps_nil)))) rfl rfl (by simp) (by decide)) (sng_fld (one_cf T.cf_3) (one_f rfl) (sv 0)))
 sns_nil))))
theorem ok_Process___init__ (T : Tx K mg) (TB : ∀ p ∈ csOf lamL K, LamX.TabB base mg p.1 p.2) : FnOk P w K mg base (L2.CX P w) 1 (He.ma K (He.ga K "Process") "__init__") T.d_Process___init__ P_Process___init__ (spI K (cl K sc) 4 f_Process___init__) :=
  have nd := sc_Process___init__.nd
  fn_I (b := b_Process___init__) (g := f_Process___init__) T.F_Process___init__ sc_Process___init__ rfl rfl rfl fun cdv A outer s H E hr tk =>
 (sns_cons (sns_asg (sv 1) (sng_fld (one_cf T.cf_4) (one_f rfl) (sv 0)))
 (sns_cons (sns_asg (sv 2) (sng_fld (one_cf T.cf_4) (one_f rfl) (sv 0)))
 (sns_cons (sns_asg (sv 3) (sng_fld (one_cf T.cf_4) (one_f rfl) (sv 0)))
 (sns_cons (sns_mul3 snd_int (sng_fld (one_cf T.cf_4) (one_f rfl) (sv 0)) (sng_fld (one_cf T.cf_4) (one_f rfl) (sv 0)) (sng_fld (one_cf T.cf_4) (one_f rfl) (sv 0)))
 (sns_cons (sns_asg snd_dct0K (sng_fld (one_cf T.cf_4) (one_f rfl) (sv 0)))
 (sns_cons (sns_asg snd_int (sng_fld (one_cf T.cf_4) (one_f rfl) (sv 0)))
 (sns_cons (sns_mul3 snd_int (sng_fld (one_cf T.cf_4) (one_f rfl) (sv 0)) (sng_fld (one_cf T.cf_4) (one_f rfl) (sv 0)) (sng_fld (one_cf T.cf_4) (one_f rfl) (sv 0)))
 (sns_cons (sns_asg (T.c_NOTHING.pe rfl) (sng_fld (one_cf T.cf_4) (one_f rfl) (sv 0)))
 (sns_cons (sns_asg snd_bl (sng_fld (one_cf T.cf_4) (one_f rfl) (sv 0)))
 sns_nil)))))))))
theorem ok_Rooms_new_key (T : Tx K mg) (TB : ∀ p ∈ csOf lamL K, LamX.TabB base mg p.1 p.2) : FnOk P w K mg base (L2.CX P w) 1 (He.ma K (He.ga K "Rooms") "new_key") T.d_Rooms_new_key P_Rooms_new_key (spI K (cl K sc) 2 f_Rooms_new_key) :=
  have nd := sc_Rooms_new_key.nd
  fn_I (b := b_Rooms_new_key) (g := f_Rooms_new_key) T.F_Rooms_new_key sc_Rooms_new_key rfl rfl rfl fun cdv A outer s H E hr tk =>
 (sns_cons (sns_augD hr.un1 in_add ops_iadd (snd_fld (one_cf T.cf_3) (one_f rfl) (sv 0)) (sv 1) snd_int)
 (sns_cons (sns_ret (snd_sub (snd_idx hr.un1 (snd_fld (one_cf T.cf_3) (one_f rfl) (sv 0)) (sv 1)) snd_int))
 sns_nil))
theorem ok_Rooms_new_numbers (T : Tx K mg) (TB : ∀ p ∈ csOf lamL K, LamX.TabB base mg p.1 p.2) : FnOk P w K mg base (L2.CX P w) 3 (He.ma K (He.ga K "Rooms") "new_numbers") T.d_Rooms_new_numbers P_Rooms_new_numbers (spI K (cl K sc) 2 f_Rooms_new_numbers) :=
  have nd := sc_Rooms_new_numbers.nd
  fn_I (b := b_Rooms_new_numbers) (g := f_Rooms_new_numbers) T.F_Rooms_new_numbers sc_Rooms_new_numbers rfl rfl rfl fun cdv A outer s H E hr tk =>
 (sns_cons (sns_set (i := 2) nd rfl (.inl rfl) (snd_meth (np := 2) (ok_Rooms_new_key T TB) (hr.mono (by decide)) tk flatE T.cf_3 T.m_Rooms_new_key (show ("new_key" : Str) ∉ fl 3 by decide +kernel) T.b_Rooms_new_key (sv 0) (sna_cons (T.c_NUMBERS.pe rfl) sna_nil)))
 (sns_cons (sns_asg (snd_make (x := "Numbers") T.k_2 (ok_Numbers___init__ T TB) (hr.mono (by decide)) tk flatE T.cf_2 rfl rfl T.g_Numbers T.b_Numbers___init__ (sna_cons (sv 1) sna_nil)) (sng_sub hr.un1 (snd_fld (one_cf T.cf_3) (one_f rfl) (sv 0)) (sv 2)))
 (sns_cons (sns_ret (sv 2))
 sns_nil)))
theorem ok_Rooms_new_mounts (T : Tx K mg) (TB : ∀ p ∈ csOf lamL K, LamX.TabB base mg p.1 p.2) : FnOk P w K mg base (L2.CX P w) 2 (He.ma K (He.ga K "Rooms") "new_mounts") T.d_Rooms_new_mounts P_Rooms_new_mounts (spI K (cl K sc) 2 f_Rooms_new_mounts) :=
  have nd := sc_Rooms_new_mounts.nd
  fn_I (b := b_Rooms_new_mounts) (g := f_Rooms_new_mounts) T.F_Rooms_new_mounts sc_Rooms_new_mounts rfl rfl rfl fun cdv A outer s H E hr tk =>
 (sns_cons (sns_set (i := 2) nd rfl (.inl rfl) (snd_meth (np := 2) (ok_Rooms_new_key T TB) (hr.mono (by decide)) tk flatE T.cf_3 T.m_Rooms_new_key (show ("new_key" : Str) ∉ fl 3 by decide +kernel) T.b_Rooms_new_key (sv 0) (sna_cons (T.c_MOUNTS.pe rfl) sna_nil)))
 (sns_cons (sns_asg (snd_cpy rfl T.n_dict (snd_idx hr.un1 (snd_fld (one_cf T.cf_3) (one_f rfl) (sv 0)) (sv 1))) (sng_sub hr.un1 (snd_fld (one_cf T.cf_3) (one_f rfl) (sv 0)) (sv 2)))
 (sns_cons (sns_ret (sv 2))
 sns_nil)))
theorem ok_Rooms_new_boxes (T : Tx K mg) (TB : ∀ p ∈ csOf lamL K, LamX.TabB base mg p.1 p.2) : FnOk P w K mg base (L2.CX P w) 2 (He.ma K (He.ga K "Rooms") "new_boxes") T.d_Rooms_new_boxes P_Rooms_new_boxes (spI K (cl K sc) 1 f_Rooms_new_boxes) :=
  have nd := sc_Rooms_new_boxes.nd
  fn_I (b := b_Rooms_new_boxes) (g := f_Rooms_new_boxes) T.F_Rooms_new_boxes sc_Rooms_new_boxes rfl rfl rfl fun cdv A outer s H E hr tk =>
 (sns_cons (sns_set (i := 1) nd rfl (.inl rfl) (snd_meth (np := 2) (ok_Rooms_new_key T TB) (hr.mono (by decide)) tk flatE T.cf_3 T.m_Rooms_new_key (show ("new_key" : Str) ∉ fl 3 by decide +kernel) T.b_Rooms_new_key (sv 0) (sna_cons (T.c_BOXES.pe rfl) sna_nil)))
 (sns_cons (sns_asg snd_mkdK (sng_sub hr.un1 (snd_fld (one_cf T.cf_3) (one_f rfl) (sv 0)) (sv 1)))
 (sns_cons (sns_ret (sv 1))
 sns_nil)))
theorem ok_Rooms_rooms_up (T : Tx K mg) (TB : ∀ p ∈ csOf lamL K, LamX.TabB base mg p.1 p.2) : FnOk P w K mg base (L2.CX P w) 1 (He.ma K (He.ga K "Rooms") "rooms_up") T.d_Rooms_rooms_up P_Rooms_rooms_up (spI K (cl K sc) 2 f_Rooms_rooms_up) :=
  have nd := sc_Rooms_rooms_up.nd
  fn_I (b := b_Rooms_rooms_up) (g := f_Rooms_rooms_up) T.F_Rooms_rooms_up sc_Rooms_rooms_up rfl rfl rfl fun cdv A outer s H E hr tk =>
 (sns_cons (sns_ownL (i := 2) nd rfl (.inl rfl) sna_nil)
 (sns_cons (sns_whl PassesOwn.leaving (snt_notN (sv 1))
 (sns_cons (sns_oapp (i := 2) rfl (by first | exact Or.inl rfl | exact Or.inr (Or.inl rfl) | exact Or.inr (Or.inr rfl)) (sv 1))
 (sns_cons (sns_set (i := 1) nd rfl (.inl rfl) (snd_fld (one_cf T.cf_2) (one_f rfl) (snd_idx hr.un1 (snd_fld (one_cf T.cf_3) (one_f rfl) (sv 0)) (sv 1))))
 sns_nil)))
 (sns_frz (i := 2)
 (sns_cons (sns_ret (sv 2))
 sns_nil))))
theorem ok_Rooms_number_all (T : Tx K mg) (TB : ∀ p ∈ csOf lamL K, LamX.TabB base mg p.1 p.2) : FnOk P w K mg base (L2.CX P w) 2 (He.ma K (He.ga K "Rooms") "number_all") T.d_Rooms_number_all P_Rooms_number_all (spI K (cl K sc) 3 f_Rooms_number_all) :=
  have nd := sc_Rooms_number_all.nd
  fn_I (b := b_Rooms_number_all) (g := f_Rooms_number_all) T.F_Rooms_number_all sc_Rooms_number_all rfl rfl rfl fun cdv A outer s H E hr tk =>
 (sns_cons (sns_ownK (i := 3) nd rfl (.inl rfl))
 (sns_cons (sns_for PassesOwn.leaving rfl (sni_seq (snd_meth (np := 2) (ok_Rooms_rooms_up T TB) (hr.mono (by decide)) tk flatE T.cf_3 T.m_Rooms_rooms_up (show ("rooms_up" : Str) ∉ fl 3 by decide +kernel) T.b_Rooms_rooms_up (sv 0) (sna_cons (sv 2) sna_nil))) (sng_name (i := 4) nd rfl (by first | exact .inl rfl | exact .inr rfl))
 (sns_cons (sns_oput (i := 3) hr.un1 rfl (by first | exact Or.inl rfl | exact Or.inr (Or.inl rfl) | exact Or.inr (Or.inr rfl)) (sv 4) (snd_fld (one_cf T.cf_2) (one_f rfl) (snd_idx hr.un1 (snd_fld (one_cf T.cf_3) (one_f rfl) (sv 0)) (sv 4))))
 (sns_cons (sns_augF (c0 := 2) (fi := 1) in_add ops_iadd (one_cf T.cf_2) (one_f rfl) (snd_idx hr.un1 (snd_fld (one_cf T.cf_3) (one_f rfl) (sv 0)) (sv 4)) snd_int)
 (sns_cons (sns_if (snt_cmp (op_eqA hr.units) ops_eq (snd_oidx (i := 3) hr.un1 rfl (by first | exact Or.inl rfl | exact Or.inr (Or.inl rfl) | exact Or.inr (Or.inr rfl)) (sv 4)) snd_int (nomark _))
 (sns_cons (sns_asg (sv 1) (sng_fld (one_cf T.cf_2) (one_f rfl) (snd_idx hr.un1 (snd_fld (one_cf T.cf_3) (one_f rfl) (sv 0)) (sv 4))))
 sns_nil)
 sns_nil)
 sns_nil))))
 (sns_frz (i := 3)
 (sns_cons (sns_ret (sv 3))
 sns_nil))))
theorem ok_Yards_add_process (T : Tx K mg) (TB : ∀ p ∈ csOf lamL K, LamX.TabB base mg p.1 p.2) : FnOk P w K mg base (L2.CX P w) 4 (He.ma K (He.ga K "Yard") "add_process") T.d_Yards_add_process P_Yards_add_process (spI K (cl K sc) 4 f_Yards_add_process) :=
  have nd := sc_Yards_add_process.nd
  fn_I (b := b_Yards_add_process) (g := f_Yards_add_process) T.F_Yards_add_process sc_Yards_add_process rfl rfl rfl fun cdv A outer s H E hr tk =>
 (sns_cons (sns_augF (c0 := 1) (fi := 4) in_add ops_iadd (one_cf T.cf_1) (one_f rfl) (sv 0) snd_int)
 (sns_cons (sns_set (i := 4) nd rfl (.inl rfl) (snd_make (x := "Process") T.k_4 (ok_Process___init__ T TB) (hr.mono (by decide)) tk flatE T.cf_4 rfl rfl T.g_Process T.b_Process___init__ (sna_cons (snd_fld (one_cf T.cf_1) (one_f rfl) (sv 0)) (sna_cons (sv 1) (sna_cons (sv 2) sna_nil)))))
 (sns_cons (sns_if (snt_notN (sv 1))
 (sns_cons (sns_asg (snd_tup (sna_cons (snd_fld (one_cf T.cf_4) (one_f rfl) (sv 1)) (sna_cons (snd_fld (one_cf T.cf_4) (one_f rfl) (sv 1)) (sna_cons (snd_fld (one_cf T.cf_4) (one_f rfl) (sv 1)) sna_nil)))) (sng_tup rfl (sngs_cons (sng_fld (one_cf T.cf_4) (one_f rfl) (sv 4)) (sngs_cons (sng_fld (one_cf T.cf_4) (one_f rfl) (sv 4)) (sngs_cons (sng_fld (one_cf T.cf_4) (one_f rfl) (sv 4)) sngs_nil)))))
 (sns_cons (sns_asg (snd_fld (one_cf T.cf_4) (one_f rfl) (sv 1)) (sng_fld (one_cf T.cf_4) (one_f rfl) (sv 4)))
 sns_nil))
 sns_nil)
 (sns_cons (sns_if (snt_cmp (op_inA hr.un65) ops_in (T.c_NUMBERS.pe rfl) (sv 3) rfl)
 (sns_cons (sns_asg (snd_meth (np := 2) (ok_Rooms_new_numbers T TB) (hr.mono (by decide)) tk flatE T.cf_3 T.m_Rooms_new_numbers (show ("new_numbers" : Str) ∉ fl 3 by decide +kernel) T.b_Rooms_new_numbers (snd_fld (one_cf T.cf_1) (one_f rfl) (sv 0)) (sna_cons (snd_fld (one_cf T.cf_4) (one_f rfl) (sv 4)) sna_nil)) (sng_fld (one_cf T.cf_4) (one_f rfl) (sv 4)))
 sns_nil)
 sns_nil)
 (sns_cons (sns_if (snt_cmp (op_inA hr.un65) ops_in (T.c_MOUNTS.pe rfl) (sv 3) rfl)
 (sns_cons (sns_asg (snd_meth (np := 2) (ok_Rooms_new_mounts T TB) (hr.mono (by decide)) tk flatE T.cf_3 T.m_Rooms_new_mounts (show ("new_mounts" : Str) ∉ fl 3 by decide +kernel) T.b_Rooms_new_mounts (snd_fld (one_cf T.cf_1) (one_f rfl) (sv 0)) (sna_cons (snd_fld (one_cf T.cf_4) (one_f rfl) (sv 4)) sna_nil)) (sng_fld (one_cf T.cf_4) (one_f rfl) (sv 4)))
 sns_nil)
 sns_nil)
 (sns_cons (sns_if (snt_cmp (op_inA hr.un65) ops_in (T.c_BOXES.pe rfl) (sv 3) rfl)
 (sns_cons (sns_asg (snd_meth0 (np := 1) (ok_Rooms_new_boxes T TB) (hr.mono (by decide)) tk flatE T.cf_3 T.m_Rooms_new_boxes (show ("new_boxes" : Str) ∉ fl 3 by decide +kernel) T.b_Rooms_new_boxes (snd_fld (one_cf T.cf_1) (one_f rfl) (sv 0)) ) (sng_fld (one_cf T.cf_4) (one_f rfl) (sv 4)))
 sns_nil)
 sns_nil)
 (sns_cons (sns_asg (snd_meth (np := 3) (ok_Rooms_number_all T TB) (hr.mono (by decide)) tk flatE T.cf_3 T.m_Rooms_number_all (show ("number_all" : Str) ∉ fl 3 by decide +kernel) T.b_Rooms_number_all (snd_fld (one_cf T.cf_1) (one_f rfl) (sv 0)) (sna_cons (snd_fld (one_cf T.cf_4) (one_f rfl) (sv 4)) (sna_cons (snd_fld (one_cf T.cf_4) (one_f rfl) (sv 4)) sna_nil))) (sng_fld (one_cf T.cf_4) (one_f rfl) (sv 4)))
 (sns_cons (sns_asg (sv 4) (sng_sub hr.un1 (snd_fld (one_cf T.cf_1) (one_f rfl) (sv 0)) (snd_fld (one_cf T.cf_4) (one_f rfl) (sv 4))))
 (sns_cons (sns_ret (snd_fld (one_cf T.cf_4) (one_f rfl) (sv 4)))
 sns_nil)))))))))
theorem ok_Yards___init__ (T : Tx K mg) (TB : ∀ p ∈ csOf lamL K, LamX.TabB base mg p.1 p.2) : FnOk P w K mg base (L2.CX P w) 5 (He.ma K (He.ga K "Deeds") "__init__") T.d_Yards___init__ P_Yards___init__ (spI K (cl K sc) 1 f_Yards___init__) :=
  have nd := sc_Yards___init__.nd
  fn_I (b := b_Yards___init__) (g := f_Yards___init__) T.F_Yards___init__ sc_Yards___init__ rfl rfl rfl fun cdv A outer s H E hr tk =>
 (sns_cons (sns_ex (snd_off (ok_Groups___init__ T TB) (hr.mono (by decide)) tk flatE T.o_Groups___init__ T.b_Groups___init__ rfl T.g_Groups (sna_cons (sv 0) sna_nil)))
 (sns_cons (sns_asg (snd_make0 (x := "Rooms") T.k_3 (ok_Rooms___init__ T TB) (hr.mono (by decide)) tk flatE T.cf_3 rfl rfl T.g_Rooms T.b_Rooms___init__ ) (sng_fld (one_cf T.cf_1) (one_f rfl) (sv 0)))
 (sns_cons (sns_asg snd_mkdK (sng_fld (one_cf T.cf_1) (one_f rfl) (sv 0)))
 (sns_cons (sns_asg snd_mkdK (sng_fld (one_cf T.cf_1) (one_f rfl) (sv 0)))
 (sns_cons (sns_asg snd_int (sng_fld (one_cf T.cf_1) (one_f rfl) (sv 0)))
 (sns_cons (sns_ex (snd_meth (np := 4) (ok_Yards_add_process T TB) (hr.mono (by decide)) tk flatE T.cf_1 T.m_Yards_add_process (show ("add_process" : Str) ∉ fl 1 by decide +kernel) T.b_Yards_add_process (sv 0) (sna_cons snd_non (sna_cons (T.c_ROOT.pe rfl) (sna_cons (snd_tup sna_nil) sna_nil)))))
 sns_nil))))))
theorem ok_Yard___init__ (T : Tx K mg) (TB : ∀ p ∈ csOf lamL K, LamX.TabB base mg p.1 p.2) : FnOk P w K mg base (L2.CX P w) 6 (He.ma K (He.ga K "Yard") "__init__") T.d_Yard___init__ P_Yard___init__ (spI K (cl K sc) 1 f_Yard___init__) :=
  have nd := sc_Yard___init__.nd
  fn_I (b := b_Yard___init__) (g := f_Yard___init__) T.F_Yard___init__ sc_Yard___init__ rfl rfl rfl fun cdv A outer s H E hr tk =>
 (sns_cons (sns_ex (snd_off (ok_Yards___init__ T TB) (hr.mono (by decide)) tk flatE T.o_Yards___init__ T.b_Yards___init__ rfl T.g_Deeds (sna_cons (sv 0) sna_nil)))
 (sns_cons (sns_asg snd_mkdK (sng_fld (one_cf T.cf_1) (one_f rfl) (sv 0)))
 (sns_cons (sns_asg (snd_mkl sna_nil) (sng_fld (one_cf T.cf_1) (one_f rfl) (sv 0)))
 sns_nil)))
theorem ok__law_pick (T : Tx K mg) (TB : ∀ p ∈ csOf lamL K, LamX.TabB base mg p.1 p.2) : FnOk P w K mg base (L2.CX P w) 1 (He.ga K "_law_pick") T.d__law_pick P__law_pick (spI K (cl K sc) 3 f__law_pick) :=
  have nd := sc__law_pick.nd
  fn_I (b := b__law_pick) (g := f__law_pick) T.F__law_pick sc__law_pick rfl rfl rfl fun cdv A outer s H E hr tk =>
 (sns_cons (sns_set (i := 3) nd rfl (.inl rfl) (snd_if (snt_cmp (op_neA hr.units) ops_ne (sv 0) (snd_lst sna_nil) (nomark _)) (snd_idx hr.un1 (sv 0) (snd_mod (sv 1) (snd_len rfl rfl T.n_len (sv 0)))) snd_int))
 (sns_cons (sns_par (i := 4) (j := 5) rfl nd rfl rfl (by decide) rfl rfl (snd_fdv (sv 3) (snd_pow snd_int snd_int)) (snd_fdv (sv 1) (snd_max rfl rfl T.n_max (snd_len rfl rfl T.n_len (sv 0)) snd_int)) (by rfl))
 (sns_cons (sns_whl PassesOwn.leaving (PW.pt (snw_and (snt_cmp op_gt ops_gt (sv 4) snd_int (nomark _)) (snw_and1 (snt_cmp op_gt ops_gt (sv 5) snd_int (nomark _)))))
 (sns_cons (sns_par (i := 4) (j := 5) rfl nd rfl rfl (by decide) rfl rfl (snd_fdv (sv 4) snd_int) (snd_sub (sv 5) snd_int) (by rfl))
 sns_nil))
 (sns_cons (sns_if (snt_cmp op_gt ops_gt (sv 4) snd_int (nomark _))
 (sns_cons (sns_ret (snd_mod (snd_mod (sv 4) snd_int) (sv 2)))
 sns_nil)
 sns_nil)
 (sns_cons (sns_set (i := 6) nd rfl (.inl rfl) (snd_mod (snd_mul (snd_add (snd_mul (sv 3) snd_int) (snd_mul snd_int (snd_add (sv 1) snd_int))) snd_int) snd_int))
 (sns_cons (sns_ret (snd_mod (snd_mod (snd_add (snd_mul (sv 6) (sv 6)) (snd_fdv (sv 6) snd_int)) snd_int) (sv 2)))
 sns_nil))))))
theorem ok_is_name (T : Tx K mg) (TB : ∀ p ∈ csOf lamL K, LamX.TabB base mg p.1 p.2) : FnOk P w K mg base (L2.CX P w) 1 (He.ga K "is_name") T.d_is_name P_is_name (spI K (cl K sc) 1 f_is_name) :=
  have nd := sc_is_name.nd
  fn_I (b := b_is_name) (g := f_is_name) T.F_is_name sc_is_name rfl rfl rfl fun cdv A outer s H E hr tk =>
 (sns_cons (sns_ret (snd_and (snd_isi (t := Ty.str) rfl T.n_isinstance rfl T.n_str (by decide +kernel) (sv 0)) (snd_and (snd_chain op_le op_le ops_le ops_le snd_int (snd_len rfl rfl T.n_len (sv 0)) (T.c_LONGEST_NAME.pe rfl)) (snd_one (snd_all rfl rfl T.n_all (snd_lc (own := [("sign", 1)]) rfl nd (sni_seq (sv 0)) (blkOk_by (own := [("sign", 1)]) (N := N_is_name) (sc := defScope s_is_name) (by decide +kernel)) (by decide) (fun _ _ _ _ _ => (sng_name (i := 1) nd rfl (by first | exact .inl rfl | exact .inr rfl))) (fun _ _ _ _ _ => snts_nil) (fun _ _ _ _ _ => (snd_cmp (op_inA hr.un65) ops_in (sv 1) (T.c_SMALL.pe rfl) rfl))))))))
 sns_nil)
theorem ok_Groups_look_group (T : Tx K mg) (TB : ∀ p ∈ csOf lamL K, LamX.TabB base mg p.1 p.2) : FnOk P w K mg base (L2.CX P w) 2 (He.ma K (He.ga K "Yard") "look_group") T.d_Groups_look_group P_Groups_look_group (spI K (cl K sc) 2 f_Groups_look_group) :=
  have nd := sc_Groups_look_group.nd
  fn_I (b := b_Groups_look_group) (g := f_Groups_look_group) T.F_Groups_look_group sc_Groups_look_group rfl rfl rfl fun cdv A outer s H E hr tk =>
 (sns_cons (sns_if (PW.pt (snw_or (snt_not (snt_val (snd_call (ok_is_name T TB) (hr.mono (by decide)) tk rfl T.g_is_name T.F_is_name.kp T.b_is_name (sna_cons (sv 1) sna_nil)))) (snw_or1 (snt_cmp (op_notInA hr.un65) ops_notIn (sv 1) (snd_fld (one_cf T.cf_1) (one_f rfl) (sv 0)) rfl))))
 (sns_cons (sns_raise rfl tk T.e_NoGroup rfl rfl)
 sns_nil)
 sns_nil)
 (sns_cons (sns_ret (snd_idx hr.un1 (snd_fld (one_cf T.cf_1) (one_f rfl) (sv 0)) (sv 1)))
 sns_nil))
theorem ok_is_whole (T : Tx K mg) (TB : ∀ p ∈ csOf lamL K, LamX.TabB base mg p.1 p.2) : FnOk P w K mg base (L2.CX P w) 1 (He.ga K "is_whole") T.d_is_whole P_is_whole (spI K (cl K sc) 3 f_is_whole) :=
  have nd := sc_is_whole.nd
  fn_I (b := b_is_whole) (g := f_is_whole) T.F_is_whole sc_is_whole rfl rfl rfl fun cdv A outer s H E hr tk =>
 (sns_cons (sns_ret (snd_and (snd_isi (t := Ty.int) rfl T.n_isinstance rfl T.n_int (by decide +kernel) (sv 0)) (snd_and (snd_not (snd_isi (t := Ty.bool) rfl T.n_isinstance rfl T.n_bool (by decide +kernel) (sv 0))) (snd_one (snd_chain op_le op_le ops_le ops_le (sv 1) (sv 0) (sv 2))))))
 sns_nil)
theorem ok_are_caps (T : Tx K mg) (TB : ∀ p ∈ csOf lamL K, LamX.TabB base mg p.1 p.2) : FnOk P w K mg base (L2.CX P w) 2 (He.ga K "are_caps") T.d_are_caps P_are_caps (spI K (cl K sc) 1 f_are_caps) :=
  have nd := sc_are_caps.nd
  fn_I (b := b_are_caps) (g := f_are_caps) T.F_are_caps sc_are_caps rfl rfl rfl fun cdv A outer s H E hr tk =>
 (sns_cons (sns_ret (snd_all rfl rfl T.n_all (snd_lc (own := [("cap", 1)]) rfl nd (sni_seq (sv 0)) (blkOk_by (own := [("cap", 1)]) (N := N_are_caps) (sc := defScope s_are_caps) (by decide +kernel)) (by decide) (fun _ _ _ _ _ => (sng_name (i := 1) nd rfl (by first | exact .inl rfl | exact .inr rfl))) (fun _ _ _ _ _ => snts_nil) (fun _ _ _ _ _ => (snd_or (snd_isN (sv 1)) (snd_one (snd_call (ok_is_whole T TB) (hr.mono (by decide)) takes0 rfl T.g_is_whole T.F_is_whole.kp T.b_is_whole (sna_cons (sv 1) (sna_cons snd_int (sna_cons (T.c_MOST_CAP.pe rfl) sna_nil))))))))))
 sns_nil)
theorem ok_look_caps (T : Tx K mg) (TB : ∀ p ∈ csOf lamL K, LamX.TabB base mg p.1 p.2) : FnOk P w K mg base (L2.CX P w) 3 (He.ga K "look_caps") T.d_look_caps P_look_caps (spI K (cl K sc) 1 f_look_caps) :=
  have nd := sc_look_caps.nd
  fn_I (b := b_look_caps) (g := f_look_caps) T.F_look_caps sc_look_caps rfl rfl rfl fun cdv A outer s H E hr tk =>
 (sns_cons (sns_if (snt_not (snt_val (snd_call (ok_are_caps T TB) (hr.mono (by decide)) tk rfl T.g_are_caps T.F_are_caps.kp T.b_are_caps (sna_cons (sv 0) sna_nil))))
 (sns_cons (sns_raise rfl tk T.e_NoNumber rfl rfl)
 sns_nil)
 sns_nil)
 sns_nil)
theorem ok_Groups_look_lowered (T : Tx K mg) (TB : ∀ p ∈ csOf lamL K, LamX.TabB base mg p.1 p.2) : FnOk P w K mg base (L2.CX P w) 4 (He.ma K (He.ga K "Yard") "look_lowered") T.d_Groups_look_lowered P_Groups_look_lowered (spI K (cl K sc) 4 f_Groups_look_lowered) :=
  have nd := sc_Groups_look_lowered.nd
  fn_I (b := b_Groups_look_lowered) (g := f_Groups_look_lowered) T.F_Groups_look_lowered sc_Groups_look_lowered rfl rfl rfl fun cdv A outer s H E hr tk =>
 (sns_cons (sns_if (PW.pt (snw_and (snt_notN (snd_idx hr.un1 (sv 1) snd_int)) (snw_and1 (snt_cmp op_lt ops_lt (snd_idx hr.un1 (sv 1) snd_int) (sv 2) (nomark _)))))
 (sns_cons (sns_raiseP (k := 2) (f := "many") rfl tk T.x_Over T.i_Over T.t_Over (okI_Over T) (hr.mono (by decide)) (bI_Over T) T.g_Over rfl rfl (sv 2) rfl)
 sns_nil)
 sns_nil)
 (sns_cons (sns_if (PW.pt (snw_and (snt_notN (snd_idx hr.un1 (sv 1) snd_int)) (snw_and1 (snt_cmp op_lt ops_lt (snd_idx hr.un1 (sv 1) snd_int) (sv 3) (nomark _)))))
 (sns_cons (sns_raiseP (k := 2) (f := "many") rfl tk T.x_Over T.i_Over T.t_Over (okI_Over T) (hr.mono (by decide)) (bI_Over T) T.g_Over rfl rfl (sv 3) rfl)
 sns_nil)
 sns_nil)
 sns_nil))
theorem ok_Groups_way_up (T : Tx K mg) (TB : ∀ p ∈ csOf lamL K, LamX.TabB base mg p.1 p.2) : FnOk P w K mg base (L2.CX P w) 1 (He.ma K (He.ga K "Yard") "way_up") T.d_Groups_way_up P_Groups_way_up (spI K (cl K sc) 2 f_Groups_way_up) :=
  have nd := sc_Groups_way_up.nd
  fn_I (b := b_Groups_way_up) (g := f_Groups_way_up) T.F_Groups_way_up sc_Groups_way_up rfl rfl rfl fun cdv A outer s H E hr tk =>
 (sns_cons (sns_ownL (i := 2) nd rfl (.inl rfl) sna_nil)
 (sns_cons (sns_whl PassesOwn.leaving (snt_notN (sv 1))
 (sns_cons (sns_oapp (i := 2) rfl (by first | exact Or.inl rfl | exact Or.inr (Or.inl rfl) | exact Or.inr (Or.inr rfl)) (sv 1))
 (sns_cons (sns_set (i := 1) nd rfl (.inl rfl) (snd_fld (one_cf T.cf_0) (one_f rfl) (snd_idx hr.un1 (snd_fld (one_cf T.cf_1) (one_f rfl) (sv 0)) (sv 1))))
 sns_nil)))
 (sns_frz (i := 2)
 (sns_cons (sns_ret (sv 2))
 sns_nil))))
theorem ok_Groups_within (T : Tx K mg) (TB : ∀ p ∈ csOf lamL K, LamX.TabB base mg p.1 p.2) : FnOk P w K mg base (L2.CX P w) 2 (He.ma K (He.ga K "Yard") "within") T.d_Groups_within P_Groups_within (spI K (cl K sc) 2 f_Groups_within) :=
  have nd := sc_Groups_within.nd
  fn_I (b := b_Groups_within) (g := f_Groups_within) T.F_Groups_within sc_Groups_within rfl rfl rfl fun cdv A outer s H E hr tk =>
 (sns_cons (sns_ret (snd_lc (own := [("one", 2)]) rfl nd (sni_seq (snd_sorted rfl rfl T.n_sorted (snd_fld (one_cf T.cf_1) (one_f rfl) (sv 0)))) (blkOk_by (own := [("one", 2)]) (N := N_Groups_within) (sc := defScope s_Groups_within) (by decide +kernel)) (by decide) (fun _ _ _ _ _ => (sng_name (i := 2) nd rfl (by first | exact .inl rfl | exact .inr rfl))) (fun _ _ _ _ _ => (snts_one (snt_cmp (op_inA hr.un65) ops_in (sv 1) (snd_meth (np := 2) (ok_Groups_way_up T TB) (hr.mono (by decide)) takes0 flat0 T.cf_1 T.m_Groups_way_up (show ("way_up" : Str) ∉ fl 1 by decide +kernel) T.b_Groups_way_up (sv 0) (sna_cons (sv 2) sna_nil)) rfl))) (fun _ _ _ _ _ => (sv 2))))
 sns_nil)
theorem ok_Yards_all_of (T : Tx K mg) (TB : ∀ p ∈ csOf lamL K, LamX.TabB base mg p.1 p.2) : FnOk P w K mg base (L2.CX P w) 3 (He.ma K (He.ga K "Yard") "all_of") T.d_Yards_all_of P_Yards_all_of (spI K (cl K sc) 2 f_Yards_all_of) :=
  have nd := sc_Yards_all_of.nd
  fn_I (b := b_Yards_all_of) (g := f_Yards_all_of) T.F_Yards_all_of sc_Yards_all_of rfl rfl rfl fun cdv A outer s H E hr tk =>
 (sns_cons (sns_set (i := 2) nd rfl (.inr rfl) (snd_meth (np := 2) (ok_Groups_within T TB) (hr.mono (by decide)) tk flatE T.cf_1 T.m_Groups_within (show ("within" : Str) ∉ fl 1 by decide +kernel) T.b_Groups_within (sv 0) (sna_cons (sv 1) sna_nil)))
 (sns_cons (sns_ret (snd_lc (own := [("own", 3)]) rfl nd (sni_seq (snd_sorted rfl rfl T.n_sorted (snd_fld (one_cf T.cf_1) (one_f rfl) (sv 0)))) (blkOk_by (own := [("own", 3)]) (N := N_Yards_all_of) (sc := defScope s_Yards_all_of) (by decide +kernel)) (by decide) (fun _ _ _ _ _ => (sng_name (i := 3) nd rfl (by first | exact .inl rfl | exact .inr rfl))) (fun _ _ _ _ _ => (snts_one (snt_cmp (op_inA hr.un65) ops_in (snd_fld (one_cf T.cf_4) (one_f rfl) (snd_idx hr.un1 (snd_fld (one_cf T.cf_1) (one_f rfl) (sv 0)) (sv 3))) (sv 2) rfl))) (fun _ _ _ _ _ => (snd_idx hr.un1 (snd_fld (one_cf T.cf_1) (one_f rfl) (sv 0)) (sv 3)))))
 sns_nil))
theorem ok_Yards_held_heads (T : Tx K mg) (TB : ∀ p ∈ csOf lamL K, LamX.TabB base mg p.1 p.2) : FnOk P w K mg base (L2.CX P w) 4 (He.ma K (He.ga K "Yard") "held_heads") T.d_Yards_held_heads P_Yards_held_heads (spI K (cl K sc) 2 f_Yards_held_heads) :=
  have nd := sc_Yards_held_heads.nd
  fn_I (b := b_Yards_held_heads) (g := f_Yards_held_heads) T.F_Yards_held_heads sc_Yards_held_heads rfl rfl rfl fun cdv A outer s H E hr tk =>
 (sns_cons (sns_ret (snd_len rfl rfl T.n_len (snd_meth (np := 2) (ok_Yards_all_of T TB) (hr.mono (by decide)) tk flatE T.cf_1 T.m_Yards_all_of (show ("all_of" : Str) ∉ fl 1 by decide +kernel) T.b_Yards_all_of (sv 0) (sna_cons (sv 1) sna_nil))))
 sns_nil)
theorem ok_Yards_held_units (T : Tx K mg) (TB : ∀ p ∈ csOf lamL K, LamX.TabB base mg p.1 p.2) : FnOk P w K mg base (L2.CX P w) 4 (He.ma K (He.ga K "Yard") "held_units") T.d_Yards_held_units P_Yards_held_units (spI K (cl K sc) 2 f_Yards_held_units) :=
  have nd := sc_Yards_held_units.nd
  fn_I (b := b_Yards_held_units) (g := f_Yards_held_units) T.F_Yards_held_units sc_Yards_held_units rfl rfl rfl fun cdv A outer s H E hr tk =>
 (sns_cons (sns_ret (snd_sum rfl rfl T.n_sum (snd_lc (own := [("one", 2)]) rfl nd (sni_seq (snd_meth (np := 2) (ok_Yards_all_of T TB) (hr.mono (by decide)) tk flatE T.cf_1 T.m_Yards_all_of (show ("all_of" : Str) ∉ fl 1 by decide +kernel) T.b_Yards_all_of (sv 0) (sna_cons (sv 1) sna_nil))) (blkOk_by (own := [("one", 2)]) (N := N_Yards_held_units) (sc := defScope s_Yards_held_units) (by decide +kernel)) (by decide) (fun _ _ _ _ _ => (sng_name (i := 2) nd rfl (by first | exact .inl rfl | exact .inr rfl))) (fun _ _ _ _ _ => snts_nil) (fun _ _ _ _ _ => (snd_fld (one_cf T.cf_4) (one_f rfl) (sv 2))))))
 sns_nil)
theorem ok_Deeds_put_caps (T : Tx K mg) (TB : ∀ p ∈ csOf lamL K, LamX.TabB base mg p.1 p.2) : FnOk P w K mg base (L2.CX P w) 5 (He.ma K (He.ga K "Yard") "put_caps") T.d_Deeds_put_caps P_Deeds_put_caps (spI K (cl K sc) 3 f_Deeds_put_caps) :=
  have nd := sc_Deeds_put_caps.nd
  fn_I (b := b_Deeds_put_caps) (g := f_Deeds_put_caps) T.F_Deeds_put_caps sc_Deeds_put_caps rfl rfl rfl fun cdv A outer s H E hr tk =>
 (sns_cons (sns_set (i := 3) nd rfl (.inl rfl) (snd_meth (np := 2) (ok_Groups_look_group T TB) (hr.mono (by decide)) tk flatE T.cf_1 T.m_Groups_look_group (show ("look_group" : Str) ∉ fl 1 by decide +kernel) T.b_Groups_look_group (sv 0) (sna_cons (sv 1) sna_nil)))
 (sns_cons (sns_ex (snd_call (ok_look_caps T TB) (hr.mono (by decide)) tk rfl T.g_look_caps T.F_look_caps.kp T.b_look_caps (sna_cons (sv 2) sna_nil)))
 (sns_cons (sns_ex (snd_meth (np := 4) (ok_Groups_look_lowered T TB) (hr.mono (by decide)) tk flatE T.cf_1 T.m_Groups_look_lowered (show ("look_lowered" : Str) ∉ fl 1 by decide +kernel) T.b_Groups_look_lowered (sv 0) (sna_cons (sv 2) (sna_cons (snd_meth (np := 2) (ok_Yards_held_units T TB) (hr.mono (by decide)) tk flatE T.cf_1 T.m_Yards_held_units (show ("held_units" : Str) ∉ fl 1 by decide +kernel) T.b_Yards_held_units (sv 0) (sna_cons (sv 1) sna_nil)) (sna_cons (snd_meth (np := 2) (ok_Yards_held_heads T TB) (hr.mono (by decide)) tk flatE T.cf_1 T.m_Yards_held_heads (show ("held_heads" : Str) ∉ fl 1 by decide +kernel) T.b_Yards_held_heads (sv 0) (sna_cons (sv 1) sna_nil)) sna_nil)))))
 (sns_cons (sns_asg (sv 2) (sng_fld (one_cf T.cf_0) (one_f rfl) (sv 3)))
 sns_nil))))
theorem ok_Yard_note (T : Tx K mg) (TB : ∀ p ∈ csOf lamL K, LamX.TabB base mg p.1 p.2) : FnOk P w K mg base (L2.CX P w) 1 (He.ma K (He.ga K "Yard") "note") T.d_Yard_note P_Yard_note (spI K (cl K sc) 3 f_Yard_note) :=
  have nd := sc_Yard_note.nd
  fn_I (b := b_Yard_note) (g := f_Yard_note) T.F_Yard_note sc_Yard_note rfl rfl rfl fun cdv A outer s H E hr tk =>
 (sns_cons (sns_ex (snd_app (snd_fld (one_cf T.cf_1) (one_f rfl) (sv 0)) (sv 1)))
 (sns_cons (sns_ret (sv 2))
 sns_nil))
theorem ok_Yard_set_caps (T : Tx K mg) (TB : ∀ p ∈ csOf lamL K, LamX.TabB base mg p.1 p.2) : FnOk P w K mg base (L2.CX P w) 6 (He.ma K (He.ga K "Yard") "set_caps") T.d_Yard_set_caps P_Yard_set_caps (spI K (cl K sc) 5 f_Yard_set_caps) :=
  have nd := sc_Yard_set_caps.nd
  fn_I (b := b_Yard_set_caps) (g := f_Yard_set_caps) T.F_Yard_set_caps sc_Yard_set_caps rfl rfl rfl fun cdv A outer s H E hr tk =>
 (sns_cons (sns_ex (snd_meth (np := 3) (ok_Deeds_put_caps T TB) (hr.mono (by decide)) tk flatE T.cf_1 T.m_Deeds_put_caps (show ("put_caps" : Str) ∉ fl 1 by decide +kernel) T.b_Deeds_put_caps (sv 0) (sna_cons (sv 1) (sna_cons (snd_tup (sna_cons (sv 2) (sna_cons (sv 3) (sna_cons (sv 4) sna_nil)))) sna_nil))))
 (sns_cons (sns_ret (snd_methK0 (np := 3) (n := 1) (nk := 1) (dfl := [.non]) (ix := [0, 2, 1]) (ok_Yard_note T TB) (hr.mono (by decide)) tk flatE T.cf_1 T.m_Yard_note (show ("note" : Str) ∉ fl 1 by decide +kernel) T.bx_Yard_note_1_deed (fun l hl => by match l, hl with | [_, _, _], _ => rfl) (fun _ _ => (.cons .non .nil)) rfl (sv 0)  (snk_cons (snd_tup (sna_cons (snd_str (by decide +kernel)) (sna_cons (sv 1) (sna_cons (sv 2) (sna_cons (sv 3) (sna_cons (sv 4) sna_nil)))))) snk_nil)))
 sns_nil))
theorem ok_look_name (T : Tx K mg) (TB : ∀ p ∈ csOf lamL K, LamX.TabB base mg p.1 p.2) : FnOk P w K mg base (L2.CX P w) 2 (He.ga K "look_name") T.d_look_name P_look_name (spI K (cl K sc) 1 f_look_name) :=
  have nd := sc_look_name.nd
  fn_I (b := b_look_name) (g := f_look_name) T.F_look_name sc_look_name rfl rfl rfl fun cdv A outer s H E hr tk =>
 (sns_cons (sns_if (snt_not (snt_val (snd_call (ok_is_name T TB) (hr.mono (by decide)) tk rfl T.g_is_name T.F_is_name.kp T.b_is_name (sna_cons (sv 0) sna_nil))))
 (sns_cons (sns_raise rfl tk T.e_NoName rfl rfl)
 sns_nil)
 sns_nil)
 sns_nil)
theorem ok_is_path (T : Tx K mg) (TB : ∀ p ∈ csOf lamL K, LamX.TabB base mg p.1 p.2) : FnOk P w K mg base (L2.CX P w) 2 (He.ga K "is_path") T.d_is_path P_is_path (spI K (cl K sc) 1 f_is_path) :=
  have nd := sc_is_path.nd
  fn_I (b := b_is_path) (g := f_is_path) T.F_is_path sc_is_path rfl rfl rfl fun cdv A outer s H E hr tk =>
 (sns_cons (sns_ret (snd_and (snd_isi (t := Ty.tuple) rfl T.n_isinstance rfl T.n_tuple (by decide +kernel) (sv 0)) (snd_and (snd_cmp op_le ops_le (snd_len rfl rfl T.n_len (sv 0)) (T.c_DEEPEST.pe rfl) (nomark _)) (snd_one (snd_all rfl rfl T.n_all (snd_lc (own := [("part", 1)]) rfl nd (sni_seq (sv 0)) (blkOk_by (own := [("part", 1)]) (N := N_is_path) (sc := defScope s_is_path) (by decide +kernel)) (by decide) (fun _ _ _ _ _ => (sng_name (i := 1) nd rfl (by first | exact .inl rfl | exact .inr rfl))) (fun _ _ _ _ _ => snts_nil) (fun _ _ _ _ _ => (snd_call (ok_is_name T TB) (hr.mono (by decide)) takes0 rfl T.g_is_name T.F_is_name.kp T.b_is_name (sna_cons (sv 1) sna_nil)))))))))
 sns_nil)
theorem ok_are_words (T : Tx K mg) (TB : ∀ p ∈ csOf lamL K, LamX.TabB base mg p.1 p.2) : FnOk P w K mg base (L2.CX P w) 1 (He.ga K "are_words") T.d_are_words P_are_words (spI K (cl K sc) 1 f_are_words) :=
  have nd := sc_are_words.nd
  fn_I (b := b_are_words) (g := f_are_words) T.F_are_words sc_are_words rfl rfl rfl fun cdv A outer s H E hr tk =>
 (sns_cons (sns_ret (snd_and (snd_isi (t := Ty.str) rfl T.n_isinstance rfl T.n_str (by decide +kernel) (sv 0)) (snd_and (snd_chain op_le op_le ops_le ops_le snd_int (snd_len rfl rfl T.n_len (sv 0)) (T.c_LONGEST.pe rfl)) (snd_one (snd_all rfl rfl T.n_all (snd_lc (own := [("sign", 1)]) rfl nd (sni_seq (sv 0)) (blkOk_by (own := [("sign", 1)]) (N := N_are_words) (sc := defScope s_are_words) (by decide +kernel)) (by decide) (fun _ _ _ _ _ => (sng_name (i := 1) nd rfl (by first | exact .inl rfl | exact .inr rfl))) (fun _ _ _ _ _ => snts_nil) (fun _ _ _ _ _ => (snd_cmp (op_inA hr.un65) ops_in (sv 1) (T.c_SIGNS.pe rfl) rfl))))))))
 sns_nil)
theorem ok_is_file (T : Tx K mg) (TB : ∀ p ∈ csOf lamL K, LamX.TabB base mg p.1 p.2) : FnOk P w K mg base (L2.CX P w) 3 (He.ga K "is_file") T.d_is_file P_is_file (spI K (cl K sc) 1 f_is_file) :=
  have nd := sc_is_file.nd
  fn_I (b := b_is_file) (g := f_is_file) T.F_is_file sc_is_file rfl rfl rfl fun cdv A outer s H E hr tk =>
 (sns_cons (sns_if (PW.pt (snw_or (snt_not (snt_val (snd_isi (t := Ty.tuple) rfl T.n_isinstance rfl T.n_tuple (by decide +kernel) (sv 0)))) (snw_or (snt_cmp (op_neA hr.units) ops_ne (snd_len rfl rfl T.n_len (sv 0)) snd_int (nomark _)) (snw_or (snt_not (snt_val (snd_call (ok_is_path T TB) (hr.mono (by decide)) tk rfl T.g_is_path T.F_is_path.kp T.b_is_path (sna_cons (snd_idx hr.un1 (sv 0) snd_int) sna_nil)))) (snw_or1 (snt_cmp (op_eqA hr.units) ops_eq (snd_idx hr.un1 (sv 0) snd_int) (snd_tup sna_nil) (nomark _)))))))
 (sns_cons (sns_ret snd_bl)
 sns_nil)
 sns_nil)
 (sns_cons (sns_ret (snd_or (snd_isN (snd_idx hr.un1 (sv 0) snd_int)) (snd_one (snd_call (ok_are_words T TB) (hr.mono (by decide)) tk rfl T.g_are_words T.F_are_words.kp T.b_are_words (sna_cons (snd_idx hr.un1 (sv 0) snd_int) sna_nil)))))
 sns_nil))
theorem ok_is_layer (T : Tx K mg) (TB : ∀ p ∈ csOf lamL K, LamX.TabB base mg p.1 p.2) : FnOk P w K mg base (L2.CX P w) 4 (He.ga K "is_layer") T.d_is_layer P_is_layer (spI K (cl K sc) 1 f_is_layer) :=
  have nd := sc_is_layer.nd
  fn_I (b := b_is_layer) (g := f_is_layer) T.F_is_layer sc_is_layer rfl rfl rfl fun cdv A outer s H E hr tk =>
 (sns_cons (sns_if (PW.pt (snw_or (snt_not (snt_val (snd_isi (t := Ty.tuple) rfl T.n_isinstance rfl T.n_tuple (by decide +kernel) (sv 0)))) (snw_or (snt_cmp op_gt ops_gt (snd_len rfl rfl T.n_len (sv 0)) (T.c_MOST_FILES.pe rfl) (nomark _)) (snw_or1 (snt_not (snt_val (snd_all rfl rfl T.n_all (snd_lc (own := [("one", 1)]) rfl nd (sni_seq (sv 0)) (blkOk_by (own := [("one", 1)]) (N := N_is_layer) (sc := defScope s_is_layer) (by decide +kernel)) (by decide) (fun _ _ _ _ _ => (sng_name (i := 1) nd rfl (by first | exact .inl rfl | exact .inr rfl))) (fun _ _ _ _ _ => snts_nil) (fun _ _ _ _ _ => (snd_call (ok_is_file T TB) (hr.mono (by decide)) takes0 rfl T.g_is_file T.F_is_file.kp T.b_is_file (sna_cons (sv 1) sna_nil)))))))))))
 (sns_cons (sns_ret snd_bl)
 sns_nil)
 sns_nil)
 (sns_cons sns_no
 sns_nil))
theorem ok_are_layers (T : Tx K mg) (TB : ∀ p ∈ csOf lamL K, LamX.TabB base mg p.1 p.2) : FnOk P w K mg base (L2.CX P w) 5 (He.ga K "are_layers") T.d_are_layers P_are_layers (spI K (cl K sc) 1 f_are_layers) :=
  have nd := sc_are_layers.nd
  fn_I (b := b_are_layers) (g := f_are_layers) T.F_are_layers sc_are_layers rfl rfl rfl fun cdv A outer s H E hr tk =>
 (sns_cons (sns_ret (snd_and (snd_isi (t := Ty.tuple) rfl T.n_isinstance rfl T.n_tuple (by decide +kernel) (sv 0)) (snd_and (snd_cmp op_le ops_le (snd_len rfl rfl T.n_len (sv 0)) (T.c_MOST_LAYERS.pe rfl) (nomark _)) (snd_one (snd_all rfl rfl T.n_all (snd_lc (own := [("layer", 1)]) rfl nd (sni_seq (sv 0)) (blkOk_by (own := [("layer", 1)]) (N := N_are_layers) (sc := defScope s_are_layers) (by decide +kernel)) (by decide) (fun _ _ _ _ _ => (sng_name (i := 1) nd rfl (by first | exact .inl rfl | exact .inr rfl))) (fun _ _ _ _ _ => snts_nil) (fun _ _ _ _ _ => (snd_call (ok_is_layer T TB) (hr.mono (by decide)) takes0 rfl T.g_is_layer T.F_is_layer.kp T.b_is_layer (sna_cons (sv 1) sna_nil)))))))))
 sns_nil)
theorem ok_look_layers (T : Tx K mg) (TB : ∀ p ∈ csOf lamL K, LamX.TabB base mg p.1 p.2) : FnOk P w K mg base (L2.CX P w) 6 (He.ga K "look_layers") T.d_look_layers P_look_layers (spI K (cl K sc) 1 f_look_layers) :=
  have nd := sc_look_layers.nd
  fn_I (b := b_look_layers) (g := f_look_layers) T.F_look_layers sc_look_layers rfl rfl rfl fun cdv A outer s H E hr tk =>
 (sns_cons (sns_if (snt_not (snt_val (snd_call (ok_are_layers T TB) (hr.mono (by decide)) tk rfl T.g_are_layers T.F_are_layers.kp T.b_are_layers (sna_cons (sv 0) sna_nil))))
 (sns_cons (sns_raise rfl tk T.e_NoLayers rfl rfl)
 sns_nil)
 sns_nil)
 sns_nil)
theorem ok_look_whole (T : Tx K mg) (TB : ∀ p ∈ csOf lamL K, LamX.TabB base mg p.1 p.2) : FnOk P w K mg base (L2.CX P w) 2 (He.ga K "look_whole") T.d_look_whole P_look_whole (spI K (cl K sc) 3 f_look_whole) :=
  have nd := sc_look_whole.nd
  fn_I (b := b_look_whole) (g := f_look_whole) T.F_look_whole sc_look_whole rfl rfl rfl fun cdv A outer s H E hr tk =>
 (sns_cons (sns_if (snt_not (snt_val (snd_call (ok_is_whole T TB) (hr.mono (by decide)) tk rfl T.g_is_whole T.F_is_whole.kp T.b_is_whole (sna_cons (sv 0) (sna_cons (sv 1) (sna_cons (sv 2) sna_nil))))))
 (sns_cons (sns_raise rfl tk T.e_NoNumber rfl rfl)
 sns_nil)
 sns_nil)
 sns_nil)
theorem ok_Yard_look_new_cell (T : Tx K mg) (TB : ∀ p ∈ csOf lamL K, LamX.TabB base mg p.1 p.2) : FnOk P w K mg base (L2.CX P w) 3 (He.ma K (He.ga K "Yard") "look_new_cell") T.d_Yard_look_new_cell P_Yard_look_new_cell (spI K (cl K sc) 2 f_Yard_look_new_cell) :=
  have nd := sc_Yard_look_new_cell.nd
  fn_I (b := b_Yard_look_new_cell) (g := f_Yard_look_new_cell) T.F_Yard_look_new_cell sc_Yard_look_new_cell rfl rfl rfl fun cdv A outer s H E hr tk =>
 (sns_cons (sns_ex (snd_call (ok_look_name T TB) (hr.mono (by decide)) tk rfl T.g_look_name T.F_look_name.kp T.b_look_name (sna_cons (sv 1) sna_nil)))
 (sns_cons (sns_if (PW.pt (snw_or (snt_cmp (op_inA hr.un65) ops_in (sv 1) (snd_fld (one_cf T.cf_1) (one_f rfl) (sv 0)) rfl) (snw_or1 (snt_cmp (op_inA hr.un65) ops_in (sv 1) (snd_fld (one_cf T.cf_1) (one_f rfl) (sv 0)) rfl))))
 (sns_cons (sns_raise rfl tk T.e_Taken rfl rfl)
 sns_nil)
 sns_nil)
 sns_nil))
theorem ok_Groups_barred (T : Tx K mg) (TB : ∀ p ∈ csOf lamL K, LamX.TabB base mg p.1 p.2) : FnOk P w K mg base (L2.CX P w) 4 (He.ma K (He.ga K "Yard") "barred") T.d_Groups_barred P_Groups_barred (spI K (cl K sc) 5 f_Groups_barred) :=
  have nd := sc_Groups_barred.nd
  fn_I (b := b_Groups_barred) (g := f_Groups_barred) T.F_Groups_barred sc_Groups_barred rfl rfl rfl fun cdv A outer s H E hr tk =>
 (sns_cons (sns_for PassesOwn.leaving rfl (sni_seq (sv 1)) (sng_name (i := 5) nd rfl (by first | exact .inl rfl | exact .inr rfl))
 (sns_cons (sns_set (i := 6) nd rfl (.inl rfl) (snd_idx hr.un1 (snd_fld (one_cf T.cf_0) (one_f rfl) (snd_idx hr.un1 (snd_fld (one_cf T.cf_1) (one_f rfl) (sv 0)) (sv 5))) (sv 4)))
 (sns_cons (sns_if (PW.pt (snw_and (snt_notN (sv 6)) (snw_and1 (snt_cmp op_gt ops_gt (snd_add (snd_idx hr.un1 (sv 2) (sv 5)) (sv 3)) (sv 6) (nomark _)))))
 (sns_cons (sns_raiseP (k := 2) (f := "group") rfl tk T.x_Capped T.i_Capped T.t_Capped (okI_Capped T) (hr.mono (by decide)) (bI_Capped T) T.g_Capped rfl rfl (sv 5) rfl)
 sns_nil)
 sns_nil)
 sns_nil)))
 sns_nil)
theorem ok_Yards_look_heads (T : Tx K mg) (TB : ∀ p ∈ csOf lamL K, LamX.TabB base mg p.1 p.2) : FnOk P w K mg base (L2.CX P w) 5 (He.ma K (He.ga K "Yard") "look_heads") T.d_Yards_look_heads P_Yards_look_heads (spI K (cl K sc) 3 f_Yards_look_heads) :=
  have nd := sc_Yards_look_heads.nd
  fn_I (b := b_Yards_look_heads) (g := f_Yards_look_heads) T.F_Yards_look_heads sc_Yards_look_heads rfl rfl rfl fun cdv A outer s H E hr tk =>
 (sns_cons (sns_ex (snd_meth (np := 5) (ok_Groups_barred T TB) (hr.mono (by decide)) tk flatE T.cf_1 T.m_Groups_barred (show ("barred" : Str) ∉ fl 1 by decide +kernel) T.b_Groups_barred (sv 0) (sna_cons (sv 1) (sna_cons (snd_dcK (own := [("name", 3)]) dend_val rfl nd (sni_seq (sv 1)) (blkOk_by (own := [("name", 3)]) (N := N_Yards_look_heads) (sc := defScope s_Yards_look_heads) (by decide +kernel)) (by decide) (fun _ _ _ _ _ => (sng_name (i := 3) nd rfl (by first | exact .inl rfl | exact .inr rfl))) (fun _ _ _ _ _ => snts_nil) (fun _ _ _ _ _ => (sv 3)) (fun _ _ _ _ _ => (snd_meth (np := 2) (ok_Yards_held_heads T TB) (hr.mono (by decide)) takes0 flat0 T.cf_1 T.m_Yards_held_heads (show ("held_heads" : Str) ∉ fl 1 by decide +kernel) T.b_Yards_held_heads (sv 0) (sna_cons (sv 3) sna_nil)))) (sna_cons (sv 2) (sna_cons snd_int sna_nil))))))
 sns_nil)
theorem ok_Groups_add_group (T : Tx K mg) (TB : ∀ p ∈ csOf lamL K, LamX.TabB base mg p.1 p.2) : FnOk P w K mg base (L2.CX P w) 4 (He.ma K (He.ga K "Yard") "add_group") T.d_Groups_add_group P_Groups_add_group (spI K (cl K sc) 5 f_Groups_add_group) :=
  have nd := sc_Groups_add_group.nd
  fn_I (b := b_Groups_add_group) (g := f_Groups_add_group) T.F_Groups_add_group sc_Groups_add_group rfl rfl rfl fun cdv A outer s H E hr tk =>
 (sns_cons (sns_ex (snd_call (ok_look_name T TB) (hr.mono (by decide)) tk rfl T.g_look_name T.F_look_name.kp T.b_look_name (sna_cons (sv 1) sna_nil)))
 (sns_cons (sns_ex (snd_meth (np := 2) (ok_Groups_look_group T TB) (hr.mono (by decide)) tk flatE T.cf_1 T.m_Groups_look_group (show ("look_group" : Str) ∉ fl 1 by decide +kernel) T.b_Groups_look_group (sv 0) (sna_cons (sv 2) sna_nil)))
 (sns_cons (sns_ex (snd_call (ok_look_whole T TB) (hr.mono (by decide)) tk rfl T.g_look_whole T.F_look_whole.kp T.b_look_whole (sna_cons (sv 3) (sna_cons snd_int (sna_cons (T.c_MOST_HEFT.pe rfl) sna_nil)))))
 (sns_cons (sns_ex (snd_call (ok_look_caps T TB) (hr.mono (by decide)) tk rfl T.g_look_caps T.F_look_caps.kp T.b_look_caps (sna_cons (sv 4) sna_nil)))
 (sns_cons (sns_if (snt_cmp (op_inA hr.un65) ops_in (sv 1) (snd_fld (one_cf T.cf_1) (one_f rfl) (sv 0)) rfl)
 (sns_cons (sns_raise rfl tk T.e_Taken rfl rfl)
 sns_nil)
 sns_nil)
 (sns_cons (sns_asg (snd_make (x := "Group") T.k_0 (ok_Group___init__ T TB) (hr.mono (by decide)) tk flatE T.cf_0 rfl rfl T.g_Group T.b_Group___init__ (sna_cons (sv 2) (sna_cons (sv 3) (sna_cons (sv 4) sna_nil)))) (sng_sub hr.un1 (snd_fld (one_cf T.cf_1) (one_f rfl) (sv 0)) (sv 1)))
 sns_nil))))))
theorem ok_flat_of (T : Tx K mg) (TB : ∀ p ∈ csOf lamL K, LamX.TabB base mg p.1 p.2) : FnOk P w K mg base (L2.CX P w) 1 (He.ga K "flat_of") T.d_flat_of P_flat_of (spI K (cl K sc) 1 f_flat_of) :=
  have nd := sc_flat_of.nd
  fn_I (b := b_flat_of) (g := f_flat_of) T.F_flat_of sc_flat_of rfl rfl rfl fun cdv A outer s H E hr tk =>
 (sns_cons (sns_set (i := 4) nd rfl (.inr rfl) (snd_dc2 (own := [("layer", 1), ("path", 2), ("text", 3)]) (j1 := 1) (vj := [2, 3]) rfl nd (sni_seq (sv 0)) (blkOk_by (own := [("layer", 1), ("path", 2), ("text", 3)]) (N := N_flat_of) (sc := defScope s_flat_of) (by decide +kernel)) (by decide) (by decide) (by decide) (fun _ _ _ _ _ => (sng_name (i := 1) nd rfl (by first | exact .inl rfl | exact .inr rfl))) (fun _ _ _ _ _ => (sni_seq (sv 1))) (fun _ _ _ _ _ => (sng_tup rfl (sngs_cons (sng_name (i := 2) nd rfl (by first | exact .inl rfl | exact .inr rfl)) (sngs_cons (sng_name (i := 3) nd rfl (by first | exact .inl rfl | exact .inr rfl)) sngs_nil)))) (fun _ _ _ _ _ => (sv 2)) (fun _ _ _ _ _ => (sv 3))))
 (sns_cons (sns_ret (snd_dcK (own := [("path", 2)]) dend_val rfl nd (sni_seq (sv 4)) (blkOk_by (own := [("path", 2)]) (N := N_flat_of) (sc := defScope s_flat_of) (by decide +kernel)) (by decide) (fun _ _ _ _ _ => (sng_name (i := 2) nd rfl (by first | exact .inl rfl | exact .inr rfl))) (fun _ _ _ _ _ => (snts_one (snt_notN (snd_idx hr.un1 (sv 4) (sv 2))))) (fun _ _ _ _ _ => (sv 2)) (fun _ _ _ _ _ => (snd_idx hr.un1 (sv 4) (sv 2)))))
 sns_nil))
theorem ok_Deeds_make_store (T : Tx K mg) (TB : ∀ p ∈ csOf lamL K, LamX.TabB base mg p.1 p.2) : FnOk P w K mg base (L2.CX P w) 7 (He.ma K (He.ga K "Yard") "make_store") T.d_Deeds_make_store P_Deeds_make_store (spI K (cl K sc) 3 f_Deeds_make_store) :=
  have nd := sc_Deeds_make_store.nd
  fn_I (b := b_Deeds_make_store) (g := f_Deeds_make_store) T.F_Deeds_make_store sc_Deeds_make_store rfl rfl rfl fun cdv A outer s H E hr tk =>
 (sns_cons (sns_ex (snd_call (ok_look_name T TB) (hr.mono (by decide)) tk rfl T.g_look_name T.F_look_name.kp T.b_look_name (sna_cons (sv 1) sna_nil)))
 (sns_cons (sns_ex (snd_call (ok_look_layers T TB) (hr.mono (by decide)) tk rfl T.g_look_layers T.F_look_layers.kp T.b_look_layers (sna_cons (sv 2) sna_nil)))
 (sns_cons (sns_if (snt_cmp (op_inA hr.un65) ops_in (sv 1) (snd_fld (one_cf T.cf_1) (one_f rfl) (sv 0)) rfl)
 (sns_cons (sns_raise rfl tk T.e_Taken rfl rfl)
 sns_nil)
 sns_nil)
 (sns_cons (sns_asg (snd_call (ok_flat_of T TB) (hr.mono (by decide)) tk rfl T.g_flat_of T.F_flat_of.kp T.b_flat_of (sna_cons (sv 2) sna_nil)) (sng_sub hr.un1 (snd_fld (one_cf T.cf_1) (one_f rfl) (sv 0)) (sv 1)))
 (sns_cons (sns_ret (snd_len rfl rfl T.n_len (snd_idx hr.un1 (snd_fld (one_cf T.cf_1) (one_f rfl) (sv 0)) (sv 1))))
 sns_nil)))))
theorem ok_Yard_open_cell (T : Tx K mg) (TB : ∀ p ∈ csOf lamL K, LamX.TabB base mg p.1 p.2) : FnOk P w K mg base (L2.CX P w) 8 (He.ma K (He.ga K "Yard") "open_cell") T.d_Yard_open_cell P_Yard_open_cell (spI K (cl K sc) 7 f_Yard_open_cell) :=
  have nd := sc_Yard_open_cell.nd
  fn_I (b := b_Yard_open_cell) (g := f_Yard_open_cell) T.F_Yard_open_cell sc_Yard_open_cell rfl rfl rfl fun cdv A outer s H E hr tk =>
 (sns_cons (sns_ex (snd_call (ok_look_name T TB) (hr.mono (by decide)) tk rfl T.g_look_name T.F_look_name.kp T.b_look_name (sna_cons (sv 1) sna_nil)))
 (sns_cons (sns_ex (snd_call (ok_look_layers T TB) (hr.mono (by decide)) tk rfl T.g_look_layers T.F_look_layers.kp T.b_look_layers (sna_cons (sv 2) sna_nil)))
 (sns_cons (sns_ex (snd_call (ok_look_whole T TB) (hr.mono (by decide)) tk rfl T.g_look_whole T.F_look_whole.kp T.b_look_whole (sna_cons (sv 3) (sna_cons snd_int (sna_cons (T.c_MOST_HEFT.pe rfl) sna_nil)))))
 (sns_cons (sns_set (i := 7) nd rfl (.inl rfl) (snd_tup (sna_cons (sv 4) (sna_cons (sv 5) (sna_cons (sv 6) sna_nil)))))
 (sns_cons (sns_ex (snd_call (ok_look_caps T TB) (hr.mono (by decide)) tk rfl T.g_look_caps T.F_look_caps.kp T.b_look_caps (sna_cons (sv 7) sna_nil)))
 (sns_cons (sns_ex (snd_meth (np := 2) (ok_Yard_look_new_cell T TB) (hr.mono (by decide)) tk flatE T.cf_1 T.m_Yard_look_new_cell (show ("look_new_cell" : Str) ∉ fl 1 by decide +kernel) T.b_Yard_look_new_cell (sv 0) (sna_cons (sv 1) sna_nil)))
 (sns_cons (sns_ex (snd_meth (np := 3) (ok_Yards_look_heads T TB) (hr.mono (by decide)) tk flatE T.cf_1 T.m_Yards_look_heads (show ("look_heads" : Str) ∉ fl 1 by decide +kernel) T.b_Yards_look_heads (sv 0) (sna_cons (snd_lst (sna_cons (T.c_ROOT.pe rfl) sna_nil)) (sna_cons snd_int sna_nil))))
 (sns_cons (sns_if (snt_cmp (op_eqA hr.units) ops_eq (sv 5) snd_int (nomark _))
 (sns_cons (sns_raise rfl tk T.e_NoNumber rfl rfl)
 sns_nil)
 sns_nil)
 (sns_cons (sns_ex (snd_meth (np := 5) (ok_Groups_add_group T TB) (hr.mono (by decide)) tk flatE T.cf_1 T.m_Groups_add_group (show ("add_group" : Str) ∉ fl 1 by decide +kernel) T.b_Groups_add_group (sv 0) (sna_cons (sv 1) (sna_cons (T.c_ROOT.pe rfl) (sna_cons (sv 3) (sna_cons (sv 7) sna_nil))))))
 (sns_cons (sns_ex (snd_meth (np := 3) (ok_Deeds_make_store T TB) (hr.mono (by decide)) tk flatE T.cf_1 T.m_Deeds_make_store (show ("make_store" : Str) ∉ fl 1 by decide +kernel) T.b_Deeds_make_store (sv 0) (sna_cons (sv 1) (sna_cons (sv 2) sna_nil))))
 (sns_cons (sns_set (i := 8) nd rfl (.inl rfl) (snd_meth (np := 4) (ok_Yards_add_process T TB) (hr.mono (by decide)) tk flatE T.cf_1 T.m_Yards_add_process (show ("add_process" : Str) ∉ fl 1 by decide +kernel) T.b_Yards_add_process (sv 0) (sna_cons (snd_idx hr.un1 (snd_fld (one_cf T.cf_1) (one_f rfl) (sv 0)) (T.c_FIRST.pe rfl)) (sna_cons (sv 1) (sna_cons (T.c_KINDS.pe rfl) sna_nil)))))
 (sns_cons (sns_asg (snd_disp1T hr.un1 (snd_tup sna_nil) (snd_tup (sna_cons (sv 1) (sna_cons snd_bl sna_nil)))) (sng_sub hr.un1 (snd_fld (one_cf T.cf_3) (one_f rfl) (snd_fld (one_cf T.cf_1) (one_f rfl) (sv 0))) (snd_fld (one_cf T.cf_4) (one_f rfl) (snd_idx hr.un1 (snd_fld (one_cf T.cf_1) (one_f rfl) (sv 0)) (sv 8)))))
 (sns_cons (sns_asg (sv 8) (sng_sub hr.un1 (snd_fld (one_cf T.cf_1) (one_f rfl) (sv 0)) (sv 1)))
 (sns_cons (sns_ret (snd_methK0 (np := 3) (n := 1) (nk := 2) (dfl := []) (ix := [0, 2, 1]) (ok_Yard_note T TB) (hr.mono (by decide)) tk flatE T.cf_1 T.m_Yard_note (show ("note" : Str) ∉ fl 1 by decide +kernel) T.bx_Yard_note_1_told_deed (fun l hl => by match l, hl with | [_, _, _], _ => rfl) (fun _ _ => .nil) rfl (sv 0)  (snk_cons (sv 8) (snk_cons (snd_add (snd_tup (sna_cons (snd_str (by decide +kernel)) (sna_cons (sv 1) (sna_cons (sv 2) (sna_cons (sv 3) sna_nil))))) (sv 7)) snk_nil))))
 sns_nil))))))))))))))
theorem ok_Yards_look_process (T : Tx K mg) (TB : ∀ p ∈ csOf lamL K, LamX.TabB base mg p.1 p.2) : FnOk P w K mg base (L2.CX P w) 2 (He.ma K (He.ga K "Yard") "look_process") T.d_Yards_look_process P_Yards_look_process (spI K (cl K sc) 2 f_Yards_look_process) :=
  have nd := sc_Yards_look_process.nd
  fn_I (b := b_Yards_look_process) (g := f_Yards_look_process) T.F_Yards_look_process sc_Yards_look_process rfl rfl rfl fun cdv A outer s H E hr tk =>
 (sns_cons (sns_if (PW.pt (snw_or (snt_not (snt_val (snd_call (ok_is_whole T TB) (hr.mono (by decide)) tk rfl T.g_is_whole T.F_is_whole.kp T.b_is_whole (sna_cons (sv 1) (sna_cons snd_int (sna_cons (snd_fld (one_cf T.cf_1) (one_f rfl) (sv 0)) sna_nil)))))) (snw_or (snt_cmp (op_notInA hr.un65) ops_notIn (sv 1) (snd_fld (one_cf T.cf_1) (one_f rfl) (sv 0)) rfl) (snw_or1 (snt_val (snd_fld (one_cf T.cf_4) (one_f rfl) (snd_idx hr.un1 (snd_fld (one_cf T.cf_1) (one_f rfl) (sv 0)) (sv 1))))))))
 (sns_cons (sns_raise rfl tk T.e_NoProcess rfl rfl)
 sns_nil)
 sns_nil)
 (sns_cons (sns_ret (snd_idx hr.un1 (snd_fld (one_cf T.cf_1) (one_f rfl) (sv 0)) (sv 1)))
 sns_nil))
theorem ok_Groups_cold_by (T : Tx K mg) (TB : ∀ p ∈ csOf lamL K, LamX.TabB base mg p.1 p.2) : FnOk P w K mg base (L2.CX P w) 2 (He.ma K (He.ga K "Yard") "cold_by") T.d_Groups_cold_by P_Groups_cold_by (spI K (cl K sc) 2 f_Groups_cold_by) :=
  have nd := sc_Groups_cold_by.nd
  fn_I (b := b_Groups_cold_by) (g := f_Groups_cold_by) T.F_Groups_cold_by sc_Groups_cold_by rfl rfl rfl fun cdv A outer s H E hr tk =>
 (sns_cons (sns_setLc (i := 3) (own := [("one", 2)]) rfl nd rfl rfl (sw_true rfl rfl rfl (by decide +kernel)) (sni_seq (snd_meth (np := 2) (ok_Groups_way_up T TB) (hr.mono (by decide)) tk flatE T.cf_1 T.m_Groups_way_up (show ("way_up" : Str) ∉ fl 1 by decide +kernel) T.b_Groups_way_up (sv 0) (sna_cons (sv 1) sna_nil))) (blkOk_by (own := [("one", 2)]) (N := N_Groups_cold_by) (sc := defScope s_Groups_cold_by) (by decide +kernel)) (by decide) (fun _ _ _ _ _ => (sng_name (i := 2) nd rfl (by first | exact .inl rfl | exact .inr rfl))) (fun _ _ _ _ _ => (snts_one (snt_val (snd_fld (one_cf T.cf_0) (one_f rfl) (snd_idx hr.un1 (snd_fld (one_cf T.cf_1) (one_f rfl) (sv 0)) (sv 2)))))) (fun _ _ _ _ _ => (sv 2)))
 (sns_cons (sns_ret (snd_if (snt_cmp (op_neA hr.units) ops_ne (sv 3) (snd_lst sna_nil) (nomark _)) (snd_idx hr.un1 (sv 3) (snd_neg snd_int)) snd_non))
 sns_nil))
theorem ok_Yards_look_actor (T : Tx K mg) (TB : ∀ p ∈ csOf lamL K, LamX.TabB base mg p.1 p.2) : FnOk P w K mg base (L2.CX P w) 4 (He.ma K (He.ga K "Yard") "look_actor") T.d_Yards_look_actor P_Yards_look_actor (spI K (cl K sc) 2 f_Yards_look_actor) :=
  have nd := sc_Yards_look_actor.nd
  fn_I (b := b_Yards_look_actor) (g := f_Yards_look_actor) T.F_Yards_look_actor sc_Yards_look_actor rfl rfl rfl fun cdv A outer s H E hr tk =>
 (sns_cons (sns_set (i := 2) nd rfl (.inl rfl) (snd_meth (np := 2) (ok_Yards_look_process T TB) (hr.mono (by decide)) tk flatE T.cf_1 T.m_Yards_look_process (show ("look_process" : Str) ∉ fl 1 by decide +kernel) T.b_Yards_look_process (sv 0) (sna_cons (sv 1) sna_nil)))
 (sns_cons (sns_set (i := 3) nd rfl (.inl rfl) (snd_meth (np := 2) (ok_Groups_cold_by T TB) (hr.mono (by decide)) tk flatE T.cf_1 T.m_Groups_cold_by (show ("cold_by" : Str) ∉ fl 1 by decide +kernel) T.b_Groups_cold_by (sv 0) (sna_cons (snd_fld (one_cf T.cf_4) (one_f rfl) (sv 2)) sna_nil)))
 (sns_cons (sns_if (snt_notN (sv 3))
 (sns_cons (sns_raiseP (k := 2) (f := "group") rfl tk T.x_Frozen T.i_Frozen T.t_Frozen (okI_Frozen T) (hr.mono (by decide)) (bI_Frozen T) T.g_Frozen rfl rfl (sv 3) rfl)
 sns_nil)
 sns_nil)
 (sns_cons (sns_ret (sv 2))
 sns_nil))))
theorem ok_are_kinds (T : Tx K mg) (TB : ∀ p ∈ csOf lamL K, LamX.TabB base mg p.1 p.2) : FnOk P w K mg base (L2.CX P w) 1 (He.ga K "are_kinds") T.d_are_kinds P_are_kinds (spI K (cl K sc) 1 f_are_kinds) :=
  have nd := sc_are_kinds.nd
  fn_I (b := b_are_kinds) (g := f_are_kinds) T.F_are_kinds sc_are_kinds rfl rfl rfl fun cdv A outer s H E hr tk =>
 (sns_cons (sns_if (PW.pt (snw_or (snt_not (snt_val (snd_isi (t := Ty.tuple) rfl T.n_isinstance rfl T.n_tuple (by decide +kernel) (sv 0)))) (snw_or1 (snt_not (snt_val (snd_all rfl rfl T.n_all (snd_lc (own := [("kind", 1)]) rfl nd (sni_seq (sv 0)) (blkOk_by (own := [("kind", 1)]) (N := N_are_kinds) (sc := defScope s_are_kinds) (by decide +kernel)) (by decide) (fun _ _ _ _ _ => (sng_name (i := 1) nd rfl (by first | exact .inl rfl | exact .inr rfl))) (fun _ _ _ _ _ => snts_nil) (fun _ _ _ _ _ => (snd_and (snd_isi (t := Ty.str) rfl T.n_isinstance rfl T.n_str (by decide +kernel) (sv 1)) (snd_one (snd_cmp (op_inA hr.un65) ops_in (sv 1) (T.c_KINDS.pe rfl) rfl)))))))))))
 (sns_cons (sns_ret snd_bl)
 sns_nil)
 sns_nil)
 (sns_cons (sns_ret (snd_cmp (op_eqA hr.units) ops_eq (snd_lend rfl rfl T.n_len rfl T.n_set (sv 0)) (snd_len rfl rfl T.n_len (sv 0)) (nomark _)))
 sns_nil))
theorem ok_Deeds_make_process (T : Tx K mg) (TB : ∀ p ∈ csOf lamL K, LamX.TabB base mg p.1 p.2) : FnOk P w K mg base (L2.CX P w) 6 (He.ma K (He.ga K "Yard") "make_process") T.d_Deeds_make_process P_Deeds_make_process (spI K (cl K sc) 3 f_Deeds_make_process) :=
  have nd := sc_Deeds_make_process.nd
  fn_I (b := b_Deeds_make_process) (g := f_Deeds_make_process) T.F_Deeds_make_process sc_Deeds_make_process rfl rfl rfl fun cdv A outer s H E hr tk =>
 (sns_cons (sns_set (i := 3) nd rfl (.inl rfl) (snd_meth (np := 2) (ok_Yards_look_actor T TB) (hr.mono (by decide)) tk flatE T.cf_1 T.m_Yards_look_actor (show ("look_actor" : Str) ∉ fl 1 by decide +kernel) T.b_Yards_look_actor (sv 0) (sna_cons (sv 1) sna_nil)))
 (sns_cons (sns_if (snt_not (snt_val (snd_call (ok_are_kinds T TB) (hr.mono (by decide)) tk rfl T.g_are_kinds T.F_are_kinds.kp T.b_are_kinds (sna_cons (sv 2) sna_nil))))
 (sns_cons (sns_raise rfl tk T.e_NoKinds rfl rfl)
 sns_nil)
 sns_nil)
 (sns_cons (sns_ex (snd_meth (np := 3) (ok_Yards_look_heads T TB) (hr.mono (by decide)) tk flatE T.cf_1 T.m_Yards_look_heads (show ("look_heads" : Str) ∉ fl 1 by decide +kernel) T.b_Yards_look_heads (sv 0) (sna_cons (snd_meth (np := 2) (ok_Groups_way_up T TB) (hr.mono (by decide)) tk flatE T.cf_1 T.m_Groups_way_up (show ("way_up" : Str) ∉ fl 1 by decide +kernel) T.b_Groups_way_up (sv 0) (sna_cons (snd_fld (one_cf T.cf_4) (one_f rfl) (sv 3)) sna_nil)) (sna_cons snd_int sna_nil))))
 (sns_cons (sns_ret (snd_meth (np := 4) (ok_Yards_add_process T TB) (hr.mono (by decide)) tk flatE T.cf_1 T.m_Yards_add_process (show ("add_process" : Str) ∉ fl 1 by decide +kernel) T.b_Yards_add_process (sv 0) (sna_cons (sv 3) (sna_cons (snd_fld (one_cf T.cf_4) (one_f rfl) (sv 3)) (sna_cons (sv 2) sna_nil)))))
 sns_nil))))
theorem ok_Yard_spawn (T : Tx K mg) (TB : ∀ p ∈ csOf lamL K, LamX.TabB base mg p.1 p.2) : FnOk P w K mg base (L2.CX P w) 7 (He.ma K (He.ga K "Yard") "spawn") T.d_Yard_spawn P_Yard_spawn (spI K (cl K sc) 3 f_Yard_spawn) :=
  have nd := sc_Yard_spawn.nd
  fn_I (b := b_Yard_spawn) (g := f_Yard_spawn) T.F_Yard_spawn sc_Yard_spawn rfl rfl rfl fun cdv A outer s H E hr tk =>
 (sns_cons (sns_ret (snd_methK0 (np := 3) (n := 1) (nk := 2) (dfl := []) (ix := [0, 2, 1]) (ok_Yard_note T TB) (hr.mono (by decide)) tk flatE T.cf_1 T.m_Yard_note (show ("note" : Str) ∉ fl 1 by decide +kernel) T.bx_Yard_note_1_told_deed (fun l hl => by match l, hl with | [_, _, _], _ => rfl) (fun _ _ => .nil) rfl (sv 0)  (snk_cons (snd_meth (np := 3) (ok_Deeds_make_process T TB) (hr.mono (by decide)) tk flatE T.cf_1 T.m_Deeds_make_process (show ("make_process" : Str) ∉ fl 1 by decide +kernel) T.b_Deeds_make_process (sv 0) (sna_cons (sv 1) (sna_cons (sv 2) sna_nil))) (snk_cons (snd_tup (sna_cons (snd_str (by decide +kernel)) (sna_cons (sv 1) (sna_cons (sv 2) sna_nil)))) snk_nil))))
 sns_nil)
theorem ok_Yard_make_group (T : Tx K mg) (TB : ∀ p ∈ csOf lamL K, LamX.TabB base mg p.1 p.2) : FnOk P w K mg base (L2.CX P w) 5 (He.ma K (He.ga K "Yard") "make_group") T.d_Yard_make_group P_Yard_make_group (spI K (cl K sc) 7 f_Yard_make_group) :=
  have nd := sc_Yard_make_group.nd
  fn_I (b := b_Yard_make_group) (g := f_Yard_make_group) T.F_Yard_make_group sc_Yard_make_group rfl rfl rfl fun cdv A outer s H E hr tk =>
 (sns_cons (sns_ex (snd_meth (np := 5) (ok_Groups_add_group T TB) (hr.mono (by decide)) tk flatE T.cf_1 T.m_Groups_add_group (show ("add_group" : Str) ∉ fl 1 by decide +kernel) T.b_Groups_add_group (sv 0) (sna_cons (sv 1) (sna_cons (sv 2) (sna_cons (sv 3) (sna_cons (snd_tup (sna_cons (sv 4) (sna_cons (sv 5) (sna_cons (sv 6) sna_nil)))) sna_nil))))))
 (sns_cons (sns_ret (snd_methK0 (np := 3) (n := 1) (nk := 1) (dfl := [.non]) (ix := [0, 2, 1]) (ok_Yard_note T TB) (hr.mono (by decide)) tk flatE T.cf_1 T.m_Yard_note (show ("note" : Str) ∉ fl 1 by decide +kernel) T.bx_Yard_note_1_deed (fun l hl => by match l, hl with | [_, _, _], _ => rfl) (fun _ _ => (.cons .non .nil)) rfl (sv 0)  (snk_cons (snd_tup (sna_cons (snd_str (by decide +kernel)) (sna_cons (sv 1) (sna_cons (sv 2) (sna_cons (sv 3) (sna_cons (sv 4) (sna_cons (sv 5) (sna_cons (sv 6) sna_nil)))))))) snk_nil)))
 sns_nil))
theorem ok_Yards_look_units (T : Tx K mg) (TB : ∀ p ∈ csOf lamL K, LamX.TabB base mg p.1 p.2) : FnOk P w K mg base (L2.CX P w) 5 (He.ma K (He.ga K "Yard") "look_units") T.d_Yards_look_units P_Yards_look_units (spI K (cl K sc) 3 f_Yards_look_units) :=
  have nd := sc_Yards_look_units.nd
  fn_I (b := b_Yards_look_units) (g := f_Yards_look_units) T.F_Yards_look_units sc_Yards_look_units rfl rfl rfl fun cdv A outer s H E hr tk =>
 (sns_cons (sns_ex (snd_meth (np := 5) (ok_Groups_barred T TB) (hr.mono (by decide)) tk flatE T.cf_1 T.m_Groups_barred (show ("barred" : Str) ∉ fl 1 by decide +kernel) T.b_Groups_barred (sv 0) (sna_cons (sv 1) (sna_cons (snd_dcK (own := [("name", 3)]) dend_val rfl nd (sni_seq (sv 1)) (blkOk_by (own := [("name", 3)]) (N := N_Yards_look_units) (sc := defScope s_Yards_look_units) (by decide +kernel)) (by decide) (fun _ _ _ _ _ => (sng_name (i := 3) nd rfl (by first | exact .inl rfl | exact .inr rfl))) (fun _ _ _ _ _ => snts_nil) (fun _ _ _ _ _ => (sv 3)) (fun _ _ _ _ _ => (snd_meth (np := 2) (ok_Yards_held_units T TB) (hr.mono (by decide)) takes0 flat0 T.cf_1 T.m_Yards_held_units (show ("held_units" : Str) ∉ fl 1 by decide +kernel) T.b_Yards_held_units (sv 0) (sna_cons (sv 3) sna_nil)))) (sna_cons (sv 2) (sna_cons snd_int sna_nil))))))
 sns_nil)
theorem ok_Deeds_put_group (T : Tx K mg) (TB : ∀ p ∈ csOf lamL K, LamX.TabB base mg p.1 p.2) : FnOk P w K mg base (L2.CX P w) 6 (He.ma K (He.ga K "Yard") "put_group") T.d_Deeds_put_group P_Deeds_put_group (spI K (cl K sc) 3 f_Deeds_put_group) :=
  have nd := sc_Deeds_put_group.nd
  fn_I (b := b_Deeds_put_group) (g := f_Deeds_put_group) T.F_Deeds_put_group sc_Deeds_put_group rfl rfl rfl fun cdv A outer s H E hr tk =>
 (sns_cons (sns_set (i := 3) nd rfl (.inl rfl) (snd_meth (np := 2) (ok_Yards_look_process T TB) (hr.mono (by decide)) tk flatE T.cf_1 T.m_Yards_look_process (show ("look_process" : Str) ∉ fl 1 by decide +kernel) T.b_Yards_look_process (sv 0) (sna_cons (sv 1) sna_nil)))
 (sns_cons (sns_ex (snd_meth (np := 2) (ok_Groups_look_group T TB) (hr.mono (by decide)) tk flatE T.cf_1 T.m_Groups_look_group (show ("look_group" : Str) ∉ fl 1 by decide +kernel) T.b_Groups_look_group (sv 0) (sna_cons (sv 2) sna_nil)))
 (sns_cons (sns_if (snt_cmp (op_eqA hr.units) ops_eq (sv 1) (T.c_FIRST.pe rfl) (nomark _))
 (sns_cons (sns_raise rfl tk T.e_Guarded rfl rfl)
 sns_nil)
 sns_nil)
 (sns_cons (sns_if (snt_cmp (op_eqA hr.units) ops_eq (snd_fld (one_cf T.cf_4) (one_f rfl) (sv 3)) (sv 2) (nomark _))
 (sns_cons (sns_raise rfl tk T.e_Itself rfl rfl)
 sns_nil)
 sns_nil)
 (sns_cons (sns_set (i := 4) nd rfl (.inr rfl) (snd_meth (np := 2) (ok_Groups_way_up T TB) (hr.mono (by decide)) tk flatE T.cf_1 T.m_Groups_way_up (show ("way_up" : Str) ∉ fl 1 by decide +kernel) T.b_Groups_way_up (sv 0) (sna_cons (snd_fld (one_cf T.cf_4) (one_f rfl) (sv 3)) sna_nil)))
 (sns_cons (sns_setLc (i := 6) (own := [("one", 5)]) rfl nd rfl rfl (sw_true rfl rfl rfl (by decide +kernel)) (sni_seq (snd_meth (np := 2) (ok_Groups_way_up T TB) (hr.mono (by decide)) tk flatE T.cf_1 T.m_Groups_way_up (show ("way_up" : Str) ∉ fl 1 by decide +kernel) T.b_Groups_way_up (sv 0) (sna_cons (sv 2) sna_nil))) (blkOk_by (own := [("one", 5)]) (N := N_Deeds_put_group) (sc := defScope s_Deeds_put_group) (by decide +kernel)) (by decide) (fun _ _ _ _ _ => (sng_name (i := 5) nd rfl (by first | exact .inl rfl | exact .inr rfl))) (fun _ _ _ _ _ => (snts_one (snt_cmp (op_notInA hr.un65) ops_notIn (sv 5) (sv 4) rfl))) (fun _ _ _ _ _ => (sv 5)))
 (sns_cons (sns_ex (snd_meth (np := 3) (ok_Yards_look_heads T TB) (hr.mono (by decide)) tk flatE T.cf_1 T.m_Yards_look_heads (show ("look_heads" : Str) ∉ fl 1 by decide +kernel) T.b_Yards_look_heads (sv 0) (sna_cons (sv 6) (sna_cons snd_int sna_nil))))
 (sns_cons (sns_ex (snd_meth (np := 3) (ok_Yards_look_units T TB) (hr.mono (by decide)) tk flatE T.cf_1 T.m_Yards_look_units (show ("look_units" : Str) ∉ fl 1 by decide +kernel) T.b_Yards_look_units (sv 0) (sna_cons (sv 6) (sna_cons (snd_fld (one_cf T.cf_4) (one_f rfl) (sv 3)) sna_nil))))
 (sns_cons (sns_asg (sv 2) (sng_fld (one_cf T.cf_4) (one_f rfl) (sv 3)))
 sns_nil)))))))))
theorem ok_Yard_move (T : Tx K mg) (TB : ∀ p ∈ csOf lamL K, LamX.TabB base mg p.1 p.2) : FnOk P w K mg base (L2.CX P w) 7 (He.ma K (He.ga K "Yard") "move") T.d_Yard_move P_Yard_move (spI K (cl K sc) 3 f_Yard_move) :=
  have nd := sc_Yard_move.nd
  fn_I (b := b_Yard_move) (g := f_Yard_move) T.F_Yard_move sc_Yard_move rfl rfl rfl fun cdv A outer s H E hr tk =>
 (sns_cons (sns_ex (snd_meth (np := 3) (ok_Deeds_put_group T TB) (hr.mono (by decide)) tk flatE T.cf_1 T.m_Deeds_put_group (show ("put_group" : Str) ∉ fl 1 by decide +kernel) T.b_Deeds_put_group (sv 0) (sna_cons (sv 1) (sna_cons (sv 2) sna_nil))))
 (sns_cons (sns_ret (snd_methK0 (np := 3) (n := 1) (nk := 1) (dfl := [.non]) (ix := [0, 2, 1]) (ok_Yard_note T TB) (hr.mono (by decide)) tk flatE T.cf_1 T.m_Yard_note (show ("note" : Str) ∉ fl 1 by decide +kernel) T.bx_Yard_note_1_deed (fun l hl => by match l, hl with | [_, _, _], _ => rfl) (fun _ _ => (.cons .non .nil)) rfl (sv 0)  (snk_cons (snd_tup (sna_cons (snd_str (by decide +kernel)) (sna_cons (sv 1) (sna_cons (sv 2) sna_nil)))) snk_nil)))
 sns_nil))
theorem ok_look_path (T : Tx K mg) (TB : ∀ p ∈ csOf lamL K, LamX.TabB base mg p.1 p.2) : FnOk P w K mg base (L2.CX P w) 3 (He.ga K "look_path") T.d_look_path P_look_path (spI K (cl K sc) 1 f_look_path) :=
  have nd := sc_look_path.nd
  fn_I (b := b_look_path) (g := f_look_path) T.F_look_path sc_look_path rfl rfl rfl fun cdv A outer s H E hr tk =>
 (sns_cons (sns_if (snt_not (snt_val (snd_call (ok_is_path T TB) (hr.mono (by decide)) tk rfl T.g_is_path T.F_is_path.kp T.b_is_path (sna_cons (sv 0) sna_nil))))
 (sns_cons (sns_raise rfl tk T.e_NoPath rfl rfl)
 sns_nil)
 sns_nil)
 sns_nil)
theorem ok_Deeds_drop_mount (T : Tx K mg) (TB : ∀ p ∈ csOf lamL K, LamX.TabB base mg p.1 p.2) : FnOk P w K mg base (L2.CX P w) 5 (He.ma K (He.ga K "Yard") "drop_mount") T.d_Deeds_drop_mount P_Deeds_drop_mount (spI K (cl K sc) 3 f_Deeds_drop_mount) :=
  have nd := sc_Deeds_drop_mount.nd
  fn_I (b := b_Deeds_drop_mount) (g := f_Deeds_drop_mount) T.F_Deeds_drop_mount sc_Deeds_drop_mount rfl rfl rfl fun cdv A outer s H E hr tk =>
 (sns_cons (sns_set (i := 3) nd rfl (.inl rfl) (snd_meth (np := 2) (ok_Yards_look_actor T TB) (hr.mono (by decide)) tk flatE T.cf_1 T.m_Yards_look_actor (show ("look_actor" : Str) ∉ fl 1 by decide +kernel) T.b_Yards_look_actor (sv 0) (sna_cons (sv 1) sna_nil)))
 (sns_cons (sns_ex (snd_call (ok_look_path T TB) (hr.mono (by decide)) tk rfl T.g_look_path T.F_look_path.kp T.b_look_path (sna_cons (sv 2) sna_nil)))
 (sns_cons (sns_if (snt_cmp (op_notInA hr.un65) ops_notIn (sv 2) (snd_idx hr.un1 (snd_fld (one_cf T.cf_3) (one_f rfl) (snd_fld (one_cf T.cf_1) (one_f rfl) (sv 0))) (snd_fld (one_cf T.cf_4) (one_f rfl) (sv 3))) rfl)
 (sns_cons (sns_raise rfl tk T.e_NoMount rfl rfl)
 sns_nil)
 sns_nil)
 (sns_cons (sns_ex (snd_popT hr.un1 (snd_idx hr.un1 (snd_fld (one_cf T.cf_3) (one_f rfl) (snd_fld (one_cf T.cf_1) (one_f rfl) (sv 0))) (snd_fld (one_cf T.cf_4) (one_f rfl) (sv 3))) (sv 2) ⟨rfl, rfl, rfl, rfl⟩))
 sns_nil))))
theorem ok_Yard_unmount (T : Tx K mg) (TB : ∀ p ∈ csOf lamL K, LamX.TabB base mg p.1 p.2) : FnOk P w K mg base (L2.CX P w) 6 (He.ma K (He.ga K "Yard") "unmount") T.d_Yard_unmount P_Yard_unmount (spI K (cl K sc) 3 f_Yard_unmount) :=
  have nd := sc_Yard_unmount.nd
  fn_I (b := b_Yard_unmount) (g := f_Yard_unmount) T.F_Yard_unmount sc_Yard_unmount rfl rfl rfl fun cdv A outer s H E hr tk =>
 (sns_cons (sns_ex (snd_meth (np := 3) (ok_Deeds_drop_mount T TB) (hr.mono (by decide)) tk flatE T.cf_1 T.m_Deeds_drop_mount (show ("drop_mount" : Str) ∉ fl 1 by decide +kernel) T.b_Deeds_drop_mount (sv 0) (sna_cons (sv 1) (sna_cons (sv 2) sna_nil))))
 (sns_cons (sns_ret (snd_methK0 (np := 3) (n := 1) (nk := 1) (dfl := [.non]) (ix := [0, 2, 1]) (ok_Yard_note T TB) (hr.mono (by decide)) tk flatE T.cf_1 T.m_Yard_note (show ("note" : Str) ∉ fl 1 by decide +kernel) T.bx_Yard_note_1_deed (fun l hl => by match l, hl with | [_, _, _], _ => rfl) (fun _ _ => (.cons .non .nil)) rfl (sv 0)  (snk_cons (snd_tup (sna_cons (snd_str (by decide +kernel)) (sna_cons (sv 1) (sna_cons (sv 2) sna_nil)))) snk_nil)))
 sns_nil))
theorem ok_Deeds_add_units (T : Tx K mg) (TB : ∀ p ∈ csOf lamL K, LamX.TabB base mg p.1 p.2) : FnOk P w K mg base (L2.CX P w) 6 (He.ma K (He.ga K "Yard") "add_units") T.d_Deeds_add_units P_Deeds_add_units (spI K (cl K sc) 3 f_Deeds_add_units) :=
  have nd := sc_Deeds_add_units.nd
  fn_I (b := b_Deeds_add_units) (g := f_Deeds_add_units) T.F_Deeds_add_units sc_Deeds_add_units rfl rfl rfl fun cdv A outer s H E hr tk =>
 (sns_cons (sns_set (i := 3) nd rfl (.inl rfl) (snd_meth (np := 2) (ok_Yards_look_actor T TB) (hr.mono (by decide)) tk flatE T.cf_1 T.m_Yards_look_actor (show ("look_actor" : Str) ∉ fl 1 by decide +kernel) T.b_Yards_look_actor (sv 0) (sna_cons (sv 1) sna_nil)))
 (sns_cons (sns_ex (snd_call (ok_look_whole T TB) (hr.mono (by decide)) tk rfl T.g_look_whole T.F_look_whole.kp T.b_look_whole (sna_cons (sv 2) (sna_cons snd_int (sna_cons (T.c_MOST_UNITS.pe rfl) sna_nil)))))
 (sns_cons (sns_ex (snd_meth (np := 3) (ok_Yards_look_units T TB) (hr.mono (by decide)) tk flatE T.cf_1 T.m_Yards_look_units (show ("look_units" : Str) ∉ fl 1 by decide +kernel) T.b_Yards_look_units (sv 0) (sna_cons (snd_meth (np := 2) (ok_Groups_way_up T TB) (hr.mono (by decide)) tk flatE T.cf_1 T.m_Groups_way_up (show ("way_up" : Str) ∉ fl 1 by decide +kernel) T.b_Groups_way_up (sv 0) (sna_cons (snd_fld (one_cf T.cf_4) (one_f rfl) (sv 3)) sna_nil)) (sna_cons (sv 2) sna_nil))))
 (sns_cons (sns_augF (c0 := 4) (fi := 8) in_add ops_iadd (one_cf T.cf_4) (one_f rfl) (sv 3) (sv 2))
 (sns_cons (sns_ret (snd_fld (one_cf T.cf_4) (one_f rfl) (sv 3)))
 sns_nil)))))
theorem ok_Yard_grow (T : Tx K mg) (TB : ∀ p ∈ csOf lamL K, LamX.TabB base mg p.1 p.2) : FnOk P w K mg base (L2.CX P w) 7 (He.ma K (He.ga K "Yard") "grow") T.d_Yard_grow P_Yard_grow (spI K (cl K sc) 3 f_Yard_grow) :=
  have nd := sc_Yard_grow.nd
  fn_I (b := b_Yard_grow) (g := f_Yard_grow) T.F_Yard_grow sc_Yard_grow rfl rfl rfl fun cdv A outer s H E hr tk =>
 (sns_cons (sns_ret (snd_methK0 (np := 3) (n := 1) (nk := 2) (dfl := []) (ix := [0, 2, 1]) (ok_Yard_note T TB) (hr.mono (by decide)) tk flatE T.cf_1 T.m_Yard_note (show ("note" : Str) ∉ fl 1 by decide +kernel) T.bx_Yard_note_1_told_deed (fun l hl => by match l, hl with | [_, _, _], _ => rfl) (fun _ _ => .nil) rfl (sv 0)  (snk_cons (snd_meth (np := 3) (ok_Deeds_add_units T TB) (hr.mono (by decide)) tk flatE T.cf_1 T.m_Deeds_add_units (show ("add_units" : Str) ∉ fl 1 by decide +kernel) T.b_Deeds_add_units (sv 0) (sna_cons (sv 1) (sna_cons (sv 2) sna_nil))) (snk_cons (snd_tup (sna_cons (snd_str (by decide +kernel)) (sna_cons (sv 1) (sna_cons (sv 2) sna_nil)))) snk_nil))))
 sns_nil)
theorem ok_Yard_look_cell (T : Tx K mg) (TB : ∀ p ∈ csOf lamL K, LamX.TabB base mg p.1 p.2) : FnOk P w K mg base (L2.CX P w) 1 (He.ma K (He.ga K "Yard") "look_cell") T.d_Yard_look_cell P_Yard_look_cell (spI K (cl K sc) 2 f_Yard_look_cell) :=
  have nd := sc_Yard_look_cell.nd
  fn_I (b := b_Yard_look_cell) (g := f_Yard_look_cell) T.F_Yard_look_cell sc_Yard_look_cell rfl rfl rfl fun cdv A outer s H E hr tk =>
 (sns_cons (sns_if (PW.pt (snw_or (snt_not (snt_val (snd_isi (t := Ty.str) rfl T.n_isinstance rfl T.n_str (by decide +kernel) (sv 1)))) (snw_or1 (snt_cmp (op_notInA hr.un65) ops_notIn (sv 1) (snd_fld (one_cf T.cf_1) (one_f rfl) (sv 0)) rfl))))
 (sns_cons (sns_raise rfl tk T.e_NoCell rfl rfl)
 sns_nil)
 sns_nil)
 sns_nil)
theorem ok_Yards_list_processes (T : Tx K mg) (TB : ∀ p ∈ csOf lamL K, LamX.TabB base mg p.1 p.2) : FnOk P w K mg base (L2.CX P w) 1 (He.ma K (He.ga K "Yard") "list_processes") T.d_Yards_list_processes P_Yards_list_processes (spI K (cl K sc) 1 f_Yards_list_processes) :=
  have nd := sc_Yards_list_processes.nd
  fn_I (b := b_Yards_list_processes) (g := f_Yards_list_processes) T.F_Yards_list_processes sc_Yards_list_processes rfl rfl rfl fun cdv A outer s H E hr tk =>
 (sns_cons (sns_ret (snd_lc (own := [("own", 1)]) rfl nd (sni_seq (snd_sorted rfl rfl T.n_sorted (snd_fld (one_cf T.cf_1) (one_f rfl) (sv 0)))) (blkOk_by (own := [("own", 1)]) (N := N_Yards_list_processes) (sc := defScope s_Yards_list_processes) (by decide +kernel)) (by decide) (fun _ _ _ _ _ => (sng_name (i := 1) nd rfl (by first | exact .inl rfl | exact .inr rfl))) (fun _ _ _ _ _ => snts_nil) (fun _ _ _ _ _ => (snd_idx hr.un1 (snd_fld (one_cf T.cf_1) (one_f rfl) (sv 0)) (sv 1)))))
 sns_nil)
theorem ok_Yard___len__ (T : Tx K mg) (TB : ∀ p ∈ csOf lamL K, LamX.TabB base mg p.1 p.2) : FnOk P w K mg base (L2.CX P w) 2 (He.ma K (He.ga K "Yard") "__len__") T.d_Yard___len__ P_Yard___len__ (spI K (cl K sc) 1 f_Yard___len__) :=
  have nd := sc_Yard___len__.nd
  fn_I (b := b_Yard___len__) (g := f_Yard___len__) T.F_Yard___len__ sc_Yard___len__ rfl rfl rfl fun cdv A outer s H E hr tk =>
 (sns_cons (sns_ret (snd_len rfl rfl T.n_len (snd_lc (own := [("one", 1)]) rfl nd (sni_seq (snd_meth0 (np := 1) (ok_Yards_list_processes T TB) (hr.mono (by decide)) tk flatE T.cf_1 T.m_Yards_list_processes (show ("list_processes" : Str) ∉ fl 1 by decide +kernel) T.b_Yards_list_processes (sv 0) )) (blkOk_by (own := [("one", 1)]) (N := N_Yard___len__) (sc := defScope s_Yard___len__) (by decide +kernel)) (by decide) (fun _ _ _ _ _ => (sng_name (i := 1) nd rfl (by first | exact .inl rfl | exact .inr rfl))) (fun _ _ _ _ _ => (snts_one (snt_not (snt_val (snd_fld (one_cf T.cf_4) (one_f rfl) (sv 1)))))) (fun _ _ _ _ _ => (sv 1)))))
 sns_nil)
theorem ok_Yards_heir_of (T : Tx K mg) (TB : ∀ p ∈ csOf lamL K, LamX.TabB base mg p.1 p.2) : FnOk P w K mg base (L2.CX P w) 2 (He.ma K (He.ga K "Yard") "heir_of") T.d_Yards_heir_of P_Yards_heir_of (spI K (cl K sc) 2 f_Yards_heir_of) :=
  have nd := sc_Yards_heir_of.nd
  fn_I (b := b_Yards_heir_of) (g := f_Yards_heir_of) T.F_Yards_heir_of sc_Yards_heir_of rfl rfl rfl fun cdv A outer s H E hr tk =>
 (sns_cons (sns_for PassesOwn.leaving rfl (sni_seq (snd_meth (np := 2) (ok_Rooms_rooms_up T TB) (hr.mono (by decide)) tk flatE T.cf_3 T.m_Rooms_rooms_up (show ("rooms_up" : Str) ∉ fl 3 by decide +kernel) T.b_Rooms_rooms_up (snd_fld (one_cf T.cf_1) (one_f rfl) (sv 0)) (sna_cons (snd_fld (one_cf T.cf_4) (one_f rfl) (sv 1)) sna_nil))) (sng_name (i := 2) nd rfl (by first | exact .inl rfl | exact .inr rfl))
 (sns_cons (sns_set (i := 3) nd rfl (.inl rfl) (snd_fld (one_cf T.cf_2) (one_f rfl) (snd_idx hr.un1 (snd_fld (one_cf T.cf_3) (one_f rfl) (snd_fld (one_cf T.cf_1) (one_f rfl) (sv 0))) (sv 2))))
 (sns_cons (sns_if (PW.pt (snw_and (snt_cmp (op_inA hr.un65) ops_in (sv 3) (snd_fld (one_cf T.cf_1) (one_f rfl) (sv 0)) rfl) (snw_and (snt_not (snt_val (snd_fld (one_cf T.cf_4) (one_f rfl) (snd_idx hr.un1 (snd_fld (one_cf T.cf_1) (one_f rfl) (sv 0)) (sv 3))))) (snw_and1 (snt_cmp (op_neA hr.units) ops_ne (sv 3) (snd_fld (one_cf T.cf_4) (one_f rfl) (sv 1)) (nomark _))))))
 (sns_cons (sns_ret (sv 3))
 sns_nil)
 sns_nil)
 sns_nil)))
 (sns_cons (sns_ret (T.c_FIRST.pe rfl))
 sns_nil))
theorem ok_Yards_young_of (T : Tx K mg) (TB : ∀ p ∈ csOf lamL K, LamX.TabB base mg p.1 p.2) : FnOk P w K mg base (L2.CX P w) 1 (He.ma K (He.ga K "Yard") "young_of") T.d_Yards_young_of P_Yards_young_of (spI K (cl K sc) 2 f_Yards_young_of) :=
  have nd := sc_Yards_young_of.nd
  fn_I (b := b_Yards_young_of) (g := f_Yards_young_of) T.F_Yards_young_of sc_Yards_young_of rfl rfl rfl fun cdv A outer s H E hr tk =>
 (sns_cons (sns_ret (snd_lc (own := [("one", 2)]) rfl nd (sni_seq (snd_sorted rfl rfl T.n_sorted (snd_fld (one_cf T.cf_1) (one_f rfl) (sv 0)))) (blkOk_by (own := [("one", 2)]) (N := N_Yards_young_of) (sc := defScope s_Yards_young_of) (by decide +kernel)) (by decide) (fun _ _ _ _ _ => (sng_name (i := 2) nd rfl (by first | exact .inl rfl | exact .inr rfl))) (fun _ _ _ _ _ => (snts_one (snt_cmp (op_eqA hr.units) ops_eq (snd_fld (one_cf T.cf_4) (one_f rfl) (snd_idx hr.un1 (snd_fld (one_cf T.cf_1) (one_f rfl) (sv 0)) (sv 2))) (sv 1) (nomark _)))) (fun _ _ _ _ _ => (snd_idx hr.un1 (snd_fld (one_cf T.cf_1) (one_f rfl) (sv 0)) (sv 2)))))
 sns_nil)
theorem ok_Yards_drop_process (T : Tx K mg) (TB : ∀ p ∈ csOf lamL K, LamX.TabB base mg p.1 p.2) : FnOk P w K mg base (L2.CX P w) 1 (He.ma K (He.ga K "Yard") "drop_process") T.d_Yards_drop_process P_Yards_drop_process (spI K (cl K sc) 2 f_Yards_drop_process) :=
  have nd := sc_Yards_drop_process.nd
  fn_I (b := b_Yards_drop_process) (g := f_Yards_drop_process) T.F_Yards_drop_process sc_Yards_drop_process rfl rfl rfl fun cdv A outer s H E hr tk =>
 (sns_cons (sns_ex (snd_pop1 (snd_fld (one_cf T.cf_1) (one_f rfl) (sv 0)) (sv 1) ⟨rfl, rfl, rfl, rfl⟩))
 sns_nil)
theorem ok_Yards_put_end (T : Tx K mg) (TB : ∀ p ∈ csOf lamL K, LamX.TabB base mg p.1 p.2) : FnOk P w K mg base (L2.CX P w) 3 (He.ma K (He.ga K "Yard") "put_end") T.d_Yards_put_end P_Yards_put_end (spI K (cl K sc) 3 f_Yards_put_end) :=
  have nd := sc_Yards_put_end.nd
  fn_I (b := b_Yards_put_end) (g := f_Yards_put_end) T.F_Yards_put_end sc_Yards_put_end rfl rfl rfl fun cdv A outer s H E hr tk =>
 (sns_cons (sns_asg snd_bl (sng_fld (one_cf T.cf_4) (one_f rfl) (sv 1)))
 (sns_cons (sns_asg (sv 2) (sng_fld (one_cf T.cf_4) (one_f rfl) (sv 1)))
 (sns_cons (sns_mul snd_int (sng_fld (one_cf T.cf_4) (one_f rfl) (sv 1)) (sng_fld (one_cf T.cf_4) (one_f rfl) (sv 1)))
 (sns_cons (sns_set (i := 3) nd rfl (.inl rfl) (snd_meth (np := 2) (ok_Yards_heir_of T TB) (hr.mono (by decide)) tk flatE T.cf_1 T.m_Yards_heir_of (show ("heir_of" : Str) ∉ fl 1 by decide +kernel) T.b_Yards_heir_of (sv 0) (sna_cons (sv 1) sna_nil)))
 (sns_cons (sns_for PassesOwn.leaving rfl (sni_seq (snd_meth (np := 2) (ok_Yards_young_of T TB) (hr.mono (by decide)) tk flatE T.cf_1 T.m_Yards_young_of (show ("young_of" : Str) ∉ fl 1 by decide +kernel) T.b_Yards_young_of (sv 0) (sna_cons (snd_fld (one_cf T.cf_4) (one_f rfl) (sv 1)) sna_nil))) (sng_name (i := 4) nd rfl (by first | exact .inl rfl | exact .inr rfl))
 (sns_cons (sns_asg (sv 3) (sng_fld (one_cf T.cf_4) (one_f rfl) (sv 4)))
 sns_nil))
 (sns_cons (sns_for PassesOwn.leaving rfl (sni_seq (snd_meth (np := 2) (ok_Yards_young_of T TB) (hr.mono (by decide)) tk flatE T.cf_1 T.m_Yards_young_of (show ("young_of" : Str) ∉ fl 1 by decide +kernel) T.b_Yards_young_of (sv 0) (sna_cons (T.c_FIRST.pe rfl) sna_nil))) (sng_name (i := 5) nd rfl (by first | exact .inl rfl | exact .inr rfl))
 (sns_cons (sns_if (snt_val (snd_fld (one_cf T.cf_4) (one_f rfl) (sv 5)))
 (sns_cons (sns_ex (snd_meth (np := 2) (ok_Yards_drop_process T TB) (hr.mono (by decide)) tk flatE T.cf_1 T.m_Yards_drop_process (show ("drop_process" : Str) ∉ fl 1 by decide +kernel) T.b_Yards_drop_process (sv 0) (sna_cons (snd_fld (one_cf T.cf_4) (one_f rfl) (sv 5)) sna_nil)))
 sns_nil)
 sns_nil)
 sns_nil))
 sns_nil))))))
theorem ok_Rooms_lies_in (T : Tx K mg) (TB : ∀ p ∈ csOf lamL K, LamX.TabB base mg p.1 p.2) : FnOk P w K mg base (L2.CX P w) 2 (He.ma K (He.ga K "Rooms") "lies_in") T.d_Rooms_lies_in P_Rooms_lies_in (spI K (cl K sc) 3 f_Rooms_lies_in) :=
  have nd := sc_Rooms_lies_in.nd
  fn_I (b := b_Rooms_lies_in) (g := f_Rooms_lies_in) T.F_Rooms_lies_in sc_Rooms_lies_in rfl rfl rfl fun cdv A outer s H E hr tk =>
 (sns_cons (sns_ret (snd_cmp (op_inA hr.un65) ops_in (sv 2) (snd_meth (np := 2) (ok_Rooms_rooms_up T TB) (hr.mono (by decide)) tk flatE T.cf_3 T.m_Rooms_rooms_up (show ("rooms_up" : Str) ∉ fl 3 by decide +kernel) T.b_Rooms_rooms_up (sv 0) (sna_cons (sv 1) sna_nil)) rfl))
 sns_nil)
theorem ok_Rooms_sweep (T : Tx K mg) (TB : ∀ p ∈ csOf lamL K, LamX.TabB base mg p.1 p.2) : FnOk P w K mg base (L2.CX P w) 1 (He.ma K (He.ga K "Rooms") "sweep") T.d_Rooms_sweep P_Rooms_sweep (spI K (cl K sc) 2 f_Rooms_sweep) :=
  have nd := sc_Rooms_sweep.nd
  fn_I (b := b_Rooms_sweep) (g := f_Rooms_sweep) T.F_Rooms_sweep sc_Rooms_sweep rfl rfl rfl fun cdv A outer s H E hr tk =>
 (sns_cons (sns_set (i := 4) nd rfl (.inr rfl) (snd_dc2 (own := [("one", 2), ("room", 3)]) (j1 := 2) (vj := [3]) rfl nd (sni_seq (sv 1)) (blkOk_by (own := [("one", 2), ("room", 3)]) (N := N_Rooms_sweep) (sc := defScope s_Rooms_sweep) (by decide +kernel)) (by decide) (by decide) (by decide) (fun _ _ _ _ _ => (sng_name (i := 2) nd rfl (by first | exact .inl rfl | exact .inr rfl))) (fun _ _ _ _ _ => (sni_seq (snd_fld (one_cf T.cf_4) (one_f rfl) (sv 2)))) (fun _ _ _ _ _ => (sng_name (i := 3) nd rfl (by first | exact .inl rfl | exact .inr rfl))) (fun _ _ _ _ _ => (sv 3)) (fun _ _ _ _ _ => snd_bl)))
 (sns_cons (sns_asg (snd_lk (snd_dcK (own := [("key", 5)]) dend_ref rfl nd (sni_lk (snd_fld (one_cf T.cf_3) (one_f rfl) (sv 0))) (blkOk_by (own := [("key", 5)]) (N := N_Rooms_sweep) (sc := defScope s_Rooms_sweep) (by decide +kernel)) (by decide) (fun _ _ _ _ _ => (sng_name (i := 5) nd rfl (by first | exact .inl rfl | exact .inr rfl))) (fun _ _ _ _ _ => (snts_one (PW.pt (snw_or (snt_cmp (op_inA hr.un65) ops_in (sv 5) (sv 4) rfl) (snw_or1 (snt_cmp (op_eqA hr.units) ops_eq (sv 5) snd_int (nomark _))))))) (fun _ _ _ _ _ => (sv 5)) (fun _ _ _ _ _ => (snd_idx hr.un1 (snd_fld (one_cf T.cf_3) (one_f rfl) (sv 0)) (sv 5)))) (pure_fld (one_f rfl) pure_loc)) (sng_fld (one_cf T.cf_3) (one_f rfl) (sv 0)))
 (sns_cons (sns_setLc (i := 6) (own := [("one", 2)]) rfl nd rfl rfl (sw_true rfl rfl rfl (by decide +kernel)) (sni_seq (sv 1)) (blkOk_by (own := [("one", 2)]) (N := N_Rooms_sweep) (sc := defScope s_Rooms_sweep) (by decide +kernel)) (by decide) (fun _ _ _ _ _ => (sng_name (i := 2) nd rfl (by first | exact .inl rfl | exact .inr rfl))) (fun _ _ _ _ _ => (snts_one (snt_not (snt_val (snd_fld (one_cf T.cf_4) (one_f rfl) (sv 2)))))) (fun _ _ _ _ _ => (sv 2)))
 (sns_cons (sns_set (i := 4) nd rfl (.inr rfl) (snd_dcK (own := [("one", 2)]) dend_val rfl nd (sni_seq (sv 6)) (blkOk_by (own := [("one", 2)]) (N := N_Rooms_sweep) (sc := defScope s_Rooms_sweep) (by decide +kernel)) (by decide) (fun _ _ _ _ _ => (sng_name (i := 2) nd rfl (by first | exact .inl rfl | exact .inr rfl))) (fun _ _ _ _ _ => snts_nil) (fun _ _ _ _ _ => (snd_fld (one_cf T.cf_4) (one_f rfl) (sv 2))) (fun _ _ _ _ _ => snd_bl)))
 (sns_cons (sns_asg (snd_lk (snd_dcK (own := [("key", 5)]) dend_ref rfl nd (sni_lk (snd_fld (one_cf T.cf_3) (one_f rfl) (sv 0))) (blkOk_by (own := [("key", 5)]) (N := N_Rooms_sweep) (sc := defScope s_Rooms_sweep) (by decide +kernel)) (by decide) (fun _ _ _ _ _ => (sng_name (i := 5) nd rfl (by first | exact .inl rfl | exact .inr rfl))) (fun _ _ _ _ _ => (snts_one (PW.pt (snw_or (snt_cmp (op_inA hr.un65) ops_in (sv 5) (sv 4) rfl) (snw_or1 (snt_cmp (op_eqA hr.units) ops_eq (sv 5) snd_int (nomark _))))))) (fun _ _ _ _ _ => (sv 5)) (fun _ _ _ _ _ => (snd_idx hr.un1 (snd_fld (one_cf T.cf_3) (one_f rfl) (sv 0)) (sv 5)))) (pure_fld (one_f rfl) pure_loc)) (sng_fld (one_cf T.cf_3) (one_f rfl) (sv 0)))
 (sns_cons (sns_set (i := 4) nd rfl (.inr rfl) (snd_dcK (own := [("one", 2)]) dend_val rfl nd (sni_seq (sv 6)) (blkOk_by (own := [("one", 2)]) (N := N_Rooms_sweep) (sc := defScope s_Rooms_sweep) (by decide +kernel)) (by decide) (fun _ _ _ _ _ => (sng_name (i := 2) nd rfl (by first | exact .inl rfl | exact .inr rfl))) (fun _ _ _ _ _ => snts_nil) (fun _ _ _ _ _ => (snd_fld (one_cf T.cf_4) (one_f rfl) (sv 2))) (fun _ _ _ _ _ => snd_bl)))
 (sns_cons (sns_asg (snd_lk (snd_dcK (own := [("key", 5)]) dend_ref rfl nd (sni_lk (snd_fld (one_cf T.cf_3) (one_f rfl) (sv 0))) (blkOk_by (own := [("key", 5)]) (N := N_Rooms_sweep) (sc := defScope s_Rooms_sweep) (by decide +kernel)) (by decide) (fun _ _ _ _ _ => (sng_name (i := 5) nd rfl (by first | exact .inl rfl | exact .inr rfl))) (fun _ _ _ _ _ => (snts_one (PW.pt (snw_or (snt_cmp (op_inA hr.un65) ops_in (sv 5) (sv 4) rfl) (snw_or1 (snt_cmp (op_eqA hr.units) ops_eq (sv 5) snd_int (nomark _))))))) (fun _ _ _ _ _ => (sv 5)) (fun _ _ _ _ _ => (snd_idx hr.un1 (snd_fld (one_cf T.cf_3) (one_f rfl) (sv 0)) (sv 5)))) (pure_fld (one_f rfl) pure_loc)) (sng_fld (one_cf T.cf_3) (one_f rfl) (sv 0)))
 sns_nil)))))))
theorem ok_Yards_end_room (T : Tx K mg) (TB : ∀ p ∈ csOf lamL K, LamX.TabB base mg p.1 p.2) : FnOk P w K mg base (L2.CX P w) 4 (He.ma K (He.ga K "Yard") "end_room") T.d_Yards_end_room P_Yards_end_room (spI K (cl K sc) 3 f_Yards_end_room) :=
  have nd := sc_Yards_end_room.nd
  fn_I (b := b_Yards_end_room) (g := f_Yards_end_room) T.F_Yards_end_room sc_Yards_end_room rfl rfl rfl fun cdv A outer s H E hr tk =>
 (sns_cons (sns_set (i := 3) nd rfl (.inl rfl) snd_int)
 (sns_cons (sns_set (i := 4) nd rfl (.inr rfl) (snd_fld (one_cf T.cf_4) (one_f rfl) (sv 1)))
 (sns_cons (sns_ex (snd_meth (np := 3) (ok_Yards_put_end T TB) (hr.mono (by decide)) tk flatE T.cf_1 T.m_Yards_put_end (show ("put_end" : Str) ∉ fl 1 by decide +kernel) T.b_Yards_put_end (sv 0) (sna_cons (sv 1) (sna_cons (sv 2) sna_nil))))
 (sns_cons (sns_if (snt_cmp (op_eqA hr.units) ops_eq (snd_fld (one_cf T.cf_2) (one_f rfl) (snd_idx hr.un1 (snd_fld (one_cf T.cf_3) (one_f rfl) (snd_fld (one_cf T.cf_1) (one_f rfl) (sv 0))) (sv 4))) (snd_fld (one_cf T.cf_4) (one_f rfl) (sv 1)) (nomark _))
 (sns_cons (sns_setLc (i := 6) (own := [("one", 5)]) rfl nd rfl rfl (sw_true rfl rfl rfl (by decide +kernel)) (sni_seq (snd_meth0 (np := 1) (ok_Yards_list_processes T TB) (hr.mono (by decide)) tk flatE T.cf_1 T.m_Yards_list_processes (show ("list_processes" : Str) ∉ fl 1 by decide +kernel) T.b_Yards_list_processes (sv 0) )) (blkOk_by (own := [("one", 5)]) (N := N_Yards_end_room) (sc := defScope s_Yards_end_room) (by decide +kernel)) (by decide) (fun _ _ _ _ _ => (sng_name (i := 5) nd rfl (by first | exact .inl rfl | exact .inr rfl))) (fun _ _ _ _ _ => (snts_one (snt_val (snd_meth (np := 3) (ok_Rooms_lies_in T TB) (hr.mono (by decide)) takes0 flat0 T.cf_3 T.m_Rooms_lies_in (show ("lies_in" : Str) ∉ fl 3 by decide +kernel) T.b_Rooms_lies_in (snd_fld (one_cf T.cf_1) (one_f rfl) (sv 0)) (sna_cons (snd_fld (one_cf T.cf_4) (one_f rfl) (sv 5)) (sna_cons (sv 4) sna_nil)))))) (fun _ _ _ _ _ => (sv 5)))
 (sns_cons (sns_for PassesOwn.leaving rfl (sni_seq (sv 6)) (sng_name (i := 5) nd rfl (by first | exact .inl rfl | exact .inr rfl))
 (sns_cons (sns_if (snt_cmp (op_neA hr.units) ops_ne (snd_fld (one_cf T.cf_4) (one_f rfl) (sv 5)) (snd_fld (one_cf T.cf_4) (one_f rfl) (sv 1)) (nomark _))
 (sns_cons (sns_augL (i := 3) nd rfl (.inl rfl) ip_add ops_iaddP (snd_int_ rfl rfl T.n_int (snd_not (snd_fld (one_cf T.cf_4) (one_f rfl) (sv 5)))))
 (sns_cons (sns_ex (snd_pop2 (snd_fld (one_cf T.cf_1) (one_f rfl) (sv 0)) (snd_fld (one_cf T.cf_4) (one_f rfl) (sv 5)) snd_non ⟨rfl, rfl, rfl, rfl⟩))
 sns_nil))
 sns_nil)
 sns_nil))
 sns_nil))
 sns_nil)
 (sns_cons (sns_ex (snd_meth (np := 2) (ok_Rooms_sweep T TB) (hr.mono (by decide)) tk flatE T.cf_3 T.m_Rooms_sweep (show ("sweep" : Str) ∉ fl 3 by decide +kernel) T.b_Rooms_sweep (snd_fld (one_cf T.cf_1) (one_f rfl) (sv 0)) (sna_cons (snd_meth0 (np := 1) (ok_Yards_list_processes T TB) (hr.mono (by decide)) tk flatE T.cf_1 T.m_Yards_list_processes (show ("list_processes" : Str) ∉ fl 1 by decide +kernel) T.b_Yards_list_processes (sv 0) ) sna_nil)))
 (sns_cons (sns_ret (sv 3))
 sns_nil))))))
theorem ok_Yard_close_cell (T : Tx K mg) (TB : ∀ p ∈ csOf lamL K, LamX.TabB base mg p.1 p.2) : FnOk P w K mg base (L2.CX P w) 5 (He.ma K (He.ga K "Yard") "close_cell") T.d_Yard_close_cell P_Yard_close_cell (spI K (cl K sc) 2 f_Yard_close_cell) :=
  have nd := sc_Yard_close_cell.nd
  fn_I (b := b_Yard_close_cell) (g := f_Yard_close_cell) T.F_Yard_close_cell sc_Yard_close_cell rfl rfl rfl fun cdv A outer s H E hr tk =>
 (sns_cons (sns_ex (snd_meth (np := 2) (ok_Yard_look_cell T TB) (hr.mono (by decide)) tk flatE T.cf_1 T.m_Yard_look_cell (show ("look_cell" : Str) ∉ fl 1 by decide +kernel) T.b_Yard_look_cell (sv 0) (sna_cons (sv 1) sna_nil)))
 (sns_cons (sns_set (i := 2) nd rfl (.inr rfl) (snd_meth (np := 2) (ok_Yards_all_of T TB) (hr.mono (by decide)) tk flatE T.cf_1 T.m_Yards_all_of (show ("all_of" : Str) ∉ fl 1 by decide +kernel) T.b_Yards_all_of (sv 0) (sna_cons (sv 1) sna_nil)))
 (sns_cons (sns_setDc (i := 4) (own := [("one", 3)]) rfl nd rfl rfl (sw_trueD rfl rfl rfl (by decide +kernel)) (sni_seq (snd_meth0 (np := 1) (ok_Yards_list_processes T TB) (hr.mono (by decide)) tk flatE T.cf_1 T.m_Yards_list_processes (show ("list_processes" : Str) ∉ fl 1 by decide +kernel) T.b_Yards_list_processes (sv 0) )) (blkOk_by (own := [("one", 3)]) (N := N_Yard_close_cell) (sc := defScope s_Yard_close_cell) (by decide +kernel)) (by decide) (fun _ _ _ _ _ => (sng_name (i := 3) nd rfl (by first | exact .inl rfl | exact .inr rfl))) (fun _ _ _ _ _ => (snts_one (PW.pt (snw_and (snt_cmp (op_notInI hr.un65 T.ne_4) ops_notInI (sv 3) (sv 2) rfl) (snw_and1 (snt_not (snt_val (snd_fld (one_cf T.cf_4) (one_f rfl) (sv 3))))))))) (fun _ _ _ _ _ => (snd_fld (one_cf T.cf_4) (one_f rfl) (sv 3))) (fun _ _ _ _ _ => snd_bl))
 (sns_cons (sns_for PassesOwn.leaving rfl (sni_seq (snd_add (snd_listD rfl rfl T.n_list (sv 4)) (snd_lst (sna_cons snd_int sna_nil)))) (sng_name (i := 5) nd rfl (by first | exact .inl rfl | exact .inr rfl))
 (sns_cons (sns_if (snt_cmp (op_inA hr.un65) ops_in (sv 1) (snd_lk (snd_lc (own := [("one", 3)]) rfl nd (sni_vals (snd_idx hr.un1 (snd_fld (one_cf T.cf_3) (one_f rfl) (snd_fld (one_cf T.cf_1) (one_f rfl) (sv 0))) (sv 5))) (blkOk_by (own := [("one", 3)]) (N := N_Yard_close_cell) (sc := defScope s_Yard_close_cell) (by decide +kernel)) (by decide) (fun _ _ _ _ _ => (sng_name (i := 3) nd rfl (by first | exact .inl rfl | exact .inr rfl))) (fun _ _ _ _ _ => snts_nil) (fun _ _ _ _ _ => (snd_idx hr.un1 (sv 3) snd_int))) (pure_get (pure_fld (one_f rfl) (pure_fld (one_f rfl) pure_loc)) pure_loc)) rfl)
 (sns_cons (sns_raise rfl tk T.e_Held rfl rfl)
 sns_nil)
 sns_nil)
 sns_nil))
 (sns_cons (sns_set (i := 6) nd rfl (.inl rfl) (snd_lenM (ok_Yard___len__ T TB) (hr.mono (by decide)) tk flatE T.m_Yard___len__ T.b_Yard___len__ rfl T.n_len (sv 0)))
 (sns_cons (sns_for PassesOwn.leaving rfl (sni_seq (sv 2)) (sng_name (i := 3) nd rfl (by first | exact .inl rfl | exact .inr rfl))
 (sns_cons (sns_if (PW.pt (snw_and (snt_cmp (op_inA hr.un65) ops_in (snd_fld (one_cf T.cf_4) (one_f rfl) (sv 3)) (snd_fld (one_cf T.cf_1) (one_f rfl) (sv 0)) rfl) (snw_and1 (snt_not (snt_val (snd_fld (one_cf T.cf_4) (one_f rfl) (sv 3)))))))
 (sns_cons (sns_ex (snd_meth (np := 3) (ok_Yards_end_room T TB) (hr.mono (by decide)) tk flatE T.cf_1 T.m_Yards_end_room (show ("end_room" : Str) ∉ fl 1 by decide +kernel) T.b_Yards_end_room (sv 0) (sna_cons (sv 3) (sna_cons snd_int sna_nil))))
 sns_nil)
 sns_nil)
 sns_nil))
 (sns_cons (sns_for PassesOwn.leaving rfl (sni_seq (sv 2)) (sng_name (i := 3) nd rfl (by first | exact .inl rfl | exact .inr rfl))
 (sns_cons (sns_ex (snd_pop2 (snd_fld (one_cf T.cf_1) (one_f rfl) (sv 0)) (snd_fld (one_cf T.cf_4) (one_f rfl) (sv 3)) snd_non ⟨rfl, rfl, rfl, rfl⟩))
 sns_nil))
 (sns_cons (sns_for PassesOwn.leaving rfl (sni_seq (snd_meth (np := 2) (ok_Groups_within T TB) (hr.mono (by decide)) tk flatE T.cf_1 T.m_Groups_within (show ("within" : Str) ∉ fl 1 by decide +kernel) T.b_Groups_within (sv 0) (sna_cons (sv 1) sna_nil))) (sng_name (i := 7) nd rfl (by first | exact .inl rfl | exact .inr rfl))
 (sns_cons (sns_ex (snd_pop1 (snd_fld (one_cf T.cf_1) (one_f rfl) (sv 0)) (sv 7) ⟨rfl, rfl, rfl, rfl⟩))
 sns_nil))
 (sns_cons (sns_asg (snd_lk (snd_dcK (own := [("one", 3)]) dend_ref rfl nd (sni_lk (snd_fld (one_cf T.cf_1) (one_f rfl) (sv 0))) (blkOk_by (own := [("one", 3)]) (N := N_Yard_close_cell) (sc := defScope s_Yard_close_cell) (by decide +kernel)) (by decide) (fun _ _ _ _ _ => (sng_name (i := 3) nd rfl (by first | exact .inl rfl | exact .inr rfl))) (fun _ _ _ _ _ => (snts_one (snt_cmp (op_inA hr.un65) ops_in (sv 3) (snd_fld (one_cf T.cf_1) (one_f rfl) (sv 0)) rfl))) (fun _ _ _ _ _ => (sv 3)) (fun _ _ _ _ _ => (snd_idx hr.un1 (snd_fld (one_cf T.cf_1) (one_f rfl) (sv 0)) (sv 3)))) (pure_fld (one_f rfl) pure_loc)) (sng_fld (one_cf T.cf_1) (one_f rfl) (sv 0)))
 (sns_cons (sns_ex (snd_pop1 (snd_fld (one_cf T.cf_1) (one_f rfl) (sv 0)) (sv 1) ⟨rfl, rfl, rfl, rfl⟩))
 (sns_cons (sns_ex (snd_meth (np := 2) (ok_Rooms_sweep T TB) (hr.mono (by decide)) tk flatE T.cf_3 T.m_Rooms_sweep (show ("sweep" : Str) ∉ fl 3 by decide +kernel) T.b_Rooms_sweep (snd_fld (one_cf T.cf_1) (one_f rfl) (sv 0)) (sna_cons (snd_meth0 (np := 1) (ok_Yards_list_processes T TB) (hr.mono (by decide)) tk flatE T.cf_1 T.m_Yards_list_processes (show ("list_processes" : Str) ∉ fl 1 by decide +kernel) T.b_Yards_list_processes (sv 0) ) sna_nil)))
 (sns_cons (sns_ret (snd_methK0 (np := 3) (n := 1) (nk := 2) (dfl := []) (ix := [0, 1, 2]) (ok_Yard_note T TB) (hr.mono (by decide)) tk flatE T.cf_1 T.m_Yard_note (show ("note" : Str) ∉ fl 1 by decide +kernel) T.bx_Yard_note_1_deed_told (fun l hl => by match l, hl with | [_, _, _], _ => rfl) (fun _ _ => .nil) rfl (sv 0)  (snk_cons (snd_tup (sna_cons (snd_str (by decide +kernel)) (sna_cons (sv 1) sna_nil))) (snk_cons (snd_sub (sv 6) (snd_lenM (ok_Yard___len__ T TB) (hr.mono (by decide)) tk flatE T.m_Yard___len__ T.b_Yard___len__ rfl T.n_len (sv 0))) snk_nil))))
 sns_nil))))))))))))
theorem ok_processes (T : Tx K mg) (TB : ∀ p ∈ csOf lamL K, LamX.TabB base mg p.1 p.2) : FnOk P w K mg base (L2.CX P w) 2 (He.ga K "processes") T.d_processes P_processes (spI K (cl K sc) 1 f_processes) :=
  have nd := sc_processes.nd
  fn_I (b := b_processes) (g := f_processes) T.F_processes sc_processes rfl rfl rfl fun cdv A outer s H E hr tk =>
 (sns_cons (sns_ret (snd_lc (own := [("one", 1)]) rfl nd (sni_seq (snd_meth0 (np := 1) (ok_Yards_list_processes T TB) (hr.mono (by decide)) tk flatE T.cf_1 T.m_Yards_list_processes (show ("list_processes" : Str) ∉ fl 1 by decide +kernel) T.b_Yards_list_processes (sv 0) )) (blkOk_by (own := [("one", 1)]) (N := N_processes) (sc := defScope s_processes) (by decide +kernel)) (by decide) (fun _ _ _ _ _ => (sng_name (i := 1) nd rfl (by first | exact .inl rfl | exact .inr rfl))) (fun _ _ _ _ _ => (snts_one (snt_not (snt_val (snd_fld (one_cf T.cf_4) (one_f rfl) (sv 1)))))) (fun _ _ _ _ _ => (snd_fld (one_cf T.cf_4) (one_f rfl) (sv 1)))))
 sns_nil)
theorem ok_ended (T : Tx K mg) (TB : ∀ p ∈ csOf lamL K, LamX.TabB base mg p.1 p.2) : FnOk P w K mg base (L2.CX P w) 2 (He.ga K "ended") T.d_ended P_ended (spI K (cl K sc) 1 f_ended) :=
  have nd := sc_ended.nd
  fn_I (b := b_ended) (g := f_ended) T.F_ended sc_ended rfl rfl rfl fun cdv A outer s H E hr tk =>
 (sns_cons (sns_ret (snd_lc (own := [("one", 1)]) rfl nd (sni_seq (snd_meth0 (np := 1) (ok_Yards_list_processes T TB) (hr.mono (by decide)) tk flatE T.cf_1 T.m_Yards_list_processes (show ("list_processes" : Str) ∉ fl 1 by decide +kernel) T.b_Yards_list_processes (sv 0) )) (blkOk_by (own := [("one", 1)]) (N := N_ended) (sc := defScope s_ended) (by decide +kernel)) (by decide) (fun _ _ _ _ _ => (sng_name (i := 1) nd rfl (by first | exact .inl rfl | exact .inr rfl))) (fun _ _ _ _ _ => (snts_one (snt_val (snd_fld (one_cf T.cf_4) (one_f rfl) (sv 1))))) (fun _ _ _ _ _ => (snd_tup (sna_cons (snd_fld (one_cf T.cf_4) (one_f rfl) (sv 1)) (sna_cons (snd_fld (one_cf T.cf_4) (one_f rfl) (sv 1)) (sna_cons (snd_fld (one_cf T.cf_4) (one_f rfl) (sv 1)) sna_nil)))))))
 sns_nil)
theorem ok_charges (T : Tx K mg) (TB : ∀ p ∈ csOf lamL K, LamX.TabB base mg p.1 p.2) : FnOk P w K mg base (L2.CX P w) 5 (He.ga K "charges") T.d_charges P_charges (spI K (cl K sc) 2 f_charges) :=
  have nd := sc_charges.nd
  fn_I (b := b_charges) (g := f_charges) T.F_charges sc_charges rfl rfl rfl fun cdv A outer s H E hr tk =>
 (sns_cons (sns_ex (snd_meth (np := 2) (ok_Groups_look_group T TB) (hr.mono (by decide)) tk flatE T.cf_1 T.m_Groups_look_group (show ("look_group" : Str) ∉ fl 1 by decide +kernel) T.b_Groups_look_group (sv 0) (sna_cons (sv 1) sna_nil)))
 (sns_cons (sns_ret (snd_tup (sna_cons (snd_meth (np := 2) (ok_Yards_held_units T TB) (hr.mono (by decide)) tk flatE T.cf_1 T.m_Yards_held_units (show ("held_units" : Str) ∉ fl 1 by decide +kernel) T.b_Yards_held_units (sv 0) (sna_cons (sv 1) sna_nil)) (sna_cons (snd_meth (np := 2) (ok_Yards_held_heads T TB) (hr.mono (by decide)) tk flatE T.cf_1 T.m_Yards_held_heads (show ("held_heads" : Str) ∉ fl 1 by decide +kernel) T.b_Yards_held_heads (sv 0) (sna_cons (sv 1) sna_nil)) sna_nil))))
 sns_nil))
theorem ok_groups (T : Tx K mg) (TB : ∀ p ∈ csOf lamL K, LamX.TabB base mg p.1 p.2) : FnOk P w K mg base (L2.CX P w) 1 (He.ga K "groups") T.d_groups P_groups (spI K (cl K sc) 1 f_groups) :=
  have nd := sc_groups.nd
  fn_I (b := b_groups) (g := f_groups) T.F_groups sc_groups rfl rfl rfl fun cdv A outer s H E hr tk =>
 (sns_cons (sns_set (i := 1) nd rfl (.inr rfl) (snd_fld (one_cf T.cf_1) (one_f rfl) (sv 0)))
 (sns_cons (sns_ret (snd_lc (own := [("name", 2)]) rfl nd (sni_seq (snd_sorted rfl rfl T.n_sorted (sv 1))) (blkOk_by (own := [("name", 2)]) (N := N_groups) (sc := defScope s_groups) (by decide +kernel)) (by decide) (fun _ _ _ _ _ => (sng_name (i := 2) nd rfl (by first | exact .inl rfl | exact .inr rfl))) (fun _ _ _ _ _ => snts_nil) (fun _ _ _ _ _ => (snd_add (snd_add (snd_tup (sna_cons (sv 2) (sna_cons (snd_fld (one_cf T.cf_0) (one_f rfl) (snd_idx hr.un1 (sv 1) (sv 2))) (sna_cons (snd_fld (one_cf T.cf_0) (one_f rfl) (snd_idx hr.un1 (sv 1) (sv 2))) sna_nil)))) (snd_fld (one_cf T.cf_0) (one_f rfl) (snd_idx hr.un1 (sv 1) (sv 2)))) (snd_tup (sna_cons (snd_fld (one_cf T.cf_0) (one_f rfl) (snd_idx hr.un1 (sv 1) (sv 2))) sna_nil))))))
 sns_nil))
theorem ok_stores (T : Tx K mg) (TB : ∀ p ∈ csOf lamL K, LamX.TabB base mg p.1 p.2) : FnOk P w K mg base (L2.CX P w) 1 (He.ga K "stores") T.d_stores P_stores (spI K (cl K sc) 1 f_stores) :=
  have nd := sc_stores.nd
  fn_I (b := b_stores) (g := f_stores) T.F_stores sc_stores rfl rfl rfl fun cdv A outer s H E hr tk =>
 (sns_cons (sns_ret (snd_sorted rfl rfl T.n_sorted (snd_fld (one_cf T.cf_1) (one_f rfl) (sv 0))))
 sns_nil)
theorem ok_cells (T : Tx K mg) (TB : ∀ p ∈ csOf lamL K, LamX.TabB base mg p.1 p.2) : FnOk P w K mg base (L2.CX P w) 3 (He.ga K "cells") T.d_cells P_cells (spI K (cl K sc) 1 f_cells) :=
  have nd := sc_cells.nd
  fn_I (b := b_cells) (g := f_cells) T.F_cells sc_cells rfl rfl rfl fun cdv A outer s H E hr tk =>
 (sns_cons (sns_set (i := 1) nd rfl (.inr rfl) (snd_fld (one_cf T.cf_1) (one_f rfl) (sv 0)))
 (sns_cons (sns_ret (snd_lc (own := [("name", 2)]) rfl nd (sni_seq (snd_sorted rfl rfl T.n_sorted (sv 1))) (blkOk_by (own := [("name", 2)]) (N := N_cells) (sc := defScope s_cells) (by decide +kernel)) (by decide) (fun _ _ _ _ _ => (sng_name (i := 2) nd rfl (by first | exact .inl rfl | exact .inr rfl))) (fun _ _ _ _ _ => snts_nil) (fun _ _ _ _ _ => (snd_tup (sna_cons (sv 2) (sna_cons (snd_if (snt_cmp (op_inA hr.un65) ops_in (snd_idx hr.un1 (sv 1) (sv 2)) (snd_call (ok_processes T TB) (hr.mono (by decide)) takes0 rfl T.g_processes T.F_processes.kp T.b_processes (sna_cons (sv 0) sna_nil)) rfl) (snd_idx hr.un1 (sv 1) (sv 2)) snd_non) sna_nil))))))
 sns_nil))
theorem ok_rooms (T : Tx K mg) (TB : ∀ p ∈ csOf lamL K, LamX.TabB base mg p.1 p.2) : FnOk P w K mg base (L2.CX P w) 1 (He.ga K "rooms") T.d_rooms P_rooms (spI K (cl K sc) 1 f_rooms) :=
  have nd := sc_rooms.nd
  fn_I (b := b_rooms) (g := f_rooms) T.F_rooms sc_rooms rfl rfl rfl fun cdv A outer s H E hr tk =>
 (sns_cons (sns_ret (snd_tup (sna_cons (snd_len rfl rfl T.n_len (snd_fld (one_cf T.cf_3) (one_f rfl) (snd_fld (one_cf T.cf_1) (one_f rfl) (sv 0)))) (sna_cons (snd_len rfl rfl T.n_len (snd_fld (one_cf T.cf_3) (one_f rfl) (snd_fld (one_cf T.cf_1) (one_f rfl) (sv 0)))) (sna_cons (snd_len rfl rfl T.n_len (snd_fld (one_cf T.cf_3) (one_f rfl) (snd_fld (one_cf T.cf_1) (one_f rfl) (sv 0)))) sna_nil)))))
 sns_nil)
theorem ok_Deeds_wait_for (T : Tx K mg) (TB : ∀ p ∈ csOf lamL K, LamX.TabB base mg p.1 p.2) : FnOk P w K mg base (L2.CX P w) 5 (He.ma K (He.ga K "Yard") "wait_for") T.d_Deeds_wait_for P_Deeds_wait_for (spI K (cl K sc) 2 f_Deeds_wait_for) :=
  have nd := sc_Deeds_wait_for.nd
  fn_I (b := b_Deeds_wait_for) (g := f_Deeds_wait_for) T.F_Deeds_wait_for sc_Deeds_wait_for rfl rfl rfl fun cdv A outer s H E hr tk =>
 (sns_cons (sns_set (i := 2) nd rfl (.inr rfl) (snd_meth (np := 2) (ok_Yards_look_actor T TB) (hr.mono (by decide)) tk flatE T.cf_1 T.m_Yards_look_actor (show ("look_actor" : Str) ∉ fl 1 by decide +kernel) T.b_Yards_look_actor (sv 0) (sna_cons (sv 1) sna_nil)))
 (sns_cons (sns_set (i := 3) nd rfl (.inl rfl) (snd_meth (np := 2) (ok_Yards_young_of T TB) (hr.mono (by decide)) tk flatE T.cf_1 T.m_Yards_young_of (show ("young_of" : Str) ∉ fl 1 by decide +kernel) T.b_Yards_young_of (sv 0) (sna_cons (sv 1) sna_nil)))
 (sns_cons (sns_if (snt_cmp (op_eqA hr.units) ops_eq (sv 3) (snd_lst sna_nil) (nomark _))
 (sns_cons (sns_raise rfl tk T.e_NoChild rfl rfl)
 sns_nil)
 sns_nil)
 (sns_cons (sns_set (i := 5) nd rfl (.inl rfl) (snd_sorted rfl rfl T.n_sorted (snd_lc (own := [("one", 4)]) rfl nd (sni_seq (sv 3)) (blkOk_by (own := [("one", 4)]) (N := N_Deeds_wait_for) (sc := defScope s_Deeds_wait_for) (by decide +kernel)) (by decide) (fun _ _ _ _ _ => (sng_name (i := 4) nd rfl (by first | exact .inl rfl | exact .inr rfl))) (fun _ _ _ _ _ => (snts_one (snt_val (snd_fld (one_cf T.cf_4) (one_f rfl) (sv 4))))) (fun _ _ _ _ _ => (snd_tup (sna_cons (snd_idx hr.un1 (snd_fld (one_cf T.cf_4) (one_f rfl) (sv 4)) (snd_fld (one_cf T.cf_4) (one_f rfl) (sv 2))) (sna_cons (snd_fld (one_cf T.cf_4) (one_f rfl) (sv 4)) sna_nil)))))))
 (sns_cons (sns_if (snt_cmp (op_eqA hr.units) ops_eq (sv 5) (snd_lst sna_nil) (nomark _))
 (sns_cons (sns_raise rfl tk T.e_NotYet rfl rfl)
 sns_nil)
 sns_nil)
 (sns_cons (sns_asg (snd_idx hr.un1 (sv 5) snd_int) (sng_tup rfl (sngs_cons (sng_name (i := 6) nd rfl (by first | exact .inl rfl | exact .inr rfl)) (sngs_cons (sng_name (i := 4) nd rfl (by first | exact .inl rfl | exact .inr rfl)) sngs_nil))))
 (sns_cons (sns_set (i := 7) nd rfl (.inl rfl) (snd_fld (one_cf T.cf_4) (one_f rfl) (snd_idx hr.un1 (snd_fld (one_cf T.cf_1) (one_f rfl) (sv 0)) (sv 4))))
 (sns_cons (sns_ex (snd_meth (np := 2) (ok_Yards_drop_process T TB) (hr.mono (by decide)) tk flatE T.cf_1 T.m_Yards_drop_process (show ("drop_process" : Str) ∉ fl 1 by decide +kernel) T.b_Yards_drop_process (sv 0) (sna_cons (sv 4) sna_nil)))
 (sns_cons (sns_ex (snd_meth (np := 2) (ok_Rooms_sweep T TB) (hr.mono (by decide)) tk flatE T.cf_3 T.m_Rooms_sweep (show ("sweep" : Str) ∉ fl 3 by decide +kernel) T.b_Rooms_sweep (snd_fld (one_cf T.cf_1) (one_f rfl) (sv 0)) (sna_cons (snd_meth0 (np := 1) (ok_Yards_list_processes T TB) (hr.mono (by decide)) tk flatE T.cf_1 T.m_Yards_list_processes (show ("list_processes" : Str) ∉ fl 1 by decide +kernel) T.b_Yards_list_processes (sv 0) ) sna_nil)))
 (sns_cons (sns_ret (snd_tup (sna_cons (sv 6) (sna_cons (sv 7) sna_nil))))
 sns_nil))))))))))
theorem ok_Yard_wait (T : Tx K mg) (TB : ∀ p ∈ csOf lamL K, LamX.TabB base mg p.1 p.2) : FnOk P w K mg base (L2.CX P w) 6 (He.ma K (He.ga K "Yard") "wait") T.d_Yard_wait P_Yard_wait (spI K (cl K sc) 2 f_Yard_wait) :=
  have nd := sc_Yard_wait.nd
  fn_I (b := b_Yard_wait) (g := f_Yard_wait) T.F_Yard_wait sc_Yard_wait rfl rfl rfl fun cdv A outer s H E hr tk =>
 (sns_cons (sns_ret (snd_methK0 (np := 3) (n := 1) (nk := 2) (dfl := []) (ix := [0, 2, 1]) (ok_Yard_note T TB) (hr.mono (by decide)) tk flatE T.cf_1 T.m_Yard_note (show ("note" : Str) ∉ fl 1 by decide +kernel) T.bx_Yard_note_1_told_deed (fun l hl => by match l, hl with | [_, _, _], _ => rfl) (fun _ _ => .nil) rfl (sv 0)  (snk_cons (snd_meth (np := 2) (ok_Deeds_wait_for T TB) (hr.mono (by decide)) tk flatE T.cf_1 T.m_Deeds_wait_for (show ("wait_for" : Str) ∉ fl 1 by decide +kernel) T.b_Deeds_wait_for (sv 0) (sna_cons (sv 1) sna_nil)) (snk_cons (snd_tup (sna_cons (snd_str (by decide +kernel)) (sna_cons (sv 1) sna_nil))) snk_nil))))
 sns_nil)
theorem ok_law (T : Tx K mg) (TB : ∀ p ∈ csOf lamL K, LamX.TabB base mg p.1 p.2) (SB : FnOk P w K mg base (L2.CX P w) 1 (He.ga K "_law_pick") T.d__law_pick P__law_pick (spI K (cl K sc) 3 pk)) : FnOk P w K mg base (L2.CX P w) 9 (He.ga K "law") T.d_law P_law (spL K (cl K sc) (f_law pk)) :=
  have nd := sc_law.nd
  fn_L (b := (b_law pk)) (g := (f_law pk)) T.F_law sc_law rfl rfl rfl fun cdv A outer s H E hci hcd hr tk =>
  have cd_law : cdv = .ref (tabC K "law") := hcd.symm.trans (T.tabs.code (by decide) T.F_law T.ns_law)
 (sns_cons (sns_mix rfl nd (.cons (i := 2) rfl (.inr rfl) (by first | exact .inl rfl | exact .inr rfl) rfl (.cons (i := 3) rfl (.inl rfl) (by first | exact .inl rfl | exact .inr rfl) rfl .nil)) (snm_cons (snd_make0 (x := "Yard") T.k_1 (ok_Yard___init__ T TB) (hr.mono (by decide)) tk flatE T.cf_1 rfl rfl T.g_Yard T.b_Yard___init__ ) (snm_cons (snd_lc (own := [("_law_k", 1)]) rfl nd (sni_rng rfl T.n_range snd_int) (blkOk_by (own := [("_law_k", 1)]) (N := N_law) (sc := defScope s_law) (by decide +kernel)) (by decide) (fun _ _ _ _ _ => (sng_name (i := 1) nd rfl (by first | exact .inl rfl | exact .inr rfl))) (fun _ _ _ _ _ => snts_nil) (fun _ _ _ _ _ => (snd_call SB (hr.mono (by decide)) takes0 rfl T.g__law_pick T.F__law_pick.kp T.b__law_pick (sna_cons (sv 0) (sna_cons (sv 1) (sna_cons snd_int sna_nil)))))) snm_nil)))
 (sns_cons (sns_ex (snd_methK (np := 5) (n := 2) (nk := 1) (dfl := [.non, .non]) (ix := [0, 1, 4, 2, 3]) (ok_Yard_set_caps T TB) (hr.mono (by decide)) tk flatE T.cf_1 T.m_Yard_set_caps (show ("set_caps" : Str) ∉ fl 1 by decide +kernel) T.bx_Yard_set_caps_2_unit_cap (fun l hl => by match l, hl with | [_, _, _, _, _], _ => rfl) (fun _ _ => (.cons .non (.cons .non .nil))) rfl (sv 2) (sna_cons (snd_str (by decide +kernel)) sna_nil) (snk_cons snd_int snk_nil)))
 (sns_cons (sns_set (i := 4) nd rfl (.inr rfl) (snd_methK (np := 7) (n := 3) (nk := 0) (dfl := [(.int 1), .non, .non, .non]) (ix := [0, 1, 2, 3, 4, 5, 6]) (ok_Yard_open_cell T TB) (hr.mono (by decide)) tk flatE T.cf_1 T.m_Yard_open_cell (show ("open_cell" : Str) ∉ fl 1 by decide +kernel) T.bx_Yard_open_cell_3 (fun l hl => by match l, hl with | [_, _, _, _, _, _, _], _ => rfl) (fun _ _ => (.cons (.int _) (.cons .non (.cons .non (.cons .non .nil))))) rfl (sv 2) (sna_cons (snd_str (by decide +kernel)) (sna_cons (snd_tup sna_nil) sna_nil)) snk_nil))
 (sns_cons (sns_set (i := 5) nd rfl (.inr rfl) (snd_methK (np := 3) (n := 2) (nk := 1) (dfl := []) (ix := [0, 1, 2]) (ok_Yard_spawn T TB) (hr.mono (by decide)) tk flatE T.cf_1 T.m_Yard_spawn (show ("spawn" : Str) ∉ fl 1 by decide +kernel) T.bx_Yard_spawn_2_fresh (fun l hl => by match l, hl with | [_, _, _], _ => rfl) (fun _ _ => .nil) rfl (sv 2) (sna_cons snd_int sna_nil) (snk_cons (snd_tup (sna_cons (snd_str (by decide +kernel)) sna_nil)) snk_nil)))
 (sns_cons (sns_setLc (i := 6) (own := [("_law_k", 1)]) rfl nd rfl rfl (sw_true rfl rfl rfl (by decide +kernel)) (sni_rng rfl T.n_range (snd_idx hr.un1 (sv 3) snd_int)) (blkOk_by (own := [("_law_k", 1)]) (N := N_law) (sc := defScope s_law) (by decide +kernel)) (by decide) (fun _ _ _ _ _ => (sng_name (i := 1) nd rfl (by first | exact .inl rfl | exact .inr rfl))) (fun _ _ _ _ _ => snts_nil) (fun _ _ _ _ _ => (snd_methK (np := 3) (n := 2) (nk := 0) (dfl := [(.ctp [])]) (ix := [0, 1, 2]) (ok_Yard_spawn T TB) (hr.mono (by decide)) takes0 flat0 T.cf_1 T.m_Yard_spawn (show ("spawn" : Str) ∉ fl 1 by decide +kernel) T.bx_Yard_spawn_2 (fun l hl => by match l, hl with | [_, _, _], _ => rfl) (fun _ _ => (.cons (.ctp T.z_Yard_spawn_fresh .nil) .nil)) rfl (sv 2) (sna_cons (sv 5) sna_nil) snk_nil)))
 (sns_cons (sns_ex (snd_methK (np := 7) (n := 3) (nk := 0) (dfl := [(.int 1), .non, .non, .non]) (ix := [0, 1, 2, 3, 4, 5, 6]) (ok_Yard_make_group T TB) (hr.mono (by decide)) tk flatE T.cf_1 T.m_Yard_make_group (show ("make_group" : Str) ∉ fl 1 by decide +kernel) T.bx_Yard_make_group_3 (fun l hl => by match l, hl with | [_, _, _, _, _, _, _], _ => rfl) (fun _ _ => (.cons (.int _) (.cons .non (.cons .non (.cons .non .nil))))) rfl (sv 2) (sna_cons (snd_str (by decide +kernel)) (sna_cons (snd_str (by decide +kernel)) sna_nil)) snk_nil))
 (sns_cons (sns_setLc (i := 7) (own := [("_law_k", 1)]) rfl nd rfl rfl (sw_true rfl rfl rfl (by decide +kernel)) (sni_rng rfl T.n_range (snd_add snd_int (snd_idx hr.un1 (sv 3) snd_int))) (blkOk_by (own := [("_law_k", 1)]) (N := N_law) (sc := defScope s_law) (by decide +kernel)) (by decide) (fun _ _ _ _ _ => (sng_name (i := 1) nd rfl (by first | exact .inl rfl | exact .inr rfl))) (fun _ _ _ _ _ => snts_nil) (fun _ _ _ _ _ => (snd_methK (np := 3) (n := 2) (nk := 0) (dfl := [(.ctp [])]) (ix := [0, 1, 2]) (ok_Yard_spawn T TB) (hr.mono (by decide)) takes0 flat0 T.cf_1 T.m_Yard_spawn (show ("spawn" : Str) ∉ fl 1 by decide +kernel) T.bx_Yard_spawn_2 (fun l hl => by match l, hl with | [_, _, _], _ => rfl) (fun _ _ => (.cons (.ctp T.z_Yard_spawn_fresh .nil) .nil)) rfl (sv 2) (sna_cons (sv 4) sna_nil) snk_nil)))
 (sns_cons (sns_set (i := 8) nd rfl (.inr rfl) (snd_methK (np := 3) (n := 2) (nk := 1) (dfl := []) (ix := [0, 1, 2]) (ok_Yard_spawn T TB) (hr.mono (by decide)) tk flatE T.cf_1 T.m_Yard_spawn (show ("spawn" : Str) ∉ fl 1 by decide +kernel) T.bx_Yard_spawn_2_fresh (fun l hl => by match l, hl with | [_, _, _], _ => rfl) (fun _ _ => .nil) rfl (sv 2) (sna_cons (snd_idx hr.un1 (sv 7) snd_int) sna_nil) (snk_cons (snd_tup (sna_cons (snd_str (by decide +kernel)) (sna_cons (snd_str (by decide +kernel)) sna_nil))) snk_nil)))
 (sns_cons (sns_setLc (i := 9) (own := [("_law_k", 1)]) rfl nd rfl rfl (sw_true rfl rfl rfl (by decide +kernel)) (sni_rng rfl T.n_range (snd_idx hr.un1 (sv 3) snd_int)) (blkOk_by (own := [("_law_k", 1)]) (N := N_law) (sc := defScope s_law) (by decide +kernel)) (by decide) (fun _ _ _ _ _ => (sng_name (i := 1) nd rfl (by first | exact .inl rfl | exact .inr rfl))) (fun _ _ _ _ _ => snts_nil) (fun _ _ _ _ _ => (snd_methK (np := 3) (n := 2) (nk := 0) (dfl := [(.ctp [])]) (ix := [0, 1, 2]) (ok_Yard_spawn T TB) (hr.mono (by decide)) takes0 flat0 T.cf_1 T.m_Yard_spawn (show ("spawn" : Str) ∉ fl 1 by decide +kernel) T.bx_Yard_spawn_2 (fun l hl => by match l, hl with | [_, _, _], _ => rfl) (fun _ _ => (.cons (.ctp T.z_Yard_spawn_fresh .nil) .nil)) rfl (sv 2) (sna_cons (sv 8) sna_nil) snk_nil)))
 (sns_cons (sns_for PassesOwn.leaving rfl (sni_seq (sv 6)) (sng_name (i := 10) nd rfl (by first | exact .inl rfl | exact .inr rfl))
 (sns_cons (sns_ex (snd_meth (np := 3) (ok_Yard_move T TB) (hr.mono (by decide)) tk flatE T.cf_1 T.m_Yard_move (show ("move" : Str) ∉ fl 1 by decide +kernel) T.b_Yard_move (sv 2) (sna_cons (sv 10) (sna_cons (snd_str (by decide +kernel)) sna_nil))))
 sns_nil))
 (sns_cons (sns_ex (snd_meth (np := 3) (ok_Yard_move T TB) (hr.mono (by decide)) tk flatE T.cf_1 T.m_Yard_move (show ("move" : Str) ∉ fl 1 by decide +kernel) T.b_Yard_move (sv 2) (sna_cons (snd_idx hr.un1 (sv 7) (snd_neg snd_int)) (sna_cons (snd_str (by decide +kernel)) sna_nil))))
 (sns_cons (sns_ex (snd_meth (np := 3) (ok_Yard_unmount T TB) (hr.mono (by decide)) tk flatE T.cf_1 T.m_Yard_unmount (show ("unmount" : Str) ∉ fl 1 by decide +kernel) T.b_Yard_unmount (sv 2) (sna_cons (sv 4) (sna_cons (snd_tup sna_nil) sna_nil))))
 (sns_cons (sns_for PassesOwn.leaving rfl (sni_seq (snd_sl (sv 9) snp_no (snp_at (snd_idx hr.un1 (sv 3) snd_int)))) (sng_name (i := 10) nd rfl (by first | exact .inl rfl | exact .inr rfl))
 (sns_cons (sns_ex (snd_meth (np := 3) (ok_Yard_move T TB) (hr.mono (by decide)) tk flatE T.cf_1 T.m_Yard_move (show ("move" : Str) ∉ fl 1 by decide +kernel) T.b_Yard_move (sv 2) (sna_cons (sv 10) (sna_cons (snd_str (by decide +kernel)) sna_nil))))
 sns_nil))
 (sns_cons (sns_ex (snd_meth (np := 3) (ok_Yard_grow T TB) (hr.mono (by decide)) tk flatE T.cf_1 T.m_Yard_grow (show ("grow" : Str) ∉ fl 1 by decide +kernel) T.b_Yard_grow (sv 2) (sna_cons (snd_idx hr.un1 (sv 7) snd_int) (sna_cons snd_int sna_nil))))
 (sns_cons (sns_set (i := 11) nd rfl (.inl rfl) (snd_add (snd_add (snd_add (snd_add snd_int (snd_len rfl rfl T.n_len (sv 7))) snd_int) (snd_len rfl rfl T.n_len (sv 9))) (snd_len rfl rfl T.n_len (sv 6))))
 (sns_cons (sns_set (i := 12) nd rfl (.inl rfl) (snd_meth (np := 2) (ok_Yard_close_cell T TB) (hr.mono (by decide)) tk flatE T.cf_1 T.m_Yard_close_cell (show ("close_cell" : Str) ∉ fl 1 by decide +kernel) T.b_Yard_close_cell (sv 2) (sna_cons (snd_str (by decide +kernel)) sna_nil)))
 (sns_cons (sns_if (PW.pt (snw_or (snt_cmp (op_neA hr.units) ops_ne (sv 12) (sv 11) (nomark _)) (snw_or (snt_cmp (op_neA hr.units) ops_ne (snd_call (ok_processes T TB) (hr.mono (by decide)) tk rfl T.g_processes T.F_processes.kp T.b_processes (sna_cons (sv 2) sna_nil)) (snd_lst (sna_cons snd_int (sna_cons (sv 5) sna_nil))) (nomark _)) (snw_or1 (snt_cmp (op_neA hr.units) ops_ne (snd_call (ok_ended T TB) (hr.mono (by decide)) tk rfl T.g_ended T.F_ended.kp T.b_ended (sna_cons (sv 2) sna_nil)) (snd_lst sna_nil) (nomark _))))))
 (sns_cons (sns_ret snd_bl)
 sns_nil)
 sns_nil)
 (sns_cons (sns_if (PW.pt (snw_or (snt_cmp (op_neA hr.units) ops_ne (snd_call (ok_charges T TB) (hr.mono (by decide)) tk rfl T.g_charges T.F_charges.kp T.b_charges (sna_cons (sv 2) (sna_cons (snd_str (by decide +kernel)) sna_nil))) (snd_tup (sna_cons snd_int (sna_cons snd_int sna_nil))) (nomark _)) (snw_or1 (snt_cmp (op_neA hr.units) ops_ne (snd_lc (own := [("_law_row", 13)]) rfl nd (sni_seq (snd_call (ok_groups T TB) (hr.mono (by decide)) tk rfl T.g_groups T.F_groups.kp T.b_groups (sna_cons (sv 2) sna_nil))) (blkOk_by (own := [("_law_row", 13)]) (N := N_law) (sc := defScope s_law) (by decide +kernel)) (by decide) (fun _ _ _ _ _ => (sng_name (i := 13) nd rfl (by first | exact .inl rfl | exact .inr rfl))) (fun _ _ _ _ _ => snts_nil) (fun _ _ _ _ _ => (snd_idx hr.un1 (sv 13) snd_int))) (snd_lst (sna_cons (snd_str (by decide +kernel)) sna_nil)) (nomark _)))))
 (sns_cons (sns_ret snd_bl)
 sns_nil)
 sns_nil)
 (sns_cons (sns_if (PW.pt (snw_or (snt_cmp (op_neA hr.units) ops_ne (snd_call (ok_stores T TB) (hr.mono (by decide)) tk rfl T.g_stores T.F_stores.kp T.b_stores (sna_cons (sv 2) sna_nil)) (snd_lst sna_nil) (nomark _)) (snw_or1 (snt_cmp (op_neA hr.units) ops_ne (snd_call (ok_cells T TB) (hr.mono (by decide)) tk rfl T.g_cells T.F_cells.kp T.b_cells (sna_cons (sv 2) sna_nil)) (snd_lst sna_nil) (nomark _)))))
 (sns_cons (sns_ret snd_bl)
 sns_nil)
 sns_nil)
 (sns_cons (sns_if (PW.pt (snw_or (snt_cmp (op_neA hr.units) ops_ne (snd_call (ok_rooms T TB) (hr.mono (by decide)) tk rfl T.g_rooms T.F_rooms.kp T.b_rooms (sna_cons (sv 2) sna_nil)) (snd_tup (sna_cons snd_int (sna_cons snd_int (sna_cons snd_int sna_nil)))) (nomark _)) (snw_or1 (snt_cmp (op_neA hr.units) ops_ne (snd_told (k := 6) (x := "_law_told") (a := "_law_deed") T.F__law_told T.b__law_told sc__law_told rfl (.inl rfl) (fun q cdg => gives_told (k := 1) (hr.mono (by decide)) rfl T.g_CellError (by decide) (fun _ => rfl) sc__law_told.nd rfl rfl (ok_kind T) rfl T.g__law_class T.F__law_class.kp (by decide) (by decide) (by decide)) (TB _ (cs_mem (x := "law") (by decide))) cd_law rfl (tabs_mem (x := "law") (by decide)) (T.tabs.uniq (x := "law") (by decide)) (hr.mono (by decide)) (LamX.lamS_by (by show LamX.lamSB (defScope s_law) _ = true; decide +kernel)) rfl (fun _ _ _ _ _ => rfl) (fun A outer s H E f c hr tk =>
 (snd_meth (np := 2) (ok_Yard_wait T TB) (hr.mono (by decide)) tk flatE T.cf_1 T.m_Yard_wait (show ("wait" : Str) ∉ fl 1 by decide +kernel) T.b_Yard_wait (sv 2) (sna_cons (sv 5) sna_nil))) rfl T.g__law_told) (snd_tup (sna_cons (snd_str (by decide +kernel)) (sna_cons (snd_str (by decide +kernel)) sna_nil))) (nomark _)))))
 (sns_cons (sns_ret snd_bl)
 sns_nil)
 sns_nil)
 (sns_cons (sns_ret (snd_and (snd_cmp (op_eqA hr.units) ops_eq (snd_meth (np := 3) (ok_Yard_grow T TB) (hr.mono (by decide)) tk flatE T.cf_1 T.m_Yard_grow (show ("grow" : Str) ∉ fl 1 by decide +kernel) T.b_Yard_grow (sv 2) (sna_cons snd_int (sna_cons snd_int sna_nil))) snd_int (nomark _)) (snd_one (snd_cmp op_gt ops_gt (snd_methK (np := 7) (n := 3) (nk := 0) (dfl := [(.int 1), .non, .non, .non]) (ix := [0, 1, 2, 3, 4, 5, 6]) (ok_Yard_open_cell T TB) (hr.mono (by decide)) tk flatE T.cf_1 T.m_Yard_open_cell (show ("open_cell" : Str) ∉ fl 1 by decide +kernel) T.bx_Yard_open_cell_3 (fun l hl => by match l, hl with | [_, _, _, _, _, _, _], _ => rfl) (fun _ _ => (.cons (.int _) (.cons .non (.cons .non (.cons .non .nil))))) rfl (sv 2) (sna_cons (snd_str (by decide +kernel)) (sna_cons (snd_tup sna_nil) sna_nil)) snk_nil) (sv 5) (nomark _)))))
 sns_nil)))))))))))))))))))))
end
theorem tx {K : PySem.W.Frag} {h : Heap} {mg : Str → Option Value} (KX : K.In h) (G : h.Ns mainGlobals mg) (c : SaysI fa fns mb K) : Nonempty (Tx K mg) := by
  have m1 : (mbs.all fun f => f K) = true := c.more
  obtain ⟨d_Group___init__, F_Group___init__⟩ := c.def_ 0 (d := D_Group___init__) rfl
  obtain ⟨d_Groups___init__, F_Groups___init__⟩ := c.def_ 1 (d := D_Groups___init__) rfl
  obtain ⟨d_Numbers___init__, F_Numbers___init__⟩ := c.def_ 2 (d := D_Numbers___init__) rfl
  obtain ⟨d_Rooms___init__, F_Rooms___init__⟩ := c.def_ 3 (d := D_Rooms___init__) rfl
  obtain ⟨d_Process___init__, F_Process___init__⟩ := c.def_ 4 (d := D_Process___init__) rfl
  obtain ⟨d_Rooms_new_key, F_Rooms_new_key⟩ := c.def_ 5 (d := D_Rooms_new_key) rfl
  obtain ⟨d_Rooms_new_numbers, F_Rooms_new_numbers⟩ := c.def_ 6 (d := D_Rooms_new_numbers) rfl
  obtain ⟨d_Rooms_new_mounts, F_Rooms_new_mounts⟩ := c.def_ 7 (d := D_Rooms_new_mounts) rfl
  obtain ⟨d_Rooms_new_boxes, F_Rooms_new_boxes⟩ := c.def_ 8 (d := D_Rooms_new_boxes) rfl
  obtain ⟨d_Rooms_rooms_up, F_Rooms_rooms_up⟩ := c.def_ 9 (d := D_Rooms_rooms_up) rfl
  obtain ⟨d_Rooms_number_all, F_Rooms_number_all⟩ := c.def_ 10 (d := D_Rooms_number_all) rfl
  obtain ⟨d_Yards_add_process, F_Yards_add_process⟩ := c.def_ 11 (d := D_Yards_add_process) rfl
  obtain ⟨d_Yards___init__, F_Yards___init__⟩ := c.def_ 12 (d := D_Yards___init__) rfl
  obtain ⟨d_Yard___init__, F_Yard___init__⟩ := c.def_ 13 (d := D_Yard___init__) rfl
  obtain ⟨d__law_pick, F__law_pick⟩ := c.def_ 14 (d := D__law_pick) rfl
  obtain ⟨d_is_name, F_is_name⟩ := c.def_ 15 (d := D_is_name) rfl
  obtain ⟨d_Groups_look_group, F_Groups_look_group⟩ := c.def_ 16 (d := D_Groups_look_group) rfl
  obtain ⟨d_is_whole, F_is_whole⟩ := c.def_ 17 (d := D_is_whole) rfl
  obtain ⟨d_are_caps, F_are_caps⟩ := c.def_ 18 (d := D_are_caps) rfl
  obtain ⟨d_look_caps, F_look_caps⟩ := c.def_ 19 (d := D_look_caps) rfl
  obtain ⟨d_Groups_look_lowered, F_Groups_look_lowered⟩ := c.def_ 20 (d := D_Groups_look_lowered) rfl
  obtain ⟨d_Groups_way_up, F_Groups_way_up⟩ := c.def_ 21 (d := D_Groups_way_up) rfl
  obtain ⟨d_Groups_within, F_Groups_within⟩ := c.def_ 22 (d := D_Groups_within) rfl
  obtain ⟨d_Yards_all_of, F_Yards_all_of⟩ := c.def_ 23 (d := D_Yards_all_of) rfl
  obtain ⟨d_Yards_held_heads, F_Yards_held_heads⟩ := c.def_ 24 (d := D_Yards_held_heads) rfl
  obtain ⟨d_Yards_held_units, F_Yards_held_units⟩ := c.def_ 25 (d := D_Yards_held_units) rfl
  obtain ⟨d_Deeds_put_caps, F_Deeds_put_caps⟩ := c.def_ 26 (d := D_Deeds_put_caps) rfl
  obtain ⟨d_Yard_note, F_Yard_note⟩ := c.def_ 27 (d := D_Yard_note) rfl
  obtain ⟨d_Yard_set_caps, F_Yard_set_caps⟩ := c.def_ 28 (d := D_Yard_set_caps) rfl
  obtain ⟨d_look_name, F_look_name⟩ := c.def_ 29 (d := D_look_name) rfl
  obtain ⟨d_is_path, F_is_path⟩ := c.def_ 30 (d := D_is_path) rfl
  obtain ⟨d_are_words, F_are_words⟩ := c.def_ 31 (d := D_are_words) rfl
  obtain ⟨d_is_file, F_is_file⟩ := c.def_ 32 (d := D_is_file) rfl
  obtain ⟨d_is_layer, F_is_layer⟩ := c.def_ 33 (d := D_is_layer) rfl
  obtain ⟨d_are_layers, F_are_layers⟩ := c.def_ 34 (d := D_are_layers) rfl
  obtain ⟨d_look_layers, F_look_layers⟩ := c.def_ 35 (d := D_look_layers) rfl
  obtain ⟨d_look_whole, F_look_whole⟩ := c.def_ 36 (d := D_look_whole) rfl
  obtain ⟨d_Yard_look_new_cell, F_Yard_look_new_cell⟩ := c.def_ 37 (d := D_Yard_look_new_cell) rfl
  obtain ⟨d_Groups_barred, F_Groups_barred⟩ := c.def_ 38 (d := D_Groups_barred) rfl
  obtain ⟨d_Yards_look_heads, F_Yards_look_heads⟩ := c.def_ 39 (d := D_Yards_look_heads) rfl
  obtain ⟨d_Groups_add_group, F_Groups_add_group⟩ := c.def_ 40 (d := D_Groups_add_group) rfl
  obtain ⟨d_flat_of, F_flat_of⟩ := c.def_ 41 (d := D_flat_of) rfl
  obtain ⟨d_Deeds_make_store, F_Deeds_make_store⟩ := c.def_ 42 (d := D_Deeds_make_store) rfl
  obtain ⟨d_Yard_open_cell, F_Yard_open_cell⟩ := c.def_ 43 (d := D_Yard_open_cell) rfl
  obtain ⟨d_Yards_look_process, F_Yards_look_process⟩ := c.def_ 44 (d := D_Yards_look_process) rfl
  obtain ⟨d_Groups_cold_by, F_Groups_cold_by⟩ := c.def_ 45 (d := D_Groups_cold_by) rfl
  obtain ⟨d_Yards_look_actor, F_Yards_look_actor⟩ := c.def_ 46 (d := D_Yards_look_actor) rfl
  obtain ⟨d_are_kinds, F_are_kinds⟩ := c.def_ 47 (d := D_are_kinds) rfl
  obtain ⟨d_Deeds_make_process, F_Deeds_make_process⟩ := c.def_ 48 (d := D_Deeds_make_process) rfl
  obtain ⟨d_Yard_spawn, F_Yard_spawn⟩ := c.def_ 49 (d := D_Yard_spawn) rfl
  obtain ⟨d_Yard_make_group, F_Yard_make_group⟩ := c.def_ 50 (d := D_Yard_make_group) rfl
  obtain ⟨d_Yards_look_units, F_Yards_look_units⟩ := c.def_ 51 (d := D_Yards_look_units) rfl
  obtain ⟨d_Deeds_put_group, F_Deeds_put_group⟩ := c.def_ 52 (d := D_Deeds_put_group) rfl
  obtain ⟨d_Yard_move, F_Yard_move⟩ := c.def_ 53 (d := D_Yard_move) rfl
  obtain ⟨d_look_path, F_look_path⟩ := c.def_ 54 (d := D_look_path) rfl
  obtain ⟨d_Deeds_drop_mount, F_Deeds_drop_mount⟩ := c.def_ 55 (d := D_Deeds_drop_mount) rfl
  obtain ⟨d_Yard_unmount, F_Yard_unmount⟩ := c.def_ 56 (d := D_Yard_unmount) rfl
  obtain ⟨d_Deeds_add_units, F_Deeds_add_units⟩ := c.def_ 57 (d := D_Deeds_add_units) rfl
  obtain ⟨d_Yard_grow, F_Yard_grow⟩ := c.def_ 58 (d := D_Yard_grow) rfl
  obtain ⟨d_Yard_look_cell, F_Yard_look_cell⟩ := c.def_ 59 (d := D_Yard_look_cell) rfl
  obtain ⟨d_Yards_list_processes, F_Yards_list_processes⟩ := c.def_ 60 (d := D_Yards_list_processes) rfl
  obtain ⟨d_Yard___len__, F_Yard___len__⟩ := c.def_ 61 (d := D_Yard___len__) rfl
  obtain ⟨d_Yards_heir_of, F_Yards_heir_of⟩ := c.def_ 62 (d := D_Yards_heir_of) rfl
  obtain ⟨d_Yards_young_of, F_Yards_young_of⟩ := c.def_ 63 (d := D_Yards_young_of) rfl
  obtain ⟨d_Yards_drop_process, F_Yards_drop_process⟩ := c.def_ 64 (d := D_Yards_drop_process) rfl
  obtain ⟨d_Yards_put_end, F_Yards_put_end⟩ := c.def_ 65 (d := D_Yards_put_end) rfl
  obtain ⟨d_Rooms_lies_in, F_Rooms_lies_in⟩ := c.def_ 66 (d := D_Rooms_lies_in) rfl
  obtain ⟨d_Rooms_sweep, F_Rooms_sweep⟩ := c.def_ 67 (d := D_Rooms_sweep) rfl
  obtain ⟨d_Yards_end_room, F_Yards_end_room⟩ := c.def_ 68 (d := D_Yards_end_room) rfl
  obtain ⟨d_Yard_close_cell, F_Yard_close_cell⟩ := c.def_ 69 (d := D_Yard_close_cell) rfl
  obtain ⟨d_processes, F_processes⟩ := c.def_ 70 (d := D_processes) rfl
  obtain ⟨d_ended, F_ended⟩ := c.def_ 71 (d := D_ended) rfl
  obtain ⟨d_charges, F_charges⟩ := c.def_ 72 (d := D_charges) rfl
  obtain ⟨d_groups, F_groups⟩ := c.def_ 73 (d := D_groups) rfl
  obtain ⟨d_stores, F_stores⟩ := c.def_ 74 (d := D_stores) rfl
  obtain ⟨d_cells, F_cells⟩ := c.def_ 75 (d := D_cells) rfl
  obtain ⟨d_rooms, F_rooms⟩ := c.def_ 76 (d := D_rooms) rfl
  obtain ⟨d__law_class, F__law_class⟩ := c.def_ 77 (d := D__law_class) rfl
  obtain ⟨d__law_told, F__law_told⟩ := c.def_ 78 (d := D__law_told) rfl
  obtain ⟨d_Deeds_wait_for, F_Deeds_wait_for⟩ := c.def_ 79 (d := D_Deeds_wait_for) rfl
  obtain ⟨d_Yard_wait, F_Yard_wait⟩ := c.def_ 80 (d := D_Yard_wait) rfl
  obtain ⟨d_law, F_law⟩ := c.def_ 81 (d := D_law) rfl
  obtain ⟨d_Capped_init, F_Capped_init⟩ := c.def_ 82 (d := D_Capped_init) rfl
  obtain ⟨d_Frozen_init, F_Frozen_init⟩ := c.def_ 83 (d := D_Frozen_init) rfl
  obtain ⟨d_Over_init, F_Over_init⟩ := c.def_ 84 (d := D_Over_init) rfl
  exact ⟨{
    n_ValueError := He.free_ok KX G (c.fact 0 (f := .free "ValueError") rfl)
    n_all := He.free_ok KX G (c.fact 1 (f := .free "all") rfl)
    n_bool := He.free_ok KX G (c.fact 2 (f := .free "bool") rfl)
    n_dict := He.free_ok KX G (c.fact 3 (f := .free "dict") rfl)
    n_int := He.free_ok KX G (c.fact 4 (f := .free "int") rfl)
    n_isinstance := He.free_ok KX G (c.fact 5 (f := .free "isinstance") rfl)
    n_len := He.free_ok KX G (c.fact 6 (f := .free "len") rfl)
    n_list := He.free_ok KX G (c.fact 7 (f := .free "list") rfl)
    n_max := He.free_ok KX G (c.fact 8 (f := .free "max") rfl)
    n_range := He.free_ok KX G (c.fact 9 (f := .free "range") rfl)
    n_set := He.free_ok KX G (c.fact 10 (f := .free "set") rfl)
    n_sorted := He.free_ok KX G (c.fact 11 (f := .free "sorted") rfl)
    n_str := He.free_ok KX G (c.fact 12 (f := .free "str") rfl)
    n_sum := He.free_ok KX G (c.fact 13 (f := .free "sum") rfl)
    n_tuple := He.free_ok KX G (c.fact 14 (f := .free "tuple") rfl)
    c_BOXES := cst_str KX G (c.fact 15 (f := .str "BOXES" "boxes") rfl) (by decide +kernel)
    c_DEEPEST := cst_int KX G (c.fact 16 (f := .int "DEEPEST" (4 : Int)) rfl)
    c_FIRST := cst_int KX G (c.fact 17 (f := .int "FIRST" (1 : Int)) rfl)
    c_KINDS := cst_tup (dvs := [.str "numbers", .str "mounts", .str "boxes"]) KX G (c.fact 18 (f := .glo "KINDS") rfl) (all_of m1 0) (by simp only [List.map, dvD]; rw [show ("boxes" : Str) = ⟨#[98, 111, 120, 101, 115]⟩ from by decide +kernel, show ("mounts" : Str) = ⟨#[109, 111, 117, 110, 116, 115]⟩ from by decide +kernel, show ("numbers" : Str) = ⟨#[110, 117, 109, 98, 101, 114, 115]⟩ from by decide +kernel]) (by decide)
    c_LONGEST := cst_int KX G (c.fact 19 (f := .int "LONGEST" (20 : Int)) rfl)
    c_LONGEST_NAME := cst_int KX G (c.fact 20 (f := .int "LONGEST_NAME" (6 : Int)) rfl)
    c_MOST_CAP := cst_int KX G (c.fact 21 (f := .int "MOST_CAP" (9999 : Int)) rfl)
    c_MOST_FILES := cst_int KX G (c.fact 22 (f := .int "MOST_FILES" (12 : Int)) rfl)
    c_MOST_HEFT := cst_int KX G (c.fact 23 (f := .int "MOST_HEFT" (100 : Int)) rfl)
    c_MOST_LAYERS := cst_int KX G (c.fact 24 (f := .int "MOST_LAYERS" (4 : Int)) rfl)
    c_MOST_UNITS := cst_int KX G (c.fact 25 (f := .int "MOST_UNITS" (999 : Int)) rfl)
    c_MOUNTS := cst_str KX G (c.fact 26 (f := .str "MOUNTS" "mounts") rfl) (by decide +kernel)
    c_NOTHING := cst_tup (dvs := [.int (0 : Int), .int (1 : Int)]) KX G (c.fact 27 (f := .glo "NOTHING") rfl) (all_of m1 1) rfl (by decide)
    c_NUMBERS := cst_str KX G (c.fact 28 (f := .str "NUMBERS" "numbers") rfl) (by decide +kernel)
    c_ROOT := cst_str KX G (c.fact 29 (f := .str "ROOT" "yard") rfl) (by decide +kernel)
    c_SIGNS := cst_str KX G (c.fact 30 (f := .str "SIGNS" "abcdefghijklmnopqrstuvwxyz0123456789") rfl) (by decide +kernel)
    c_SMALL := cst_str KX G (c.fact 31 (f := .str "SMALL" "abcdefghijklmnopqrstuvwxyz") rfl) (by decide +kernel)
    cf_0 := ⟨He.cls_ok (c.fact 95 (f := .cls "Group") rfl), (fun f hf => by
      simp only [cl, fl, List.mem_cons, List.not_mem_nil, or_false] at hf
      rcases hf with rfl | rfl | rfl | rfl
      · exact He.noat_ok (c.fact 96 (f := .noat "Group" "inner") rfl)
      · exact He.noat_ok (c.fact 97 (f := .noat "Group" "heft") rfl)
      · exact He.noat_ok (c.fact 98 (f := .noat "Group" "caps") rfl)
      · exact He.noat_ok (c.fact 99 (f := .noat "Group" "cold") rfl)), (show (fl 0).Nodup by decide +kernel), (show (fl 0).length < 999 by decide +kernel)⟩
    cf_1 := ⟨He.cls_ok (c.fact 100 (f := .cls "Yard") rfl), (fun f hf => by
      simp only [cl, fl, List.mem_cons, List.not_mem_nil, or_false] at hf
      rcases hf with rfl | rfl | rfl | rfl | rfl | rfl | rfl
      · exact He.noat_ok (c.fact 101 (f := .noat "Yard" "all_groups") rfl)
      · exact He.noat_ok (c.fact 102 (f := .noat "Yard" "rooms") rfl)
      · exact He.noat_ok (c.fact 103 (f := .noat "Yard" "processes") rfl)
      · exact He.noat_ok (c.fact 104 (f := .noat "Yard" "stores") rfl)
      · exact He.noat_ok (c.fact 105 (f := .noat "Yard" "born") rfl)
      · exact He.noat_ok (c.fact 106 (f := .noat "Yard" "cells") rfl)
      · exact He.noat_ok (c.fact 107 (f := .noat "Yard" "done") rfl)), (show (fl 1).Nodup by decide +kernel), (show (fl 1).length < 999 by decide +kernel)⟩
    cf_2 := ⟨He.cls_ok (c.fact 108 (f := .cls "Numbers") rfl), (fun f hf => by
      simp only [cl, fl, List.mem_cons, List.not_mem_nil, or_false] at hf
      rcases hf with rfl | rfl | rfl
      · exact He.noat_ok (c.fact 109 (f := .noat "Numbers" "inner") rfl)
      · exact He.noat_ok (c.fact 110 (f := .noat "Numbers" "next_one") rfl)
      · exact He.noat_ok (c.fact 111 (f := .noat "Numbers" "first") rfl)), (show (fl 2).Nodup by decide +kernel), (show (fl 2).length < 999 by decide +kernel)⟩
    cf_3 := ⟨He.cls_ok (c.fact 112 (f := .cls "Rooms") rfl), (fun f hf => by
      simp only [cl, fl, List.mem_cons, List.not_mem_nil, or_false] at hf
      rcases hf with rfl | rfl | rfl | rfl
      · exact He.noat_ok (c.fact 113 (f := .noat "Rooms" "numbers") rfl)
      · exact He.noat_ok (c.fact 114 (f := .noat "Rooms" "mounts") rfl)
      · exact He.noat_ok (c.fact 115 (f := .noat "Rooms" "boxes") rfl)
      · exact He.noat_ok (c.fact 116 (f := .noat "Rooms" "born") rfl)), (show (fl 3).Nodup by decide +kernel), (show (fl 3).length < 999 by decide +kernel)⟩
    cf_4 := ⟨He.cls_ok (c.fact 117 (f := .cls "Process") rfl), (fun f hf => by
      simp only [cl, fl, List.mem_cons, List.not_mem_nil, or_false] at hf
      rcases hf with rfl | rfl | rfl | rfl | rfl | rfl | rfl | rfl | rfl | rfl | rfl | rfl | rfl
      · exact He.noat_ok (c.fact 118 (f := .noat "Process" "own") rfl)
      · exact He.noat_ok (c.fact 119 (f := .noat "Process" "elder") rfl)
      · exact He.noat_ok (c.fact 120 (f := .noat "Process" "group") rfl)
      · exact He.noat_ok (c.fact 121 (f := .noat "Process" "room") rfl)
      · exact He.noat_ok (c.fact 122 (f := .noat "Process" "mounts") rfl)
      · exact He.noat_ok (c.fact 123 (f := .noat "Process" "boxes") rfl)
      · exact He.noat_ok (c.fact 124 (f := .noat "Process" "numbers") rfl)
      · exact He.noat_ok (c.fact 125 (f := .noat "Process" "heft") rfl)
      · exact He.noat_ok (c.fact 126 (f := .noat "Process" "units") rfl)
      · exact He.noat_ok (c.fact 127 (f := .noat "Process" "want") rfl)
      · exact He.noat_ok (c.fact 128 (f := .noat "Process" "outcome") rfl)
      · exact He.noat_ok (c.fact 129 (f := .noat "Process" "used") rfl)
      · exact He.noat_ok (c.fact 130 (f := .noat "Process" "has_ended") rfl)), (show (fl 4).Nodup by decide +kernel), (show (fl 4).length < 999 by decide +kernel)⟩
    g_Group := He.glo_ok KX G (c.fact 32 (f := .glo "Group") rfl)
    g_Yard := He.glo_ok KX G (c.fact 33 (f := .glo "Yard") rfl)
    g_Numbers := He.glo_ok KX G (c.fact 34 (f := .glo "Numbers") rfl)
    g_Rooms := He.glo_ok KX G (c.fact 35 (f := .glo "Rooms") rfl)
    g_Process := He.glo_ok KX G (c.fact 36 (f := .glo "Process") rfl)
    g_Groups := He.glo_ok KX G (c.fact 37 (f := .glo "Groups") rfl)
    g_Deeds := He.glo_ok KX G (c.fact 38 (f := .glo "Deeds") rfl)
    g_NoNumber := He.glo_ok KX G (c.fact 39 (f := .glo "NoNumber") rfl)
    g_NoName := He.glo_ok KX G (c.fact 40 (f := .glo "NoName") rfl)
    g_NoWants := He.glo_ok KX G (c.fact 41 (f := .glo "NoWants") rfl)
    g_NoLayers := He.glo_ok KX G (c.fact 42 (f := .glo "NoLayers") rfl)
    g_NoPath := He.glo_ok KX G (c.fact 43 (f := .glo "NoPath") rfl)
    g_NoWords := He.glo_ok KX G (c.fact 44 (f := .glo "NoWords") rfl)
    g_NoKinds := He.glo_ok KX G (c.fact 45 (f := .glo "NoKinds") rfl)
    g_NoProcess := He.glo_ok KX G (c.fact 46 (f := .glo "NoProcess") rfl)
    g_NoGroup := He.glo_ok KX G (c.fact 47 (f := .glo "NoGroup") rfl)
    g_NoStore := He.glo_ok KX G (c.fact 48 (f := .glo "NoStore") rfl)
    g_NoCell := He.glo_ok KX G (c.fact 49 (f := .glo "NoCell") rfl)
    g_Taken := He.glo_ok KX G (c.fact 50 (f := .glo "Taken") rfl)
    g_Itself := He.glo_ok KX G (c.fact 51 (f := .glo "Itself") rfl)
    g_Frozen := He.glo_ok KX G (c.fact 52 (f := .glo "Frozen") rfl)
    g_Capped := He.glo_ok KX G (c.fact 53 (f := .glo "Capped") rfl)
    g_Over := He.glo_ok KX G (c.fact 54 (f := .glo "Over") rfl)
    g_TooFew := He.glo_ok KX G (c.fact 55 (f := .glo "TooFew") rfl)
    g_Guarded := He.glo_ok KX G (c.fact 56 (f := .glo "Guarded") rfl)
    g_NoSuch := He.glo_ok KX G (c.fact 57 (f := .glo "NoSuch") rfl)
    g_NoChild := He.glo_ok KX G (c.fact 58 (f := .glo "NoChild") rfl)
    g_NotYet := He.glo_ok KX G (c.fact 59 (f := .glo "NotYet") rfl)
    g_NoMount := He.glo_ok KX G (c.fact 60 (f := .glo "NoMount") rfl)
    g_Fixed := He.glo_ok KX G (c.fact 61 (f := .glo "Fixed") rfl)
    g_NoFile := He.glo_ok KX G (c.fact 62 (f := .glo "NoFile") rfl)
    g_Held := He.glo_ok KX G (c.fact 63 (f := .glo "Held") rfl)
    g_NotClosed := He.glo_ok KX G (c.fact 64 (f := .glo "NotClosed") rfl)
    g_NoPicture := He.glo_ok KX G (c.fact 65 (f := .glo "NoPicture") rfl)
    g_NoDeeds := He.glo_ok KX G (c.fact 66 (f := .glo "NoDeeds") rfl)
    g_NoText := He.glo_ok KX G (c.fact 67 (f := .glo "NoText") rfl)
    g_CellError := He.glo_ok KX G (c.fact 68 (f := .glo "CellError") rfl)
    errs := errsB_ok (all_of m1 5)
    tabs := tabsB_ok (all_of m1 6)
    ns_law := He.eqO_ok (c.fact 94 (f := .glo "law") rfl)
    e_Guarded := let z := He.exc_ok (c.fact 185 (f := .exc "Guarded") rfl); ⟨z.1, z.2.1, z.2.2.1, z.2.2.2, He.glo_ok KX G (c.fact 56 (f := .glo "Guarded") rfl)⟩
    e_Held := let z := He.exc_ok (c.fact 186 (f := .exc "Held") rfl); ⟨z.1, z.2.1, z.2.2.1, z.2.2.2, He.glo_ok KX G (c.fact 63 (f := .glo "Held") rfl)⟩
    e_Itself := let z := He.exc_ok (c.fact 187 (f := .exc "Itself") rfl); ⟨z.1, z.2.1, z.2.2.1, z.2.2.2, He.glo_ok KX G (c.fact 51 (f := .glo "Itself") rfl)⟩
    e_NoCell := let z := He.exc_ok (c.fact 188 (f := .exc "NoCell") rfl); ⟨z.1, z.2.1, z.2.2.1, z.2.2.2, He.glo_ok KX G (c.fact 49 (f := .glo "NoCell") rfl)⟩
    e_NoChild := let z := He.exc_ok (c.fact 189 (f := .exc "NoChild") rfl); ⟨z.1, z.2.1, z.2.2.1, z.2.2.2, He.glo_ok KX G (c.fact 58 (f := .glo "NoChild") rfl)⟩
    e_NoGroup := let z := He.exc_ok (c.fact 190 (f := .exc "NoGroup") rfl); ⟨z.1, z.2.1, z.2.2.1, z.2.2.2, He.glo_ok KX G (c.fact 47 (f := .glo "NoGroup") rfl)⟩
    e_NoKinds := let z := He.exc_ok (c.fact 191 (f := .exc "NoKinds") rfl); ⟨z.1, z.2.1, z.2.2.1, z.2.2.2, He.glo_ok KX G (c.fact 45 (f := .glo "NoKinds") rfl)⟩
    e_NoLayers := let z := He.exc_ok (c.fact 192 (f := .exc "NoLayers") rfl); ⟨z.1, z.2.1, z.2.2.1, z.2.2.2, He.glo_ok KX G (c.fact 42 (f := .glo "NoLayers") rfl)⟩
    e_NoMount := let z := He.exc_ok (c.fact 193 (f := .exc "NoMount") rfl); ⟨z.1, z.2.1, z.2.2.1, z.2.2.2, He.glo_ok KX G (c.fact 60 (f := .glo "NoMount") rfl)⟩
    e_NoName := let z := He.exc_ok (c.fact 194 (f := .exc "NoName") rfl); ⟨z.1, z.2.1, z.2.2.1, z.2.2.2, He.glo_ok KX G (c.fact 40 (f := .glo "NoName") rfl)⟩
    e_NoNumber := let z := He.exc_ok (c.fact 195 (f := .exc "NoNumber") rfl); ⟨z.1, z.2.1, z.2.2.1, z.2.2.2, He.glo_ok KX G (c.fact 39 (f := .glo "NoNumber") rfl)⟩
    e_NoPath := let z := He.exc_ok (c.fact 196 (f := .exc "NoPath") rfl); ⟨z.1, z.2.1, z.2.2.1, z.2.2.2, He.glo_ok KX G (c.fact 43 (f := .glo "NoPath") rfl)⟩
    e_NoProcess := let z := He.exc_ok (c.fact 197 (f := .exc "NoProcess") rfl); ⟨z.1, z.2.1, z.2.2.1, z.2.2.2, He.glo_ok KX G (c.fact 46 (f := .glo "NoProcess") rfl)⟩
    e_NotYet := let z := He.exc_ok (c.fact 198 (f := .exc "NotYet") rfl); ⟨z.1, z.2.1, z.2.2.1, z.2.2.2, He.glo_ok KX G (c.fact 59 (f := .glo "NotYet") rfl)⟩
    e_Taken := let z := He.exc_ok (c.fact 199 (f := .exc "Taken") rfl); ⟨z.1, z.2.1, z.2.2.1, z.2.2.2, He.glo_ok KX G (c.fact 50 (f := .glo "Taken") rfl)⟩
    x_Capped := oexB_ok (He.ba (all_of m1 7)).1
    i_Capped := He.eqO_ok (He.ba (He.ba (all_of m1 7)).2).1
    t_Capped := of_decide_eq_true (He.ba (He.ba (all_of m1 7)).2).2
    n_Capped_f := He.noat_ok (c.fact 200 (f := .noat "Capped" "group") rfl)
    d_Capped_init := d_Capped_init
    F_Capped_init := F_Capped_init
    x_Frozen := oexB_ok (He.ba (all_of m1 8)).1
    i_Frozen := He.eqO_ok (He.ba (He.ba (all_of m1 8)).2).1
    t_Frozen := of_decide_eq_true (He.ba (He.ba (all_of m1 8)).2).2
    n_Frozen_f := He.noat_ok (c.fact 201 (f := .noat "Frozen" "group") rfl)
    d_Frozen_init := d_Frozen_init
    F_Frozen_init := F_Frozen_init
    x_Over := oexB_ok (He.ba (all_of m1 9)).1
    i_Over := He.eqO_ok (He.ba (He.ba (all_of m1 9)).2).1
    t_Over := of_decide_eq_true (He.ba (He.ba (all_of m1 9)).2).2
    n_Over_f := He.noat_ok (c.fact 202 (f := .noat "Over" "many") rfl)
    d_Over_init := d_Over_init
    F_Over_init := F_Over_init
    baseI := baseIB_ok (all_of m1 10)
    ne_4 := ⟨of_decide_eq_true (He.ba (all_of m1 11)).1, He.eqO_ok (He.ba (all_of m1 11)).2⟩
    k_0 := He.mkr_ok (c.fact 131 (f := .mkr "Group") rfl)
    k_2 := He.mkr_ok (c.fact 132 (f := .mkr "Numbers") rfl)
    k_3 := He.mkr_ok (c.fact 133 (f := .mkr "Rooms") rfl)
    k_4 := He.mkr_ok (c.fact 134 (f := .mkr "Process") rfl)
    k_1 := He.mkr_ok (c.fact 135 (f := .mkr "Yard") rfl)
    d_Group___init__ := d_Group___init__
    F_Group___init__ := F_Group___init__
    b_Group___init__ := F_Group___init__.bindsN (ps := P_Group___init__) fun _ _ _ _ _ _ us hl => match us, hl with | [_, _, _, _], _ => rfl
    d_Groups___init__ := d_Groups___init__
    F_Groups___init__ := F_Groups___init__
    o_Groups___init__ := offB_ok (all_of m1 2)
    b_Groups___init__ := F_Groups___init__.bindsN (ps := P_Groups___init__) fun _ _ _ _ _ _ us hl => match us, hl with | [_], _ => rfl
    d_Numbers___init__ := d_Numbers___init__
    F_Numbers___init__ := F_Numbers___init__
    b_Numbers___init__ := F_Numbers___init__.bindsN (ps := P_Numbers___init__) fun _ _ _ _ _ _ us hl => match us, hl with | [_, _], _ => rfl
    d_Rooms___init__ := d_Rooms___init__
    F_Rooms___init__ := F_Rooms___init__
    b_Rooms___init__ := F_Rooms___init__.bindsN (ps := P_Rooms___init__) fun _ _ _ _ _ _ us hl => match us, hl with | [_], _ => rfl
    d_Process___init__ := d_Process___init__
    F_Process___init__ := F_Process___init__
    b_Process___init__ := F_Process___init__.bindsN (ps := P_Process___init__) fun _ _ _ _ _ _ us hl => match us, hl with | [_, _, _, _], _ => rfl
    d_Rooms_new_key := d_Rooms_new_key
    F_Rooms_new_key := F_Rooms_new_key
    m_Rooms_new_key := He.meth_ok (c.fact 136 (f := .meth "Rooms" "new_key") rfl)
    b_Rooms_new_key := F_Rooms_new_key.bindsN (ps := P_Rooms_new_key) fun _ _ _ _ _ _ us hl => match us, hl with | [_, _], _ => rfl
    d_Rooms_new_numbers := d_Rooms_new_numbers
    F_Rooms_new_numbers := F_Rooms_new_numbers
    m_Rooms_new_numbers := He.meth_ok (c.fact 137 (f := .meth "Rooms" "new_numbers") rfl)
    b_Rooms_new_numbers := F_Rooms_new_numbers.bindsN (ps := P_Rooms_new_numbers) fun _ _ _ _ _ _ us hl => match us, hl with | [_, _], _ => rfl
    d_Rooms_new_mounts := d_Rooms_new_mounts
    F_Rooms_new_mounts := F_Rooms_new_mounts
    m_Rooms_new_mounts := He.meth_ok (c.fact 138 (f := .meth "Rooms" "new_mounts") rfl)
    b_Rooms_new_mounts := F_Rooms_new_mounts.bindsN (ps := P_Rooms_new_mounts) fun _ _ _ _ _ _ us hl => match us, hl with | [_, _], _ => rfl
    d_Rooms_new_boxes := d_Rooms_new_boxes
    F_Rooms_new_boxes := F_Rooms_new_boxes
    m_Rooms_new_boxes := He.meth_ok (c.fact 139 (f := .meth "Rooms" "new_boxes") rfl)
    b_Rooms_new_boxes := F_Rooms_new_boxes.bindsN (ps := P_Rooms_new_boxes) fun _ _ _ _ _ _ us hl => match us, hl with | [_], _ => rfl
    d_Rooms_rooms_up := d_Rooms_rooms_up
    F_Rooms_rooms_up := F_Rooms_rooms_up
    m_Rooms_rooms_up := He.meth_ok (c.fact 140 (f := .meth "Rooms" "rooms_up") rfl)
    b_Rooms_rooms_up := F_Rooms_rooms_up.bindsN (ps := P_Rooms_rooms_up) fun _ _ _ _ _ _ us hl => match us, hl with | [_, _], _ => rfl
    d_Rooms_number_all := d_Rooms_number_all
    F_Rooms_number_all := F_Rooms_number_all
    m_Rooms_number_all := He.meth_ok (c.fact 141 (f := .meth "Rooms" "number_all") rfl)
    b_Rooms_number_all := F_Rooms_number_all.bindsN (ps := P_Rooms_number_all) fun _ _ _ _ _ _ us hl => match us, hl with | [_, _, _], _ => rfl
    d_Yards_add_process := d_Yards_add_process
    F_Yards_add_process := F_Yards_add_process
    m_Yards_add_process := He.meth_ok (c.fact 142 (f := .meth "Yard" "add_process") rfl)
    b_Yards_add_process := F_Yards_add_process.bindsN (ps := P_Yards_add_process) fun _ _ _ _ _ _ us hl => match us, hl with | [_, _, _, _], _ => rfl
    d_Yards___init__ := d_Yards___init__
    F_Yards___init__ := F_Yards___init__
    o_Yards___init__ := offB_ok (all_of m1 3)
    b_Yards___init__ := F_Yards___init__.bindsN (ps := P_Yards___init__) fun _ _ _ _ _ _ us hl => match us, hl with | [_], _ => rfl
    d_Yard___init__ := d_Yard___init__
    F_Yard___init__ := F_Yard___init__
    b_Yard___init__ := F_Yard___init__.bindsN (ps := P_Yard___init__) fun _ _ _ _ _ _ us hl => match us, hl with | [_], _ => rfl
    d__law_pick := d__law_pick
    F__law_pick := F__law_pick
    g__law_pick := He.glo_ok KX G (c.fact 69 (f := .glo "_law_pick") rfl)
    b__law_pick := F__law_pick.bindsN (ps := P__law_pick) fun _ _ _ _ _ _ us hl => match us, hl with | [_, _, _], _ => rfl
    d_is_name := d_is_name
    F_is_name := F_is_name
    g_is_name := He.glo_ok KX G (c.fact 70 (f := .glo "is_name") rfl)
    b_is_name := F_is_name.bindsN (ps := P_is_name) fun _ _ _ _ _ _ us hl => match us, hl with | [_], _ => rfl
    d_Groups_look_group := d_Groups_look_group
    F_Groups_look_group := F_Groups_look_group
    m_Groups_look_group := He.meth_ok (c.fact 143 (f := .meth "Yard" "look_group") rfl)
    b_Groups_look_group := F_Groups_look_group.bindsN (ps := P_Groups_look_group) fun _ _ _ _ _ _ us hl => match us, hl with | [_, _], _ => rfl
    d_is_whole := d_is_whole
    F_is_whole := F_is_whole
    g_is_whole := He.glo_ok KX G (c.fact 71 (f := .glo "is_whole") rfl)
    b_is_whole := F_is_whole.bindsN (ps := P_is_whole) fun _ _ _ _ _ _ us hl => match us, hl with | [_, _, _], _ => rfl
    d_are_caps := d_are_caps
    F_are_caps := F_are_caps
    g_are_caps := He.glo_ok KX G (c.fact 72 (f := .glo "are_caps") rfl)
    b_are_caps := F_are_caps.bindsN (ps := P_are_caps) fun _ _ _ _ _ _ us hl => match us, hl with | [_], _ => rfl
    d_look_caps := d_look_caps
    F_look_caps := F_look_caps
    g_look_caps := He.glo_ok KX G (c.fact 73 (f := .glo "look_caps") rfl)
    b_look_caps := F_look_caps.bindsN (ps := P_look_caps) fun _ _ _ _ _ _ us hl => match us, hl with | [_], _ => rfl
    d_Groups_look_lowered := d_Groups_look_lowered
    F_Groups_look_lowered := F_Groups_look_lowered
    m_Groups_look_lowered := He.meth_ok (c.fact 144 (f := .meth "Yard" "look_lowered") rfl)
    b_Groups_look_lowered := F_Groups_look_lowered.bindsN (ps := P_Groups_look_lowered) fun _ _ _ _ _ _ us hl => match us, hl with | [_, _, _, _], _ => rfl
    d_Groups_way_up := d_Groups_way_up
    F_Groups_way_up := F_Groups_way_up
    m_Groups_way_up := He.meth_ok (c.fact 145 (f := .meth "Yard" "way_up") rfl)
    b_Groups_way_up := F_Groups_way_up.bindsN (ps := P_Groups_way_up) fun _ _ _ _ _ _ us hl => match us, hl with | [_, _], _ => rfl
    d_Groups_within := d_Groups_within
    F_Groups_within := F_Groups_within
    m_Groups_within := He.meth_ok (c.fact 146 (f := .meth "Yard" "within") rfl)
    b_Groups_within := F_Groups_within.bindsN (ps := P_Groups_within) fun _ _ _ _ _ _ us hl => match us, hl with | [_, _], _ => rfl
    d_Yards_all_of := d_Yards_all_of
    F_Yards_all_of := F_Yards_all_of
    m_Yards_all_of := He.meth_ok (c.fact 147 (f := .meth "Yard" "all_of") rfl)
    b_Yards_all_of := F_Yards_all_of.bindsN (ps := P_Yards_all_of) fun _ _ _ _ _ _ us hl => match us, hl with | [_, _], _ => rfl
    d_Yards_held_heads := d_Yards_held_heads
    F_Yards_held_heads := F_Yards_held_heads
    m_Yards_held_heads := He.meth_ok (c.fact 148 (f := .meth "Yard" "held_heads") rfl)
    b_Yards_held_heads := F_Yards_held_heads.bindsN (ps := P_Yards_held_heads) fun _ _ _ _ _ _ us hl => match us, hl with | [_, _], _ => rfl
    d_Yards_held_units := d_Yards_held_units
    F_Yards_held_units := F_Yards_held_units
    m_Yards_held_units := He.meth_ok (c.fact 149 (f := .meth "Yard" "held_units") rfl)
    b_Yards_held_units := F_Yards_held_units.bindsN (ps := P_Yards_held_units) fun _ _ _ _ _ _ us hl => match us, hl with | [_, _], _ => rfl
    d_Deeds_put_caps := d_Deeds_put_caps
    F_Deeds_put_caps := F_Deeds_put_caps
    m_Deeds_put_caps := He.meth_ok (c.fact 150 (f := .meth "Yard" "put_caps") rfl)
    b_Deeds_put_caps := F_Deeds_put_caps.bindsN (ps := P_Deeds_put_caps) fun _ _ _ _ _ _ us hl => match us, hl with | [_, _, _], _ => rfl
    d_Yard_note := d_Yard_note
    F_Yard_note := F_Yard_note
    m_Yard_note := He.meth_ok (c.fact 151 (f := .meth "Yard" "note") rfl)
    bx_Yard_note_1_deed := bindX0 F_Yard_note 1 ["deed"] [("told", He.Dv.v K (.non))] [0, 2, 1] (by simp [He.DefD.kws, D_Yard_note]) (by simp [He.DefD.kws, D_Yard_note]) fun _ _ _ _ _ _ us mv ws l1 l2 l3 => match us, l1, mv, l2, ws, l3 with | [_], _, [_], _, [_], _ => ⟨_, _, _, _, _, _, rfl, rfl, rfl⟩
    bx_Yard_note_1_told_deed := bindX0 F_Yard_note 1 ["told", "deed"] [] [0, 2, 1] (by simp [He.DefD.kws, D_Yard_note]) (by simp [He.DefD.kws, D_Yard_note]) fun _ _ _ _ _ _ us mv ws l1 l2 l3 => match us, l1, mv, l2, ws, l3 with | [_], _, [], _, [_, _], _ => rfl
    bx_Yard_note_1_deed_told := bindX0 F_Yard_note 1 ["deed", "told"] [] [0, 1, 2] (by simp [He.DefD.kws, D_Yard_note]) (by simp [He.DefD.kws, D_Yard_note]) fun _ _ _ _ _ _ us mv ws l1 l2 l3 => match us, l1, mv, l2, ws, l3 with | [_], _, [], _, [_, _], _ => rfl
    d_Yard_set_caps := d_Yard_set_caps
    F_Yard_set_caps := F_Yard_set_caps
    m_Yard_set_caps := He.meth_ok (c.fact 152 (f := .meth "Yard" "set_caps") rfl)
    bx_Yard_set_caps_2_unit_cap := bindX0 F_Yard_set_caps 2 ["unit_cap"] [("head_cap", He.Dv.v K (.non)), ("turn_cap", He.Dv.v K (.non))] [0, 1, 4, 2, 3] (by simp [He.DefD.kws, D_Yard_set_caps]) (by simp [He.DefD.kws, D_Yard_set_caps]) fun _ _ _ _ _ _ us mv ws l1 l2 l3 => match us, l1, mv, l2, ws, l3 with | [_, _], _, [_, _], _, [_], _ => ⟨_, _, _, _, _, _, rfl, rfl, ⟨_, _, _, _, _, _, rfl, rfl, rfl⟩⟩
    d_look_name := d_look_name
    F_look_name := F_look_name
    g_look_name := He.glo_ok KX G (c.fact 74 (f := .glo "look_name") rfl)
    b_look_name := F_look_name.bindsN (ps := P_look_name) fun _ _ _ _ _ _ us hl => match us, hl with | [_], _ => rfl
    d_is_path := d_is_path
    F_is_path := F_is_path
    g_is_path := He.glo_ok KX G (c.fact 75 (f := .glo "is_path") rfl)
    b_is_path := F_is_path.bindsN (ps := P_is_path) fun _ _ _ _ _ _ us hl => match us, hl with | [_], _ => rfl
    d_are_words := d_are_words
    F_are_words := F_are_words
    g_are_words := He.glo_ok KX G (c.fact 76 (f := .glo "are_words") rfl)
    b_are_words := F_are_words.bindsN (ps := P_are_words) fun _ _ _ _ _ _ us hl => match us, hl with | [_], _ => rfl
    d_is_file := d_is_file
    F_is_file := F_is_file
    g_is_file := He.glo_ok KX G (c.fact 77 (f := .glo "is_file") rfl)
    b_is_file := F_is_file.bindsN (ps := P_is_file) fun _ _ _ _ _ _ us hl => match us, hl with | [_], _ => rfl
    d_is_layer := d_is_layer
    F_is_layer := F_is_layer
    g_is_layer := He.glo_ok KX G (c.fact 78 (f := .glo "is_layer") rfl)
    b_is_layer := F_is_layer.bindsN (ps := P_is_layer) fun _ _ _ _ _ _ us hl => match us, hl with | [_], _ => rfl
    d_are_layers := d_are_layers
    F_are_layers := F_are_layers
    g_are_layers := He.glo_ok KX G (c.fact 79 (f := .glo "are_layers") rfl)
    b_are_layers := F_are_layers.bindsN (ps := P_are_layers) fun _ _ _ _ _ _ us hl => match us, hl with | [_], _ => rfl
    d_look_layers := d_look_layers
    F_look_layers := F_look_layers
    g_look_layers := He.glo_ok KX G (c.fact 80 (f := .glo "look_layers") rfl)
    b_look_layers := F_look_layers.bindsN (ps := P_look_layers) fun _ _ _ _ _ _ us hl => match us, hl with | [_], _ => rfl
    d_look_whole := d_look_whole
    F_look_whole := F_look_whole
    g_look_whole := He.glo_ok KX G (c.fact 81 (f := .glo "look_whole") rfl)
    b_look_whole := F_look_whole.bindsN (ps := P_look_whole) fun _ _ _ _ _ _ us hl => match us, hl with | [_, _, _], _ => rfl
    d_Yard_look_new_cell := d_Yard_look_new_cell
    F_Yard_look_new_cell := F_Yard_look_new_cell
    m_Yard_look_new_cell := He.meth_ok (c.fact 153 (f := .meth "Yard" "look_new_cell") rfl)
    b_Yard_look_new_cell := F_Yard_look_new_cell.bindsN (ps := P_Yard_look_new_cell) fun _ _ _ _ _ _ us hl => match us, hl with | [_, _], _ => rfl
    d_Groups_barred := d_Groups_barred
    F_Groups_barred := F_Groups_barred
    m_Groups_barred := He.meth_ok (c.fact 154 (f := .meth "Yard" "barred") rfl)
    b_Groups_barred := F_Groups_barred.bindsN (ps := P_Groups_barred) fun _ _ _ _ _ _ us hl => match us, hl with | [_, _, _, _, _], _ => rfl
    d_Yards_look_heads := d_Yards_look_heads
    F_Yards_look_heads := F_Yards_look_heads
    m_Yards_look_heads := He.meth_ok (c.fact 155 (f := .meth "Yard" "look_heads") rfl)
    b_Yards_look_heads := F_Yards_look_heads.bindsN (ps := P_Yards_look_heads) fun _ _ _ _ _ _ us hl => match us, hl with | [_, _, _], _ => rfl
    d_Groups_add_group := d_Groups_add_group
    F_Groups_add_group := F_Groups_add_group
    m_Groups_add_group := He.meth_ok (c.fact 156 (f := .meth "Yard" "add_group") rfl)
    b_Groups_add_group := F_Groups_add_group.bindsN (ps := P_Groups_add_group) fun _ _ _ _ _ _ us hl => match us, hl with | [_, _, _, _, _], _ => rfl
    d_flat_of := d_flat_of
    F_flat_of := F_flat_of
    g_flat_of := He.glo_ok KX G (c.fact 82 (f := .glo "flat_of") rfl)
    b_flat_of := F_flat_of.bindsN (ps := P_flat_of) fun _ _ _ _ _ _ us hl => match us, hl with | [_], _ => rfl
    d_Deeds_make_store := d_Deeds_make_store
    F_Deeds_make_store := F_Deeds_make_store
    m_Deeds_make_store := He.meth_ok (c.fact 157 (f := .meth "Yard" "make_store") rfl)
    b_Deeds_make_store := F_Deeds_make_store.bindsN (ps := P_Deeds_make_store) fun _ _ _ _ _ _ us hl => match us, hl with | [_, _, _], _ => rfl
    d_Yard_open_cell := d_Yard_open_cell
    F_Yard_open_cell := F_Yard_open_cell
    m_Yard_open_cell := He.meth_ok (c.fact 158 (f := .meth "Yard" "open_cell") rfl)
    bx_Yard_open_cell_3 := bindX0 F_Yard_open_cell 3 [] [("heft", He.Dv.v K (.int 1)), ("unit_cap", He.Dv.v K (.non)), ("head_cap", He.Dv.v K (.non)), ("turn_cap", He.Dv.v K (.non))] [0, 1, 2, 3, 4, 5, 6] (by simp [He.DefD.kws, D_Yard_open_cell]) (by simp [He.DefD.kws, D_Yard_open_cell]) fun _ _ _ _ _ _ us mv ws l1 l2 l3 => match us, l1, mv, l2, ws, l3 with | [_, _, _], _, [_, _, _, _], _, [], _ => ⟨_, _, _, _, _, _, rfl, rfl, ⟨_, _, _, _, _, _, rfl, rfl, ⟨_, _, _, _, _, _, rfl, rfl, ⟨_, _, _, _, _, _, rfl, rfl, rfl⟩⟩⟩⟩
    d_Yards_look_process := d_Yards_look_process
    F_Yards_look_process := F_Yards_look_process
    m_Yards_look_process := He.meth_ok (c.fact 159 (f := .meth "Yard" "look_process") rfl)
    b_Yards_look_process := F_Yards_look_process.bindsN (ps := P_Yards_look_process) fun _ _ _ _ _ _ us hl => match us, hl with | [_, _], _ => rfl
    d_Groups_cold_by := d_Groups_cold_by
    F_Groups_cold_by := F_Groups_cold_by
    m_Groups_cold_by := He.meth_ok (c.fact 160 (f := .meth "Yard" "cold_by") rfl)
    b_Groups_cold_by := F_Groups_cold_by.bindsN (ps := P_Groups_cold_by) fun _ _ _ _ _ _ us hl => match us, hl with | [_, _], _ => rfl
    d_Yards_look_actor := d_Yards_look_actor
    F_Yards_look_actor := F_Yards_look_actor
    m_Yards_look_actor := He.meth_ok (c.fact 161 (f := .meth "Yard" "look_actor") rfl)
    b_Yards_look_actor := F_Yards_look_actor.bindsN (ps := P_Yards_look_actor) fun _ _ _ _ _ _ us hl => match us, hl with | [_, _], _ => rfl
    d_are_kinds := d_are_kinds
    F_are_kinds := F_are_kinds
    g_are_kinds := He.glo_ok KX G (c.fact 83 (f := .glo "are_kinds") rfl)
    b_are_kinds := F_are_kinds.bindsN (ps := P_are_kinds) fun _ _ _ _ _ _ us hl => match us, hl with | [_], _ => rfl
    d_Deeds_make_process := d_Deeds_make_process
    F_Deeds_make_process := F_Deeds_make_process
    m_Deeds_make_process := He.meth_ok (c.fact 162 (f := .meth "Yard" "make_process") rfl)
    b_Deeds_make_process := F_Deeds_make_process.bindsN (ps := P_Deeds_make_process) fun _ _ _ _ _ _ us hl => match us, hl with | [_, _, _], _ => rfl
    d_Yard_spawn := d_Yard_spawn
    F_Yard_spawn := F_Yard_spawn
    m_Yard_spawn := He.meth_ok (c.fact 163 (f := .meth "Yard" "spawn") rfl)
    bx_Yard_spawn_2_fresh := bindX0 F_Yard_spawn 2 ["fresh"] [] [0, 1, 2] (by simp [He.DefD.kws, D_Yard_spawn]) (by simp [He.DefD.kws, D_Yard_spawn]) fun _ _ _ _ _ _ us mv ws l1 l2 l3 => match us, l1, mv, l2, ws, l3 with | [_, _], _, [], _, [_], _ => rfl
    bx_Yard_spawn_2 := bindX0 F_Yard_spawn 2 [] [("fresh", He.Dv.v K (.adr (kwdAt ("Yard", some "spawn") "fresh")))] [0, 1, 2] (by simp [He.DefD.kws, D_Yard_spawn]) (by simp [He.DefD.kws, D_Yard_spawn]) fun _ _ _ _ _ _ us mv ws l1 l2 l3 => match us, l1, mv, l2, ws, l3 with | [_, _], _, [_], _, [], _ => ⟨_, _, _, _, _, _, rfl, rfl, rfl⟩
    z_Yard_spawn_fresh := nilB_ok (all_of m1 4)
    d_Yard_make_group := d_Yard_make_group
    F_Yard_make_group := F_Yard_make_group
    m_Yard_make_group := He.meth_ok (c.fact 164 (f := .meth "Yard" "make_group") rfl)
    bx_Yard_make_group_3 := bindX0 F_Yard_make_group 3 [] [("heft", He.Dv.v K (.int 1)), ("unit_cap", He.Dv.v K (.non)), ("head_cap", He.Dv.v K (.non)), ("turn_cap", He.Dv.v K (.non))] [0, 1, 2, 3, 4, 5, 6] (by simp [He.DefD.kws, D_Yard_make_group]) (by simp [He.DefD.kws, D_Yard_make_group]) fun _ _ _ _ _ _ us mv ws l1 l2 l3 => match us, l1, mv, l2, ws, l3 with | [_, _, _], _, [_, _, _, _], _, [], _ => ⟨_, _, _, _, _, _, rfl, rfl, ⟨_, _, _, _, _, _, rfl, rfl, ⟨_, _, _, _, _, _, rfl, rfl, ⟨_, _, _, _, _, _, rfl, rfl, rfl⟩⟩⟩⟩
    d_Yards_look_units := d_Yards_look_units
    F_Yards_look_units := F_Yards_look_units
    m_Yards_look_units := He.meth_ok (c.fact 165 (f := .meth "Yard" "look_units") rfl)
    b_Yards_look_units := F_Yards_look_units.bindsN (ps := P_Yards_look_units) fun _ _ _ _ _ _ us hl => match us, hl with | [_, _, _], _ => rfl
    d_Deeds_put_group := d_Deeds_put_group
    F_Deeds_put_group := F_Deeds_put_group
    m_Deeds_put_group := He.meth_ok (c.fact 166 (f := .meth "Yard" "put_group") rfl)
    b_Deeds_put_group := F_Deeds_put_group.bindsN (ps := P_Deeds_put_group) fun _ _ _ _ _ _ us hl => match us, hl with | [_, _, _], _ => rfl
    d_Yard_move := d_Yard_move
    F_Yard_move := F_Yard_move
    m_Yard_move := He.meth_ok (c.fact 167 (f := .meth "Yard" "move") rfl)
    b_Yard_move := F_Yard_move.bindsN (ps := P_Yard_move) fun _ _ _ _ _ _ us hl => match us, hl with | [_, _, _], _ => rfl
    d_look_path := d_look_path
    F_look_path := F_look_path
    g_look_path := He.glo_ok KX G (c.fact 84 (f := .glo "look_path") rfl)
    b_look_path := F_look_path.bindsN (ps := P_look_path) fun _ _ _ _ _ _ us hl => match us, hl with | [_], _ => rfl
    d_Deeds_drop_mount := d_Deeds_drop_mount
    F_Deeds_drop_mount := F_Deeds_drop_mount
    m_Deeds_drop_mount := He.meth_ok (c.fact 168 (f := .meth "Yard" "drop_mount") rfl)
    b_Deeds_drop_mount := F_Deeds_drop_mount.bindsN (ps := P_Deeds_drop_mount) fun _ _ _ _ _ _ us hl => match us, hl with | [_, _, _], _ => rfl
    d_Yard_unmount := d_Yard_unmount
    F_Yard_unmount := F_Yard_unmount
    m_Yard_unmount := He.meth_ok (c.fact 169 (f := .meth "Yard" "unmount") rfl)
    b_Yard_unmount := F_Yard_unmount.bindsN (ps := P_Yard_unmount) fun _ _ _ _ _ _ us hl => match us, hl with | [_, _, _], _ => rfl
    d_Deeds_add_units := d_Deeds_add_units
    F_Deeds_add_units := F_Deeds_add_units
    m_Deeds_add_units := He.meth_ok (c.fact 170 (f := .meth "Yard" "add_units") rfl)
    b_Deeds_add_units := F_Deeds_add_units.bindsN (ps := P_Deeds_add_units) fun _ _ _ _ _ _ us hl => match us, hl with | [_, _, _], _ => rfl
    d_Yard_grow := d_Yard_grow
    F_Yard_grow := F_Yard_grow
    m_Yard_grow := He.meth_ok (c.fact 171 (f := .meth "Yard" "grow") rfl)
    b_Yard_grow := F_Yard_grow.bindsN (ps := P_Yard_grow) fun _ _ _ _ _ _ us hl => match us, hl with | [_, _, _], _ => rfl
    d_Yard_look_cell := d_Yard_look_cell
    F_Yard_look_cell := F_Yard_look_cell
    m_Yard_look_cell := He.meth_ok (c.fact 172 (f := .meth "Yard" "look_cell") rfl)
    b_Yard_look_cell := F_Yard_look_cell.bindsN (ps := P_Yard_look_cell) fun _ _ _ _ _ _ us hl => match us, hl with | [_, _], _ => rfl
    d_Yards_list_processes := d_Yards_list_processes
    F_Yards_list_processes := F_Yards_list_processes
    m_Yards_list_processes := He.meth_ok (c.fact 173 (f := .meth "Yard" "list_processes") rfl)
    b_Yards_list_processes := F_Yards_list_processes.bindsN (ps := P_Yards_list_processes) fun _ _ _ _ _ _ us hl => match us, hl with | [_], _ => rfl
    d_Yard___len__ := d_Yard___len__
    F_Yard___len__ := F_Yard___len__
    m_Yard___len__ := He.meth_ok (c.fact 174 (f := .meth "Yard" "__len__") rfl)
    b_Yard___len__ := F_Yard___len__.bindsN (ps := P_Yard___len__) fun _ _ _ _ _ _ us hl => match us, hl with | [_], _ => rfl
    d_Yards_heir_of := d_Yards_heir_of
    F_Yards_heir_of := F_Yards_heir_of
    m_Yards_heir_of := He.meth_ok (c.fact 175 (f := .meth "Yard" "heir_of") rfl)
    b_Yards_heir_of := F_Yards_heir_of.bindsN (ps := P_Yards_heir_of) fun _ _ _ _ _ _ us hl => match us, hl with | [_, _], _ => rfl
    d_Yards_young_of := d_Yards_young_of
    F_Yards_young_of := F_Yards_young_of
    m_Yards_young_of := He.meth_ok (c.fact 176 (f := .meth "Yard" "young_of") rfl)
    b_Yards_young_of := F_Yards_young_of.bindsN (ps := P_Yards_young_of) fun _ _ _ _ _ _ us hl => match us, hl with | [_, _], _ => rfl
    d_Yards_drop_process := d_Yards_drop_process
    F_Yards_drop_process := F_Yards_drop_process
    m_Yards_drop_process := He.meth_ok (c.fact 177 (f := .meth "Yard" "drop_process") rfl)
    b_Yards_drop_process := F_Yards_drop_process.bindsN (ps := P_Yards_drop_process) fun _ _ _ _ _ _ us hl => match us, hl with | [_, _], _ => rfl
    d_Yards_put_end := d_Yards_put_end
    F_Yards_put_end := F_Yards_put_end
    m_Yards_put_end := He.meth_ok (c.fact 178 (f := .meth "Yard" "put_end") rfl)
    b_Yards_put_end := F_Yards_put_end.bindsN (ps := P_Yards_put_end) fun _ _ _ _ _ _ us hl => match us, hl with | [_, _, _], _ => rfl
    d_Rooms_lies_in := d_Rooms_lies_in
    F_Rooms_lies_in := F_Rooms_lies_in
    m_Rooms_lies_in := He.meth_ok (c.fact 179 (f := .meth "Rooms" "lies_in") rfl)
    b_Rooms_lies_in := F_Rooms_lies_in.bindsN (ps := P_Rooms_lies_in) fun _ _ _ _ _ _ us hl => match us, hl with | [_, _, _], _ => rfl
    d_Rooms_sweep := d_Rooms_sweep
    F_Rooms_sweep := F_Rooms_sweep
    m_Rooms_sweep := He.meth_ok (c.fact 180 (f := .meth "Rooms" "sweep") rfl)
    b_Rooms_sweep := F_Rooms_sweep.bindsN (ps := P_Rooms_sweep) fun _ _ _ _ _ _ us hl => match us, hl with | [_, _], _ => rfl
    d_Yards_end_room := d_Yards_end_room
    F_Yards_end_room := F_Yards_end_room
    m_Yards_end_room := He.meth_ok (c.fact 181 (f := .meth "Yard" "end_room") rfl)
    b_Yards_end_room := F_Yards_end_room.bindsN (ps := P_Yards_end_room) fun _ _ _ _ _ _ us hl => match us, hl with | [_, _, _], _ => rfl
    d_Yard_close_cell := d_Yard_close_cell
    F_Yard_close_cell := F_Yard_close_cell
    m_Yard_close_cell := He.meth_ok (c.fact 182 (f := .meth "Yard" "close_cell") rfl)
    b_Yard_close_cell := F_Yard_close_cell.bindsN (ps := P_Yard_close_cell) fun _ _ _ _ _ _ us hl => match us, hl with | [_, _], _ => rfl
    d_processes := d_processes
    F_processes := F_processes
    g_processes := He.glo_ok KX G (c.fact 85 (f := .glo "processes") rfl)
    b_processes := F_processes.bindsN (ps := P_processes) fun _ _ _ _ _ _ us hl => match us, hl with | [_], _ => rfl
    d_ended := d_ended
    F_ended := F_ended
    g_ended := He.glo_ok KX G (c.fact 86 (f := .glo "ended") rfl)
    b_ended := F_ended.bindsN (ps := P_ended) fun _ _ _ _ _ _ us hl => match us, hl with | [_], _ => rfl
    d_charges := d_charges
    F_charges := F_charges
    g_charges := He.glo_ok KX G (c.fact 87 (f := .glo "charges") rfl)
    b_charges := F_charges.bindsN (ps := P_charges) fun _ _ _ _ _ _ us hl => match us, hl with | [_, _], _ => rfl
    d_groups := d_groups
    F_groups := F_groups
    g_groups := He.glo_ok KX G (c.fact 88 (f := .glo "groups") rfl)
    b_groups := F_groups.bindsN (ps := P_groups) fun _ _ _ _ _ _ us hl => match us, hl with | [_], _ => rfl
    d_stores := d_stores
    F_stores := F_stores
    g_stores := He.glo_ok KX G (c.fact 89 (f := .glo "stores") rfl)
    b_stores := F_stores.bindsN (ps := P_stores) fun _ _ _ _ _ _ us hl => match us, hl with | [_], _ => rfl
    d_cells := d_cells
    F_cells := F_cells
    g_cells := He.glo_ok KX G (c.fact 90 (f := .glo "cells") rfl)
    b_cells := F_cells.bindsN (ps := P_cells) fun _ _ _ _ _ _ us hl => match us, hl with | [_], _ => rfl
    d_rooms := d_rooms
    F_rooms := F_rooms
    g_rooms := He.glo_ok KX G (c.fact 91 (f := .glo "rooms") rfl)
    b_rooms := F_rooms.bindsN (ps := P_rooms) fun _ _ _ _ _ _ us hl => match us, hl with | [_], _ => rfl
    d__law_class := d__law_class
    F__law_class := F__law_class
    g__law_class := He.glo_ok KX G (c.fact 92 (f := .glo "_law_class") rfl)
    b__law_class := F__law_class.bindsN (ps := P__law_class) fun _ _ _ _ _ _ us hl => match us, hl with | [_], _ => rfl
    d__law_told := d__law_told
    F__law_told := F__law_told
    g__law_told := He.glo_ok KX G (c.fact 93 (f := .glo "_law_told") rfl)
    b__law_told := F__law_told.bindsN (ps := P__law_told) fun _ _ _ _ _ _ us hl => match us, hl with | [_], _ => rfl
    d_Deeds_wait_for := d_Deeds_wait_for
    F_Deeds_wait_for := F_Deeds_wait_for
    m_Deeds_wait_for := He.meth_ok (c.fact 183 (f := .meth "Yard" "wait_for") rfl)
    b_Deeds_wait_for := F_Deeds_wait_for.bindsN (ps := P_Deeds_wait_for) fun _ _ _ _ _ _ us hl => match us, hl with | [_, _], _ => rfl
    d_Yard_wait := d_Yard_wait
    F_Yard_wait := F_Yard_wait
    m_Yard_wait := He.meth_ok (c.fact 184 (f := .meth "Yard" "wait") rfl)
    b_Yard_wait := F_Yard_wait.bindsN (ps := P_Yard_wait) fun _ _ _ _ _ _ us hl => match us, hl with | [_, _], _ => rfl
    d_law := d_law
    F_law := F_law
    g_law := He.glo_ok KX G (c.fact 94 (f := .glo "law") rfl)
    b_law := F_law.bindsN (ps := P_law) fun _ _ _ _ _ _ us hl => match us, hl with | [_], _ => rfl
    }⟩
theorem facts {l : PySem.W.OpenLaw} {w : World} {K : PySem.W.Frag} {h : Heap} {mg mB : Str → Option Value} {mean : ExcName → Option Value} {f : Addr} {q : Program} {lo : List Str} (X : K.In h) (G : PyProof.Rows.Top q lo mean mg mB h) (hfa : mg ("law" : Str) = some (.ref f)) (c : SaysI fa fns mb K) (hr : (lamL.all fun x => ((recsOf q).find? fun e => e.name == x).isSome) = true)
    (yes : ∀ ns : List Int, ns.length ≤ 63 → ∃ W : Way, W.ns = ns ∧ ∃ h', f_law (stub W.t) [.scr (ns.map D.int)] h0 = .ok (.bl true) h') : LamX.LawAtS l w K CX0 9 63 "_law_script" mg f h := by
  obtain ⟨T⟩ := tx X G.g c
  have e := hfa.symm.trans T.g_law
  cases e
  have b := FunD.bindsA (ps := P_law) T.F_law fun _ _ _ _ _ _ us hl => match us, hl with | [_], _ => rfl
  exact lawAtS (ι := Way) (ds := lamL) (cl := fun W => cl K (W.ns.map D.int)) (f := fun W => f_law (stub W.t)) G X T.tabs hr (fun _ => rfl) (fun s v => b s [v] rfl) (fun ns hn => by
    obtain ⟨W, e, y⟩ := yes ns hn
    exact ⟨W, fun l z => (by cases z; rw [e]), y⟩) fun W base _ _ TB => calmL (ok_law T TB (ok_stub W rfl (ok__law_pick T TB)))
theorem holds (yes : ∀ ns : List Int, ns.length ≤ 63 → ∃ W : Way, W.ns = ns ∧ ∃ h', f_law (stub W.t) [.scr (ns.map D.int)] h0 = .ok (.bl true) h') : PySem.Challenge.rw_cellyard_k48_whole_closed_with_others.Holds := by
  w_on; o_law
  refine HandSHeadRun.head_any (r := PySem.W.OpenLaw.row PySem.Challenge.rw_cellyard_k48_whole_closed_with_others) (q := PySem.W.view (PySem.W.OpenLaw.row PySem.Challenge.rw_cellyard_k48_whole_closed_with_others).prog [98]) (H := hk) (ob := obI 3 fa fns mb) (M := 40000) (loose := loose) (d := HandSHeadRun.topDef (PySem.W.OpenLaw.row PySem.Challenge.rw_cellyard_k48_whole_closed_with_others).prog 98) (kwd := []) obI_eq
    (by kernel_rfl) (fun s => by kernel_rfl) run (by kernel_rfl) (by kernel_rfl) (by kernel_rfl) (by rfl) (by first | assumption | decide +kernel) (by decide +kernel) ⟨rfl, rfl, rfl, rfl, rfl, by decide +kernel⟩ ?hw ?hc
  case hw => w_witness2
  case hc =>
    refine walk_tab (l := PySem.Challenge.rw_cellyard_k48_whole_closed_with_others) (n := 63) (k := 9) (x := "_law_script") (CX := fun _ => L2.CX0) rfl (by decide) (by kernel_rfl) ⟨rfl, by decide, by decide⟩ ?F (fun _ _ _ _ _ z => z)
    intro w mg mb mean fa h Y G hmg0
    obtain ⟨K, KX, c⟩ := Y
    have hmg : mg ("law" : PySem.Str) = some (.ref fa) := by
      have e : (HandSHeadRun.topDef (PySem.W.OpenLaw.row PySem.Challenge.rw_cellyard_k48_whole_closed_with_others).prog 98).name = ("law" : PySem.Str) := by kernel_rfl
      rw [← e]
      exact hmg0
    exact ⟨K, KX, facts KX G hmg c (by kernel_rfl) yes⟩
end K48

namespace K48
open IP
noncomputable def way (xs : List D) (t : List (Int × Int × Int)) : IP.R D := f_law (stub t) [.scr xs] h0
def isYes : IP.R D → Bool
  | .ok (.bl true) _ => true
  | _ => false
theorem isYes_of {r : IP.R D} (e : isYes r = true) : ∃ h, r = .ok (.bl true) h := by
  unfold isYes at e
  split at e
  · exact ⟨_, rfl⟩
  · cases e
def tw_0_0_0 : List (List (Int × Int × Int)) := [[(0, 3, 0), (1, 3, 0), (2, 3, 0), (3, 3, 0)],
  [(0, 3, 0), (1, 3, 0), (2, 3, 0), (3, 3, 1)],
  [(0, 3, 0), (1, 3, 0), (2, 3, 0), (3, 3, 2)]]
theorem w_0_0_0 (xs : List D) : (tw_0_0_0.all fun t => isYes (way xs t)) = true := by kernel_rfl
def tw_0_0_1 : List (List (Int × Int × Int)) := [[(0, 3, 0), (1, 3, 0), (2, 3, 1), (3, 3, 0)],
  [(0, 3, 0), (1, 3, 0), (2, 3, 1), (3, 3, 1)],
  [(0, 3, 0), (1, 3, 0), (2, 3, 1), (3, 3, 2)]]
theorem w_0_0_1 (xs : List D) : (tw_0_0_1.all fun t => isYes (way xs t)) = true := by kernel_rfl
def tw_0_0_2 : List (List (Int × Int × Int)) := [[(0, 3, 0), (1, 3, 0), (2, 3, 2), (3, 3, 0)],
  [(0, 3, 0), (1, 3, 0), (2, 3, 2), (3, 3, 1)],
  [(0, 3, 0), (1, 3, 0), (2, 3, 2), (3, 3, 2)]]
theorem w_0_0_2 (xs : List D) : (tw_0_0_2.all fun t => isYes (way xs t)) = true := by kernel_rfl
def tw_0_1_0 : List (List (Int × Int × Int)) := [[(0, 3, 0), (1, 3, 1), (2, 3, 0), (3, 3, 0)],
  [(0, 3, 0), (1, 3, 1), (2, 3, 0), (3, 3, 1)],
  [(0, 3, 0), (1, 3, 1), (2, 3, 0), (3, 3, 2)]]
theorem w_0_1_0 (xs : List D) : (tw_0_1_0.all fun t => isYes (way xs t)) = true := by kernel_rfl
def tw_0_1_1 : List (List (Int × Int × Int)) := [[(0, 3, 0), (1, 3, 1), (2, 3, 1), (3, 3, 0)],
  [(0, 3, 0), (1, 3, 1), (2, 3, 1), (3, 3, 1)],
  [(0, 3, 0), (1, 3, 1), (2, 3, 1), (3, 3, 2)]]
theorem w_0_1_1 (xs : List D) : (tw_0_1_1.all fun t => isYes (way xs t)) = true := by kernel_rfl
def tw_0_1_2 : List (List (Int × Int × Int)) := [[(0, 3, 0), (1, 3, 1), (2, 3, 2), (3, 3, 0)],
  [(0, 3, 0), (1, 3, 1), (2, 3, 2), (3, 3, 1)],
  [(0, 3, 0), (1, 3, 1), (2, 3, 2), (3, 3, 2)]]
theorem w_0_1_2 (xs : List D) : (tw_0_1_2.all fun t => isYes (way xs t)) = true := by kernel_rfl
def tw_0_2_0 : List (List (Int × Int × Int)) := [[(0, 3, 0), (1, 3, 2), (2, 3, 0), (3, 3, 0)],
  [(0, 3, 0), (1, 3, 2), (2, 3, 0), (3, 3, 1)],
  [(0, 3, 0), (1, 3, 2), (2, 3, 0), (3, 3, 2)]]
theorem w_0_2_0 (xs : List D) : (tw_0_2_0.all fun t => isYes (way xs t)) = true := by kernel_rfl
def tw_0_2_1 : List (List (Int × Int × Int)) := [[(0, 3, 0), (1, 3, 2), (2, 3, 1), (3, 3, 0)],
  [(0, 3, 0), (1, 3, 2), (2, 3, 1), (3, 3, 1)],
  [(0, 3, 0), (1, 3, 2), (2, 3, 1), (3, 3, 2)]]
theorem w_0_2_1 (xs : List D) : (tw_0_2_1.all fun t => isYes (way xs t)) = true := by kernel_rfl
def tw_0_2_2 : List (List (Int × Int × Int)) := [[(0, 3, 0), (1, 3, 2), (2, 3, 2), (3, 3, 0)],
  [(0, 3, 0), (1, 3, 2), (2, 3, 2), (3, 3, 1)],
  [(0, 3, 0), (1, 3, 2), (2, 3, 2), (3, 3, 2)]]
theorem w_0_2_2 (xs : List D) : (tw_0_2_2.all fun t => isYes (way xs t)) = true := by kernel_rfl
def tw_1_0_0 : List (List (Int × Int × Int)) := [[(0, 3, 1), (1, 3, 0), (2, 3, 0), (3, 3, 0)],
  [(0, 3, 1), (1, 3, 0), (2, 3, 0), (3, 3, 1)],
  [(0, 3, 1), (1, 3, 0), (2, 3, 0), (3, 3, 2)]]
theorem w_1_0_0 (xs : List D) : (tw_1_0_0.all fun t => isYes (way xs t)) = true := by kernel_rfl
def tw_1_0_1 : List (List (Int × Int × Int)) := [[(0, 3, 1), (1, 3, 0), (2, 3, 1), (3, 3, 0)],
  [(0, 3, 1), (1, 3, 0), (2, 3, 1), (3, 3, 1)],
  [(0, 3, 1), (1, 3, 0), (2, 3, 1), (3, 3, 2)]]
theorem w_1_0_1 (xs : List D) : (tw_1_0_1.all fun t => isYes (way xs t)) = true := by kernel_rfl
def tw_1_0_2 : List (List (Int × Int × Int)) := [[(0, 3, 1), (1, 3, 0), (2, 3, 2), (3, 3, 0)],
  [(0, 3, 1), (1, 3, 0), (2, 3, 2), (3, 3, 1)],
  [(0, 3, 1), (1, 3, 0), (2, 3, 2), (3, 3, 2)]]
theorem w_1_0_2 (xs : List D) : (tw_1_0_2.all fun t => isYes (way xs t)) = true := by kernel_rfl
def tw_1_1_0 : List (List (Int × Int × Int)) := [[(0, 3, 1), (1, 3, 1), (2, 3, 0), (3, 3, 0)],
  [(0, 3, 1), (1, 3, 1), (2, 3, 0), (3, 3, 1)],
  [(0, 3, 1), (1, 3, 1), (2, 3, 0), (3, 3, 2)]]
theorem w_1_1_0 (xs : List D) : (tw_1_1_0.all fun t => isYes (way xs t)) = true := by kernel_rfl
def tw_1_1_1 : List (List (Int × Int × Int)) := [[(0, 3, 1), (1, 3, 1), (2, 3, 1), (3, 3, 0)],
  [(0, 3, 1), (1, 3, 1), (2, 3, 1), (3, 3, 1)],
  [(0, 3, 1), (1, 3, 1), (2, 3, 1), (3, 3, 2)]]
theorem w_1_1_1 (xs : List D) : (tw_1_1_1.all fun t => isYes (way xs t)) = true := by kernel_rfl
def tw_1_1_2 : List (List (Int × Int × Int)) := [[(0, 3, 1), (1, 3, 1), (2, 3, 2), (3, 3, 0)],
  [(0, 3, 1), (1, 3, 1), (2, 3, 2), (3, 3, 1)],
  [(0, 3, 1), (1, 3, 1), (2, 3, 2), (3, 3, 2)]]
theorem w_1_1_2 (xs : List D) : (tw_1_1_2.all fun t => isYes (way xs t)) = true := by kernel_rfl
def tw_1_2_0 : List (List (Int × Int × Int)) := [[(0, 3, 1), (1, 3, 2), (2, 3, 0), (3, 3, 0)],
  [(0, 3, 1), (1, 3, 2), (2, 3, 0), (3, 3, 1)],
  [(0, 3, 1), (1, 3, 2), (2, 3, 0), (3, 3, 2)]]
theorem w_1_2_0 (xs : List D) : (tw_1_2_0.all fun t => isYes (way xs t)) = true := by kernel_rfl
def tw_1_2_1 : List (List (Int × Int × Int)) := [[(0, 3, 1), (1, 3, 2), (2, 3, 1), (3, 3, 0)],
  [(0, 3, 1), (1, 3, 2), (2, 3, 1), (3, 3, 1)],
  [(0, 3, 1), (1, 3, 2), (2, 3, 1), (3, 3, 2)]]
theorem w_1_2_1 (xs : List D) : (tw_1_2_1.all fun t => isYes (way xs t)) = true := by kernel_rfl
def tw_1_2_2 : List (List (Int × Int × Int)) := [[(0, 3, 1), (1, 3, 2), (2, 3, 2), (3, 3, 0)],
  [(0, 3, 1), (1, 3, 2), (2, 3, 2), (3, 3, 1)],
  [(0, 3, 1), (1, 3, 2), (2, 3, 2), (3, 3, 2)]]
theorem w_1_2_2 (xs : List D) : (tw_1_2_2.all fun t => isYes (way xs t)) = true := by kernel_rfl
def tw_2_0_0 : List (List (Int × Int × Int)) := [[(0, 3, 2), (1, 3, 0), (2, 3, 0), (3, 3, 0)],
  [(0, 3, 2), (1, 3, 0), (2, 3, 0), (3, 3, 1)],
  [(0, 3, 2), (1, 3, 0), (2, 3, 0), (3, 3, 2)]]
theorem w_2_0_0 (xs : List D) : (tw_2_0_0.all fun t => isYes (way xs t)) = true := by kernel_rfl
def tw_2_0_1 : List (List (Int × Int × Int)) := [[(0, 3, 2), (1, 3, 0), (2, 3, 1), (3, 3, 0)],
  [(0, 3, 2), (1, 3, 0), (2, 3, 1), (3, 3, 1)],
  [(0, 3, 2), (1, 3, 0), (2, 3, 1), (3, 3, 2)]]
theorem w_2_0_1 (xs : List D) : (tw_2_0_1.all fun t => isYes (way xs t)) = true := by kernel_rfl
def tw_2_0_2 : List (List (Int × Int × Int)) := [[(0, 3, 2), (1, 3, 0), (2, 3, 2), (3, 3, 0)],
  [(0, 3, 2), (1, 3, 0), (2, 3, 2), (3, 3, 1)],
  [(0, 3, 2), (1, 3, 0), (2, 3, 2), (3, 3, 2)]]
theorem w_2_0_2 (xs : List D) : (tw_2_0_2.all fun t => isYes (way xs t)) = true := by kernel_rfl
def tw_2_1_0 : List (List (Int × Int × Int)) := [[(0, 3, 2), (1, 3, 1), (2, 3, 0), (3, 3, 0)],
  [(0, 3, 2), (1, 3, 1), (2, 3, 0), (3, 3, 1)],
  [(0, 3, 2), (1, 3, 1), (2, 3, 0), (3, 3, 2)]]
theorem w_2_1_0 (xs : List D) : (tw_2_1_0.all fun t => isYes (way xs t)) = true := by kernel_rfl
def tw_2_1_1 : List (List (Int × Int × Int)) := [[(0, 3, 2), (1, 3, 1), (2, 3, 1), (3, 3, 0)],
  [(0, 3, 2), (1, 3, 1), (2, 3, 1), (3, 3, 1)],
  [(0, 3, 2), (1, 3, 1), (2, 3, 1), (3, 3, 2)]]
theorem w_2_1_1 (xs : List D) : (tw_2_1_1.all fun t => isYes (way xs t)) = true := by kernel_rfl
def tw_2_1_2 : List (List (Int × Int × Int)) := [[(0, 3, 2), (1, 3, 1), (2, 3, 2), (3, 3, 0)],
  [(0, 3, 2), (1, 3, 1), (2, 3, 2), (3, 3, 1)],
  [(0, 3, 2), (1, 3, 1), (2, 3, 2), (3, 3, 2)]]
theorem w_2_1_2 (xs : List D) : (tw_2_1_2.all fun t => isYes (way xs t)) = true := by kernel_rfl
def tw_2_2_0 : List (List (Int × Int × Int)) := [[(0, 3, 2), (1, 3, 2), (2, 3, 0), (3, 3, 0)],
  [(0, 3, 2), (1, 3, 2), (2, 3, 0), (3, 3, 1)],
  [(0, 3, 2), (1, 3, 2), (2, 3, 0), (3, 3, 2)]]
theorem w_2_2_0 (xs : List D) : (tw_2_2_0.all fun t => isYes (way xs t)) = true := by kernel_rfl
def tw_2_2_1 : List (List (Int × Int × Int)) := [[(0, 3, 2), (1, 3, 2), (2, 3, 1), (3, 3, 0)],
  [(0, 3, 2), (1, 3, 2), (2, 3, 1), (3, 3, 1)],
  [(0, 3, 2), (1, 3, 2), (2, 3, 1), (3, 3, 2)]]
theorem w_2_2_1 (xs : List D) : (tw_2_2_1.all fun t => isYes (way xs t)) = true := by kernel_rfl
def tw_2_2_2 : List (List (Int × Int × Int)) := [[(0, 3, 2), (1, 3, 2), (2, 3, 2), (3, 3, 0)],
  [(0, 3, 2), (1, 3, 2), (2, 3, 2), (3, 3, 1)],
  [(0, 3, 2), (1, 3, 2), (2, 3, 2), (3, 3, 2)]]
theorem w_2_2_2 (xs : List D) : (tw_2_2_2.all fun t => isYes (way xs t)) = true := by kernel_rfl
theorem ways (xs : List D) : ∀ c0 c1 c2 c3 : Nat, c0 < 3 → c1 < 3 → c2 < 3 → c3 < 3 → isYes (way xs [(0, 3, (c0 : Int)), (1, 3, (c1 : Int)), (2, 3, (c2 : Int)), (3, 3, (c3 : Int))]) = true := by
  intro c0 c1 c2 c3
  match c0 with
  | 0 =>
    intro _
    match c1 with
    | 0 =>
      intro _
      match c2 with
      | 0 =>
        intro _
        match c3 with
        | 0 =>
          intro _
          exact List.all_eq_true.mp (w_0_0_0 xs) _ (List.getElem_mem (l := tw_0_0_0) (n := 0) (by decide))
        | 1 =>
          intro _
          exact List.all_eq_true.mp (w_0_0_0 xs) _ (List.getElem_mem (l := tw_0_0_0) (n := 1) (by decide))
        | 2 =>
          intro _
          exact List.all_eq_true.mp (w_0_0_0 xs) _ (List.getElem_mem (l := tw_0_0_0) (n := 2) (by decide))
        | _ + 3 => intro z; exact absurd z (by omega)
      | 1 =>
        intro _
        match c3 with
        | 0 =>
          intro _
          exact List.all_eq_true.mp (w_0_0_1 xs) _ (List.getElem_mem (l := tw_0_0_1) (n := 0) (by decide))
        | 1 =>
          intro _
          exact List.all_eq_true.mp (w_0_0_1 xs) _ (List.getElem_mem (l := tw_0_0_1) (n := 1) (by decide))
        | 2 =>
          intro _
          exact List.all_eq_true.mp (w_0_0_1 xs) _ (List.getElem_mem (l := tw_0_0_1) (n := 2) (by decide))
        | _ + 3 => intro z; exact absurd z (by omega)
      | 2 =>
        intro _
        match c3 with
        | 0 =>
          intro _
          exact List.all_eq_true.mp (w_0_0_2 xs) _ (List.getElem_mem (l := tw_0_0_2) (n := 0) (by decide))
        | 1 =>
          intro _
          exact List.all_eq_true.mp (w_0_0_2 xs) _ (List.getElem_mem (l := tw_0_0_2) (n := 1) (by decide))
        | 2 =>
          intro _
          exact List.all_eq_true.mp (w_0_0_2 xs) _ (List.getElem_mem (l := tw_0_0_2) (n := 2) (by decide))
        | _ + 3 => intro z; exact absurd z (by omega)
      | _ + 3 => intro z; exact absurd z (by omega)
    | 1 =>
      intro _
      match c2 with
      | 0 =>
        intro _
        match c3 with
        | 0 =>
          intro _
          exact List.all_eq_true.mp (w_0_1_0 xs) _ (List.getElem_mem (l := tw_0_1_0) (n := 0) (by decide))
        | 1 =>
          intro _
          exact List.all_eq_true.mp (w_0_1_0 xs) _ (List.getElem_mem (l := tw_0_1_0) (n := 1) (by decide))
        | 2 =>
          intro _
          exact List.all_eq_true.mp (w_0_1_0 xs) _ (List.getElem_mem (l := tw_0_1_0) (n := 2) (by decide))
        | _ + 3 => intro z; exact absurd z (by omega)
      | 1 =>
        intro _
        match c3 with
        | 0 =>
          intro _
          exact List.all_eq_true.mp (w_0_1_1 xs) _ (List.getElem_mem (l := tw_0_1_1) (n := 0) (by decide))
        | 1 =>
          intro _
          exact List.all_eq_true.mp (w_0_1_1 xs) _ (List.getElem_mem (l := tw_0_1_1) (n := 1) (by decide))
        | 2 =>
          intro _
          exact List.all_eq_true.mp (w_0_1_1 xs) _ (List.getElem_mem (l := tw_0_1_1) (n := 2) (by decide))
        | _ + 3 => intro z; exact absurd z (by omega)
      | 2 =>
        intro _
        match c3 with
        | 0 =>
          intro _
          exact List.all_eq_true.mp (w_0_1_2 xs) _ (List.getElem_mem (l := tw_0_1_2) (n := 0) (by decide))
        | 1 =>
          intro _
          exact List.all_eq_true.mp (w_0_1_2 xs) _ (List.getElem_mem (l := tw_0_1_2) (n := 1) (by decide))
        | 2 =>
          intro _
          exact List.all_eq_true.mp (w_0_1_2 xs) _ (List.getElem_mem (l := tw_0_1_2) (n := 2) (by decide))
        | _ + 3 => intro z; exact absurd z (by omega)
      | _ + 3 => intro z; exact absurd z (by omega)
    | 2 =>
      intro _
      match c2 with
      | 0 =>
        intro _
        match c3 with
        | 0 =>
          intro _
          exact List.all_eq_true.mp (w_0_2_0 xs) _ (List.getElem_mem (l := tw_0_2_0) (n := 0) (by decide))
        | 1 =>
          intro _
          exact List.all_eq_true.mp (w_0_2_0 xs) _ (List.getElem_mem (l := tw_0_2_0) (n := 1) (by decide))
        | 2 =>
          intro _
          exact List.all_eq_true.mp (w_0_2_0 xs) _ (List.getElem_mem (l := tw_0_2_0) (n := 2) (by decide))
        | _ + 3 => intro z; exact absurd z (by omega)
      | 1 =>
        intro _
        match c3 with
        | 0 =>
          intro _
          exact List.all_eq_true.mp (w_0_2_1 xs) _ (List.getElem_mem (l := tw_0_2_1) (n := 0) (by decide))
        | 1 =>
          intro _
          exact List.all_eq_true.mp (w_0_2_1 xs) _ (List.getElem_mem (l := tw_0_2_1) (n := 1) (by decide))
        | 2 =>
          intro _
          exact List.all_eq_true.mp (w_0_2_1 xs) _ (List.getElem_mem (l := tw_0_2_1) (n := 2) (by decide))
        | _ + 3 => intro z; exact absurd z (by omega)
      | 2 =>
        intro _
        match c3 with
        | 0 =>
          intro _
          exact List.all_eq_true.mp (w_0_2_2 xs) _ (List.getElem_mem (l := tw_0_2_2) (n := 0) (by decide))
        | 1 =>
          intro _
          exact List.all_eq_true.mp (w_0_2_2 xs) _ (List.getElem_mem (l := tw_0_2_2) (n := 1) (by decide))
        | 2 =>
          intro _
          exact List.all_eq_true.mp (w_0_2_2 xs) _ (List.getElem_mem (l := tw_0_2_2) (n := 2) (by decide))
        | _ + 3 => intro z; exact absurd z (by omega)
      | _ + 3 => intro z; exact absurd z (by omega)
    | _ + 3 => intro z; exact absurd z (by omega)
  | 1 =>
    intro _
    match c1 with
    | 0 =>
      intro _
      match c2 with
      | 0 =>
        intro _
        match c3 with
        | 0 =>
          intro _
          exact List.all_eq_true.mp (w_1_0_0 xs) _ (List.getElem_mem (l := tw_1_0_0) (n := 0) (by decide))
        | 1 =>
          intro _
          exact List.all_eq_true.mp (w_1_0_0 xs) _ (List.getElem_mem (l := tw_1_0_0) (n := 1) (by decide))
        | 2 =>
          intro _
          exact List.all_eq_true.mp (w_1_0_0 xs) _ (List.getElem_mem (l := tw_1_0_0) (n := 2) (by decide))
        | _ + 3 => intro z; exact absurd z (by omega)
      | 1 =>
        intro _
        match c3 with
        | 0 =>
          intro _
          exact List.all_eq_true.mp (w_1_0_1 xs) _ (List.getElem_mem (l := tw_1_0_1) (n := 0) (by decide))
        | 1 =>
          intro _
          exact List.all_eq_true.mp (w_1_0_1 xs) _ (List.getElem_mem (l := tw_1_0_1) (n := 1) (by decide))
        | 2 =>
          intro _
          exact List.all_eq_true.mp (w_1_0_1 xs) _ (List.getElem_mem (l := tw_1_0_1) (n := 2) (by decide))
        | _ + 3 => intro z; exact absurd z (by omega)
      | 2 =>
        intro _
        match c3 with
        | 0 =>
          intro _
          exact List.all_eq_true.mp (w_1_0_2 xs) _ (List.getElem_mem (l := tw_1_0_2) (n := 0) (by decide))
        | 1 =>
          intro _
          exact List.all_eq_true.mp (w_1_0_2 xs) _ (List.getElem_mem (l := tw_1_0_2) (n := 1) (by decide))
        | 2 =>
          intro _
          exact List.all_eq_true.mp (w_1_0_2 xs) _ (List.getElem_mem (l := tw_1_0_2) (n := 2) (by decide))
        | _ + 3 => intro z; exact absurd z (by omega)
      | _ + 3 => intro z; exact absurd z (by omega)
    | 1 =>
      intro _
      match c2 with
      | 0 =>
        intro _
        match c3 with
        | 0 =>
          intro _
          exact List.all_eq_true.mp (w_1_1_0 xs) _ (List.getElem_mem (l := tw_1_1_0) (n := 0) (by decide))
        | 1 =>
          intro _
          exact List.all_eq_true.mp (w_1_1_0 xs) _ (List.getElem_mem (l := tw_1_1_0) (n := 1) (by decide))
        | 2 =>
          intro _
          exact List.all_eq_true.mp (w_1_1_0 xs) _ (List.getElem_mem (l := tw_1_1_0) (n := 2) (by decide))
        | _ + 3 => intro z; exact absurd z (by omega)
      | 1 =>
        intro _
        match c3 with
        | 0 =>
          intro _
          exact List.all_eq_true.mp (w_1_1_1 xs) _ (List.getElem_mem (l := tw_1_1_1) (n := 0) (by decide))
        | 1 =>
          intro _
          exact List.all_eq_true.mp (w_1_1_1 xs) _ (List.getElem_mem (l := tw_1_1_1) (n := 1) (by decide))
        | 2 =>
          intro _
          exact List.all_eq_true.mp (w_1_1_1 xs) _ (List.getElem_mem (l := tw_1_1_1) (n := 2) (by decide))
        | _ + 3 => intro z; exact absurd z (by omega)
      | 2 =>
        intro _
        match c3 with
        | 0 =>
          intro _
          exact List.all_eq_true.mp (w_1_1_2 xs) _ (List.getElem_mem (l := tw_1_1_2) (n := 0) (by decide))
        | 1 =>
          intro _
          exact List.all_eq_true.mp (w_1_1_2 xs) _ (List.getElem_mem (l := tw_1_1_2) (n := 1) (by decide))
        | 2 =>
          intro _
          exact List.all_eq_true.mp (w_1_1_2 xs) _ (List.getElem_mem (l := tw_1_1_2) (n := 2) (by decide))
        | _ + 3 => intro z; exact absurd z (by omega)
      | _ + 3 => intro z; exact absurd z (by omega)
    | 2 =>
      intro _
      match c2 with
      | 0 =>
        intro _
        match c3 with
        | 0 =>
          intro _
          exact List.all_eq_true.mp (w_1_2_0 xs) _ (List.getElem_mem (l := tw_1_2_0) (n := 0) (by decide))
        | 1 =>
          intro _
          exact List.all_eq_true.mp (w_1_2_0 xs) _ (List.getElem_mem (l := tw_1_2_0) (n := 1) (by decide))
        | 2 =>
          intro _
          exact List.all_eq_true.mp (w_1_2_0 xs) _ (List.getElem_mem (l := tw_1_2_0) (n := 2) (by decide))
        | _ + 3 => intro z; exact absurd z (by omega)
      | 1 =>
        intro _
        match c3 with
        | 0 =>
          intro _
          exact List.all_eq_true.mp (w_1_2_1 xs) _ (List.getElem_mem (l := tw_1_2_1) (n := 0) (by decide))
        | 1 =>
          intro _
          exact List.all_eq_true.mp (w_1_2_1 xs) _ (List.getElem_mem (l := tw_1_2_1) (n := 1) (by decide))
        | 2 =>
          intro _
          exact List.all_eq_true.mp (w_1_2_1 xs) _ (List.getElem_mem (l := tw_1_2_1) (n := 2) (by decide))
        | _ + 3 => intro z; exact absurd z (by omega)
      | 2 =>
        intro _
        match c3 with
        | 0 =>
          intro _
          exact List.all_eq_true.mp (w_1_2_2 xs) _ (List.getElem_mem (l := tw_1_2_2) (n := 0) (by decide))
        | 1 =>
          intro _
          exact List.all_eq_true.mp (w_1_2_2 xs) _ (List.getElem_mem (l := tw_1_2_2) (n := 1) (by decide))
        | 2 =>
          intro _
          exact List.all_eq_true.mp (w_1_2_2 xs) _ (List.getElem_mem (l := tw_1_2_2) (n := 2) (by decide))
        | _ + 3 => intro z; exact absurd z (by omega)
      | _ + 3 => intro z; exact absurd z (by omega)
    | _ + 3 => intro z; exact absurd z (by omega)
  | 2 =>
    intro _
    match c1 with
    | 0 =>
      intro _
      match c2 with
      | 0 =>
        intro _
        match c3 with
        | 0 =>
          intro _
          exact List.all_eq_true.mp (w_2_0_0 xs) _ (List.getElem_mem (l := tw_2_0_0) (n := 0) (by decide))
        | 1 =>
          intro _
          exact List.all_eq_true.mp (w_2_0_0 xs) _ (List.getElem_mem (l := tw_2_0_0) (n := 1) (by decide))
        | 2 =>
          intro _
          exact List.all_eq_true.mp (w_2_0_0 xs) _ (List.getElem_mem (l := tw_2_0_0) (n := 2) (by decide))
        | _ + 3 => intro z; exact absurd z (by omega)
      | 1 =>
        intro _
        match c3 with
        | 0 =>
          intro _
          exact List.all_eq_true.mp (w_2_0_1 xs) _ (List.getElem_mem (l := tw_2_0_1) (n := 0) (by decide))
        | 1 =>
          intro _
          exact List.all_eq_true.mp (w_2_0_1 xs) _ (List.getElem_mem (l := tw_2_0_1) (n := 1) (by decide))
        | 2 =>
          intro _
          exact List.all_eq_true.mp (w_2_0_1 xs) _ (List.getElem_mem (l := tw_2_0_1) (n := 2) (by decide))
        | _ + 3 => intro z; exact absurd z (by omega)
      | 2 =>
        intro _
        match c3 with
        | 0 =>
          intro _
          exact List.all_eq_true.mp (w_2_0_2 xs) _ (List.getElem_mem (l := tw_2_0_2) (n := 0) (by decide))
        | 1 =>
          intro _
          exact List.all_eq_true.mp (w_2_0_2 xs) _ (List.getElem_mem (l := tw_2_0_2) (n := 1) (by decide))
        | 2 =>
          intro _
          exact List.all_eq_true.mp (w_2_0_2 xs) _ (List.getElem_mem (l := tw_2_0_2) (n := 2) (by decide))
        | _ + 3 => intro z; exact absurd z (by omega)
      | _ + 3 => intro z; exact absurd z (by omega)
    | 1 =>
      intro _
      match c2 with
      | 0 =>
        intro _
        match c3 with
        | 0 =>
          intro _
          exact List.all_eq_true.mp (w_2_1_0 xs) _ (List.getElem_mem (l := tw_2_1_0) (n := 0) (by decide))
        | 1 =>
          intro _
          exact List.all_eq_true.mp (w_2_1_0 xs) _ (List.getElem_mem (l := tw_2_1_0) (n := 1) (by decide))
        | 2 =>
          intro _
          exact List.all_eq_true.mp (w_2_1_0 xs) _ (List.getElem_mem (l := tw_2_1_0) (n := 2) (by decide))
        | _ + 3 => intro z; exact absurd z (by omega)
      | 1 =>
        intro _
        match c3 with
        | 0 =>
          intro _
          exact List.all_eq_true.mp (w_2_1_1 xs) _ (List.getElem_mem (l := tw_2_1_1) (n := 0) (by decide))
        | 1 =>
          intro _
          exact List.all_eq_true.mp (w_2_1_1 xs) _ (List.getElem_mem (l := tw_2_1_1) (n := 1) (by decide))
        | 2 =>
          intro _
          exact List.all_eq_true.mp (w_2_1_1 xs) _ (List.getElem_mem (l := tw_2_1_1) (n := 2) (by decide))
        | _ + 3 => intro z; exact absurd z (by omega)
      | 2 =>
        intro _
        match c3 with
        | 0 =>
          intro _
          exact List.all_eq_true.mp (w_2_1_2 xs) _ (List.getElem_mem (l := tw_2_1_2) (n := 0) (by decide))
        | 1 =>
          intro _
          exact List.all_eq_true.mp (w_2_1_2 xs) _ (List.getElem_mem (l := tw_2_1_2) (n := 1) (by decide))
        | 2 =>
          intro _
          exact List.all_eq_true.mp (w_2_1_2 xs) _ (List.getElem_mem (l := tw_2_1_2) (n := 2) (by decide))
        | _ + 3 => intro z; exact absurd z (by omega)
      | _ + 3 => intro z; exact absurd z (by omega)
    | 2 =>
      intro _
      match c2 with
      | 0 =>
        intro _
        match c3 with
        | 0 =>
          intro _
          exact List.all_eq_true.mp (w_2_2_0 xs) _ (List.getElem_mem (l := tw_2_2_0) (n := 0) (by decide))
        | 1 =>
          intro _
          exact List.all_eq_true.mp (w_2_2_0 xs) _ (List.getElem_mem (l := tw_2_2_0) (n := 1) (by decide))
        | 2 =>
          intro _
          exact List.all_eq_true.mp (w_2_2_0 xs) _ (List.getElem_mem (l := tw_2_2_0) (n := 2) (by decide))
        | _ + 3 => intro z; exact absurd z (by omega)
      | 1 =>
        intro _
        match c3 with
        | 0 =>
          intro _
          exact List.all_eq_true.mp (w_2_2_1 xs) _ (List.getElem_mem (l := tw_2_2_1) (n := 0) (by decide))
        | 1 =>
          intro _
          exact List.all_eq_true.mp (w_2_2_1 xs) _ (List.getElem_mem (l := tw_2_2_1) (n := 1) (by decide))
        | 2 =>
          intro _
          exact List.all_eq_true.mp (w_2_2_1 xs) _ (List.getElem_mem (l := tw_2_2_1) (n := 2) (by decide))
        | _ + 3 => intro z; exact absurd z (by omega)
      | 2 =>
        intro _
        match c3 with
        | 0 =>
          intro _
          exact List.all_eq_true.mp (w_2_2_2 xs) _ (List.getElem_mem (l := tw_2_2_2) (n := 0) (by decide))
        | 1 =>
          intro _
          exact List.all_eq_true.mp (w_2_2_2 xs) _ (List.getElem_mem (l := tw_2_2_2) (n := 1) (by decide))
        | 2 =>
          intro _
          exact List.all_eq_true.mp (w_2_2_2 xs) _ (List.getElem_mem (l := tw_2_2_2) (n := 2) (by decide))
        | _ + 3 => intro z; exact absurd z (by omega)
      | _ + 3 => intro z; exact absurd z (by omega)
    | _ + 3 => intro z; exact absurd z (by omega)
  | _ + 3 => intro z; exact absurd z (by omega)
theorem yes : ∀ ns : List Int, ns.length ≤ 63 → ∃ W : Way, W.ns = ns ∧ ∃ h', f_law (stub W.t) [.scr (ns.map D.int)] h0 = .ok (.bl true) h' := fun ns hns => by
  obtain ⟨c0, h0, e0⟩ := pick_eq ns hns 0 (3) (by omega) (by decide)
  obtain ⟨c1, h1, e1⟩ := pick_eq ns hns 1 (3) (by omega) (by decide)
  obtain ⟨c2, h2, e2⟩ := pick_eq ns hns 2 (3) (by omega) (by decide)
  obtain ⟨c3, h3, e3⟩ := pick_eq ns hns 3 (3) (by omega) (by decide)
  exact ⟨⟨ns, [(0, 3, (c0 : Int)), (1, 3, (c1 : Int)), (2, 3, (c2 : Int)), (3, 3, (c3 : Int))], fun k m c hm h => by
    simp only [List.mem_cons, List.not_mem_nil, or_false, Prod.mk.injEq] at hm
    rcases hm with ⟨rfl, rfl, rfl⟩ | ⟨rfl, rfl, rfl⟩ | ⟨rfl, rfl, rfl⟩ | ⟨rfl, rfl, rfl⟩
    · exact e0 h
    · exact e1 h
    · exact e2 h
    · exact e3 h
    ⟩, rfl, isYes_of (ways (ns.map D.int) c0 c1 c2 c3 h0 h1 h2 h3)⟩
end K48


theorem PySem.Challenge.cw_cellyard_k48_whole_closed_with_others_holds : PySem.Challenge.rw_cellyard_k48_whole_closed_with_others.Holds := by
  exact K48.holds K48.yes
