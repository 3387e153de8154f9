import PyProof.Rows.All
import Wide.All
import OpenK.AllK
import Wide.FinOn
import HandS.ForMost
import HandS.ForExc
import HandS.Lambda
import HandS.EndTab
import HandS.IsInst
import HandS.Wide
import HandS.Zip
import HandS.Rev
import KE.KStateDown
import HandS.Head0
import HandS.Head1
import HandS.Head2
import HandS.Head3
import HandS.HeadEnd
import HandS.HeadHook4
import HandS.HeadWalk
import KE.KExcSuper
import KE.KExcPX
import HandS.Exc
import HandS.TupAny
import HandS.TupMul
import HandS.TupLe
import HandS.Deep
import HandS.Gcd
import HandS.Flow
import HandS.SortInts
import HandS.Defaults
import HandS.MakeKwOnly
import HandS.Style
import HandS.ExcIs
import HandS.MakeKw
import KE.GoesEnum
import KE.KRevSl
import HandS.NoneIn
import HandS.Conv
import HandS.RevTup
import HandS.IterVal
import HandS.Star
import HandS.SortRule
import KE.LtSeq
import HandS.ExcInit
import HandS.ExcSuper
import HandS.ExcValue
import HandS.ExcField
import KE.KExcInit
import PySem.Challenge.RW_pulledrooms_k00_houses_judged
set_option Elab.async false
set_option linter.all false
set_option maxRecDepth 100000
set_option maxHeartbeats 4000000
/-! Bool facts of classes, for the head's end (they stand ahead of all else: the head's run comes first in a whole proof). -/
namespace HD
open PySem PySem.Spec PyProof.Rows L2
def excCB (K : PySem.W.Frag) (D : Addr) : Bool := He.eqO (PySem.W.findIn K (.ref D) "__getattribute__") (some (some (.builtin "BaseException.__getattribute__"))) && (He.eqO (PySem.W.findIn K (.ref D) "__getattr__") (some none) && (decide (PySem.W.subIn K (.ref D) (.type "BaseException") = some true) &&
  (PySem.W.hasDictIn K D && (He.eqO (PySem.W.findIn K (.ref D) "__class__") (some (some (.builtin "object.__class__"))) && (He.eqO (PySem.W.specialIn K (.builtin "object.__class__") "__get__") (some (some (.builtin "getset_descriptor.__get__"))) &&
  (decide (PySem.W.takesIn K (.builtin "object.__class__") = some true) && decide (PySem.W.mroIn K D (.type "object") = some true)))))))
def clsB (K : PySem.W.Frag) (C : Addr) (fs : List Str) : Bool := PySem.W.plainGet K C Str.empty && (PySem.W.hasDictIn K C && (PySem.W.plainOver K C && (He.eqO (PySem.W.findIn K (.ref C) "__setattr__") (some (some (.builtin "object.__setattr__"))) &&
  (He.eqO (PySem.W.findIn K (.ref C) "__class__") (some (some (.builtin "object.__class__"))) && (He.eqO (PySem.W.specialIn K (.builtin "object.__class__") "__get__") (some (some (.builtin "getset_descriptor.__get__"))) &&
  (decide (PySem.W.takesIn K (.builtin "object.__class__") = some true) && (decide (PySem.W.mroIn K C (.type "object") = some true) && (fs.all (fun f => He.eqO (PySem.W.findIn K (.ref C) f) (some none)) && (decide (PySem.W.kitOne K (.ref C) (.ref C) = some true) &&
  ["NoneType", "bool", "int", "str", "list", "tuple", "dict"].all fun m => decide (PySem.W.kitOne K (.type m) (.ref C) = some false) && decide (PySem.W.kitOne K (.ref C) (.type m) = some false))))))))))
def gcdB (K : PySem.W.Frag) : Bool := He.eqO (PySem.W.nsIn K mainGlobals "gcd") (some (some (.builtin "math.gcd")))
/-! ### own errors with an __init__ of their own: what is read of them -/
/-- an __init__ as it stands, told without addresses -/
abbrev SupV : Type := Option (Str × Str × Arguments × FuncBody × Scope × Addr × List Str × Addr)
def supFd (K : PySem.W.Frag) (C : Addr) : Option FuncData := (K.lookup (He.ma K C "__init__")).bind fun o => match o.data with
  | .func fd => some fd
  | _ => none
def supV (K : PySem.W.Frag) (x : Str) : SupV := (supFd K (He.ga K x)).map fun fd => (fd.name, fd.qualname, fd.params, fd.body, fd.scope, fd.globals, fd.closure.map (·.1), fd.builtins)
structure SupD where
  x : Str
  qual : Str
  params : Arguments
  body : List Stmt
  scope : Scope
def SupD.val (d : SupD) : SupV := some ("__init__", d.qual, d.params, .stmts d.body, d.scope, mainGlobals, ["__class__"], builtinsNs)
/-- its code object: of the file -/
def supCode (file : Str) (K : PySem.W.Frag) (q : Str) : Value → Bool
  | .ref c => PySem.W.codeIn K (.ref c) q && (match (K.lookup c).map fun (o : Obj) => o.data with
    | some (.fields vs) => (match (vs[2]? : Option Value) with
      | some (.str f _) => file == f
      | _ => false)
    | _ => false)
  | _ => false
/-- its cell of __class__ holds the class -/
def supCell (K : PySem.W.Frag) (C : Addr) : List (Str × Addr) → Bool
  | [(_, c)] => (match (K.lookup c).map fun (o : Obj) => o.data with
    | some (.cell (some v)) => decide (v = .ref C)
    | _ => false)
  | _ => false
def supF (file : Str) (K : PySem.W.Frag) (C : Addr) (q : Str) : Bool := match supFd K C with
  | some fd => supCode file K q fd.code && (supCell K C fd.closure && decide (fd.defaults = .none))
  | none => false
def supM (K : PySem.W.Frag) (C : Addr) : Bool := match (PySem.W.clsIn K C).map fun (d : ClassData) => d.mro with
  | some (_ :: bm) => PySem.HandSPX.refsVE bm
  | _ => false
def supC1 (K : PySem.W.Frag) (C : Addr) : Bool := PySem.W.excInitIn K C PySem.HandSPX.veTail "ValueError.__new__" && (supM K C && (PySem.W.keepIn K (.ref C) && decide (PySem.W.typeIn K (.ref C) = some (.type "type"))))
def supC2 (K : PySem.W.Frag) (C : Addr) (f : Str) : Bool := He.eqO (PySem.W.findIn K (.ref C) "__setattr__") (some (some (.builtin "object.__setattr__"))) && (He.eqO (PySem.W.findIn K (.ref C) "__init__") (some (some (.ref (He.ma K C "__init__")))) &&
  (decide (PySem.W.typeIn K (.ref (He.ma K C "__init__")) = some (.type "function")) && He.eqO (PySem.W.findIn K (.ref C) f) (some none)))
def supC3 (K : PySem.W.Frag) (C : Addr) : Bool := He.eqO (PySem.W.ks_superIn K C C "__init__") (some (some (.builtin "ValueError.__init__"))) && (decide (PySem.W.mroIn K C (.ref C) = some true) &&
  (decide (PySem.W.subIn K (.ref C) (.type "ValueError") = some true) && He.eqO (PySem.W.nsIn K cStatics "thirdparty.any") (some none)))
def supB (file : Str) (K : PySem.W.Frag) (x q f : Str) : Bool := supF file K (He.ga K x) q && (supC1 K (He.ga K x) && (supC2 K (He.ga K x) f && (supC3 K (He.ga K x) && excCB K (He.ga K x))))
def neCB (K : PySem.W.Frag) (C : Addr) : Bool := PySem.W.excInitIn K C [.type "object"] "object.__new__" && He.eqO (PySem.W.findIn K (.ref C) "__ne__") (some (some (.builtin "object.__ne__")))
/-- the Hook: the kit's facts and such an __init__'s text, read from the module's names and the statics -/
abbrev AlS : Type := He.AlX × List SupV
def obsS (sp : List SupD) (fa : List He.Fa) (fn : List He.DefD) (tf : List He.Defn) (ex : PySem.W.Frag → Bool) (g : Addr → Option Obj) (as : List Addr) : AlS :=
  ((He.obsT fa fn [] (He.frT g (cStatics :: as)), ex (He.frT g (cStatics :: as)) && He.tabsB g tf (He.frT g (cStatics :: as))), sp.map fun d => supV (He.frT g (cStatics :: as)) d.x)
structure SaysS (sp : List SupD) (fa : List He.Fa) (fn : List He.DefD) (tf : List He.Defn) (ex : PySem.W.Frag → Bool) (w : World) (h : Heap) (K : PySem.W.Frag) : Prop where
  x : He.SaysX fa fn [] tf ex w h K
  s : ∀ d ∈ sp, supV K d.x = d.val
section
variable {sp : List SupD} {fa : List He.Fa} {fn : List He.DefD} {tf : List He.Defn} {ex : PySem.W.Frag → Bool} {w : World} {h : Heap}
theorem tabs_at {g : Addr → Option Obj} {K : PySem.W.Frag} (z : He.tabsB g tf K = true) {p : He.Defn} (hp : p ∈ tf) : PySem.W.codeHdIn K (He.cT K p).1 (He.cT K p).2 = true ∧ ∃ o, g (He.cT K p).2 = some o ∧ He.emptyTab o = true := by
  have y := List.all_eq_true.mp z p hp
  simp only [Bool.and_eq_true] at y
  refine ⟨y.1, ?_⟩
  revert y
  rcases g (He.cT K p).2 with _ | o <;> intro y
  · exact absurd y.2 (by simp)
  · exact ⟨o, rfl, y.2⟩
theorem saysS_of {as : List Addr} (e : obsS sp fa fn tf ex h.get? as = (He.valX fn [] w, sp.map SupD.val)) : SaysS sp fa fn tf ex w h (He.frT h.get? (cStatics :: as)) := by
  unfold obsS He.valX at e
  simp only [Prod.mk.injEq, Bool.and_eq_true] at e
  obtain ⟨⟨e1, e2, e3⟩, e4⟩ := e
  refine ⟨⟨e1, e2, fun p hp => (tabs_at e3 hp).1, fun p hp => ?_, fun p hp => ?_⟩, fun d hd => ?_⟩
  · obtain ⟨_, o, g1, g2⟩ := tabs_at e3 hp
    exact He.frT_none g1 g2
  · obtain ⟨_, o, g1, g2⟩ := tabs_at e3 hp
    exact g1.trans (congrArg some (He.emptyTab_eq g2))
  · exact (List.map_inj_left.mp e4) d hd
end
def hookS (sp : List SupD) (n : Nat) (fa : List He.Fa) (fn : List He.DefD) (tf : List He.Defn) (ex : PySem.W.Frag → Bool) : PySem.W.Hook where
  α := AlS
  obs := fun s => obsS sp fa fn tf ex s.heap.get? (He.asD s.heap.get? n)
  val := fun w => (He.valX fn [] w, sp.map SupD.val)
  says := fun w h => ∃ K : PySem.W.Frag, K.In h ∧ SaysS sp fa fn tf ex w h K
  of := fun _ _ e => ⟨_, He.frT_in, saysS_of e⟩
  keeps := fun _ _ _ ⟨K, kin, y⟩ st => ⟨K, kin.keeps st, ⟨{ y.x with empty := fun p hp => st _ _ (y.x.empty p hp) }, y.s⟩⟩
theorem obsS_eq {sp : List SupD} {n : Nat} {fa : List He.Fa} {fn : List He.DefD} {tf : List He.Defn} {ex : PySem.W.Frag → Bool} {g : Addr → Option Obj} {s : Shared} (h : ∀ a, g a = s.heap.get? a) : obsS sp fa fn tf ex g (He.asD g n) = (hookS sp n fa fn tf ex).obs s := by
  obtain rfl : g = s.heap.get? := funext h
  rfl
end HD

namespace Kx
open PySem PySem.Spec PyProof.Rows L2 HD
def top (i : Nat) : Stmt := PySem.Challenge.pw_pulledrooms_k00_houses_judged.main.body.getD i (.Pass ⟨0, 0, 0, 0⟩)
abbrev s_is_number : Stmt := top 1
theorem sc_is_number : FnScope ["value"] ["value"] (defScope s_is_number) := ⟨rfl, rfl, rfl, by decide +kernel, rfl, by decide +kernel, by decide +kernel⟩
abbrev s_is_below : Stmt := top 2
theorem sc_is_below : FnScope ["value", "size"] ["value", "size"] (defScope s_is_below) := ⟨rfl, rfl, rfl, by decide +kernel, rfl, by decide +kernel, by decide +kernel⟩
abbrev s_is_door : Stmt := top 12
theorem sc_is_door : FnScope ["value", "rooms", "near", "first", "far", "second", "item"] ["value", "rooms"] (defScope s_is_door) := ⟨rfl, rfl, rfl, by decide +kernel, rfl, by decide +kernel, by decide +kernel⟩
abbrev s_are_doors : Stmt := top 13
theorem sc_are_doors : FnScope ["value", "rooms", "door"] ["value", "rooms"] (defScope s_are_doors) := ⟨rfl, rfl, rfl, by decide +kernel, rfl, by decide +kernel, by decide +kernel⟩
abbrev s_joined_rooms : Stmt := top 14
theorem sc_joined_rooms : FnScope ["doors", "known", "line", "here", "near", "first", "far", "second", "one", "other"] ["doors"] (defScope s_joined_rooms) := ⟨rfl, rfl, rfl, by decide +kernel, rfl, by decide +kernel, by decide +kernel⟩
abbrev s__law_begun : Stmt := top 17
theorem sc__law_begun : FnScope ["_law_script", "_law_great", "_law_cell"] ["_law_script"] (defScope s__law_begun) := ⟨rfl, rfl, rfl, by decide +kernel, rfl, by decide +kernel, by decide +kernel⟩
abbrev s__law_blended : Stmt := top 18
theorem sc__law_blended : FnScope ["_law_state", "_law_turn", "_law_found", "_law_prime", "_law_blend", "_law_cell"] ["_law_state"] (defScope s__law_blended) := ⟨rfl, rfl, rfl, by decide +kernel, rfl, by decide +kernel, by decide +kernel⟩
abbrev s__law_draw : Stmt := top 19
theorem sc__law_draw : FnScope ["_law_state", "_law_size_here", "_law_found"] ["_law_state", "_law_size_here"] (defScope s__law_draw) := ⟨rfl, rfl, rfl, by decide +kernel, rfl, by decide +kernel, by decide +kernel⟩
abbrev s__law_pick : Stmt := top 20
theorem sc__law_pick : FnScope ["_law_state", "_law_several"] ["_law_state", "_law_several"] (defScope s__law_pick) := ⟨rfl, rfl, rfl, by decide +kernel, rfl, by decide +kernel, by decide +kernel⟩
abbrev s__law_mixed : Stmt := top 21
theorem sc__law_mixed : FnScope ["_law_state", "_law_several", "_law_left", "_law_found"] ["_law_state", "_law_several"] (defScope s__law_mixed) := ⟨rfl, rfl, rfl, by decide +kernel, rfl, by decide +kernel, by decide +kernel⟩
abbrev s__law_caught : Stmt := top 22
theorem sc__law_caught : FnScope ["_law_work", "_law_caught_here", "error"] ["_law_work"] (defScope s__law_caught) := ⟨rfl, rfl, rfl, by decide +kernel, rfl, by decide +kernel, by decide +kernel⟩
abbrev s__law_is_truth : Stmt := top 23
theorem sc__law_is_truth : FnScope ["_law_found", "_law_due"] ["_law_found", "_law_due"] (defScope s__law_is_truth) := ⟨rfl, rfl, rfl, by decide +kernel, rfl, by decide +kernel, by decide +kernel⟩
abbrev s__law_size : Stmt := top 24
theorem sc__law_size : FnScope ["_law_state", "_law_size_here"] ["_law_state"] (defScope s__law_size) := ⟨rfl, rfl, rfl, by decide +kernel, rfl, by decide +kernel, by decide +kernel⟩
abbrev s__law_doors : Stmt := top 25
theorem sc__law_doors : FnScope ["_law_state", "_law_rooms_here", "_law_more", "_law_found", "_law_room_here", "_law_turn", "_law_one", "_law_other", "_law_item"] ["_law_state", "_law_rooms_here", "_law_more"] (defScope s__law_doors) := ⟨rfl, rfl, rfl, by decide +kernel, rfl, by decide +kernel, by decide +kernel⟩
abbrev s__law_wk_house : Stmt := top 26
theorem sc__law_wk_house : FnScope ["_law_state", "_law_most_rooms", "_law_more", "_law_rooms_here"] ["_law_state", "_law_most_rooms", "_law_more"] (defScope s__law_wk_house) := ⟨rfl, rfl, rfl, by decide +kernel, rfl, by decide +kernel, by decide +kernel⟩
abbrev s__law_wk_apart : Stmt := top 27
theorem sc__law_wk_apart : FnScope ["_law_rooms_here", "_law_doors_here", "_law_known", "_law_grown", "_law_near", "_law_first", "_law_far", "_law_second", "_law_left", "_law_spot"] ["_law_rooms_here", "_law_doors_here"] (defScope s__law_wk_apart) := ⟨rfl, rfl, rfl, by decide +kernel, rfl, by decide +kernel, by decide +kernel⟩
abbrev s__law_odd_door : Stmt := top 28
theorem sc__law_odd_door : FnScope ["_law_state", "_law_rooms_here", "_law_some"] ["_law_state", "_law_rooms_here"] (defScope s__law_odd_door) := ⟨rfl, rfl, rfl, by decide +kernel, rfl, by decide +kernel, by decide +kernel⟩
abbrev s__law_refused : Stmt := top 29
theorem sc__law_refused : FnScope ["_law_state", "_law_rooms_here", "_law_doors_here", "_law_rooms_off", "_law_spot", "_law_mixed_here", "_law_doors_off"] ["_law_state", "_law_rooms_here", "_law_doors_here"] (defScope s__law_refused) := ⟨rfl, rfl, rfl, by decide +kernel, rfl, by decide +kernel, by decide +kernel⟩
abbrev s__law_free_doors : Stmt := top 30
theorem sc__law_free_doors : FnScope ["_law_state", "_law_rooms_here", "_law_found", "_law_turn", "_law_near", "_law_far"] ["_law_state", "_law_rooms_here"] (defScope s__law_free_doors) := ⟨rfl, rfl, rfl, by decide +kernel, rfl, by decide +kernel, by decide +kernel⟩
abbrev s__law_made_or_apart : Stmt := top 31
theorem sc__law_made_or_apart : FnScope ["_law_rooms_here", "_law_doors_here", "_law_due", "_law_caught_here", "_law_found"] ["_law_rooms_here", "_law_doors_here"] (defScope s__law_made_or_apart) := ⟨rfl, rfl, rfl, by decide +kernel, rfl, by decide +kernel, by decide +kernel⟩
abbrev s__law_unlike : Stmt := top 32
theorem sc__law_unlike : FnScope ["_law_state", "_law_rooms_here", "_law_doors_here", "_law_found", "_law_some", "_law_spot", "_law_item", "_law_turned", "_law_near", "_law_more", "_law_others"] ["_law_state", "_law_rooms_here", "_law_doors_here"] (defScope s__law_unlike) := ⟨rfl, rfl, rfl, by decide +kernel, rfl, by decide +kernel, by decide +kernel⟩
abbrev s_law : Stmt := top 33
theorem sc_law : FnScope ["_law_script", "_law_state", "_law_turn", "_law_rooms_here", "_law_doors_here", "_law_some_rooms", "_law_great", "_law_spot"] ["_law_script"] (defScope s_law) := ⟨rfl, rfl, rfl, by decide +kernel, rfl, by decide +kernel, by decide +kernel⟩
abbrev s_House_init : Stmt := inClass (top 15) 0
theorem sc_House_init : FnScope ["self", "rooms", "doors", "known", "room"] ["self", "rooms", "doors"] (defScope s_House_init) := ⟨rfl, rfl, rfl, by decide +kernel, rfl, by decide +kernel, by decide +kernel⟩
abbrev s_House_eq : Stmt := inClass (top 15) 1
theorem sc_House_eq : FnScope ["self", "other"] ["self", "other"] (defScope s_House_eq) := ⟨rfl, rfl, rfl, by decide +kernel, rfl, by decide +kernel, by decide +kernel⟩
abbrev s_Apart_init : Stmt := inClass (top 5) 0
def hd_is_number : He.DefD := ⟨("is_number", none), "is_number", "is_number", defArgs s_is_number, defBody s_is_number, defScope s_is_number, [], []⟩
def hd_is_below : He.DefD := ⟨("is_below", none), "is_below", "is_below", defArgs s_is_below, defBody s_is_below, defScope s_is_below, [], []⟩
def hd_is_door : He.DefD := ⟨("is_door", none), "is_door", "is_door", defArgs s_is_door, defBody s_is_door, defScope s_is_door, [], []⟩
def hd_are_doors : He.DefD := ⟨("are_doors", none), "are_doors", "are_doors", defArgs s_are_doors, defBody s_are_doors, defScope s_are_doors, [], []⟩
def hd_joined_rooms : He.DefD := ⟨("joined_rooms", none), "joined_rooms", "joined_rooms", defArgs s_joined_rooms, defBody s_joined_rooms, defScope s_joined_rooms, [], []⟩
def hd__law_begun : He.DefD := ⟨("_law_begun", none), "_law_begun", "_law_begun", defArgs s__law_begun, defBody s__law_begun, defScope s__law_begun, [], []⟩
def hd__law_blended : He.DefD := ⟨("_law_blended", none), "_law_blended", "_law_blended", defArgs s__law_blended, defBody s__law_blended, defScope s__law_blended, [], []⟩
def hd__law_draw : He.DefD := ⟨("_law_draw", none), "_law_draw", "_law_draw", defArgs s__law_draw, defBody s__law_draw, defScope s__law_draw, [], []⟩
def hd__law_pick : He.DefD := ⟨("_law_pick", none), "_law_pick", "_law_pick", defArgs s__law_pick, defBody s__law_pick, defScope s__law_pick, [], []⟩
def hd__law_mixed : He.DefD := ⟨("_law_mixed", none), "_law_mixed", "_law_mixed", defArgs s__law_mixed, defBody s__law_mixed, defScope s__law_mixed, [], []⟩
def hd__law_caught : He.DefD := ⟨("_law_caught", none), "_law_caught", "_law_caught", defArgs s__law_caught, defBody s__law_caught, defScope s__law_caught, [], []⟩
def hd__law_is_truth : He.DefD := ⟨("_law_is_truth", none), "_law_is_truth", "_law_is_truth", defArgs s__law_is_truth, defBody s__law_is_truth, defScope s__law_is_truth, [], []⟩
def hd__law_size : He.DefD := ⟨("_law_size", none), "_law_size", "_law_size", defArgs s__law_size, defBody s__law_size, defScope s__law_size, [], []⟩
def hd__law_doors : He.DefD := ⟨("_law_doors", none), "_law_doors", "_law_doors", defArgs s__law_doors, defBody s__law_doors, defScope s__law_doors, [], []⟩
def hd__law_wk_house : He.DefD := ⟨("_law_wk_house", none), "_law_wk_house", "_law_wk_house", defArgs s__law_wk_house, defBody s__law_wk_house, defScope s__law_wk_house, [], []⟩
def hd__law_wk_apart : He.DefD := ⟨("_law_wk_apart", none), "_law_wk_apart", "_law_wk_apart", defArgs s__law_wk_apart, defBody s__law_wk_apart, defScope s__law_wk_apart, [], []⟩
def hd__law_odd_door : He.DefD := ⟨("_law_odd_door", none), "_law_odd_door", "_law_odd_door", defArgs s__law_odd_door, defBody s__law_odd_door, defScope s__law_odd_door, [], []⟩
def hd__law_refused : He.DefD := ⟨("_law_refused", none), "_law_refused", "_law_refused", defArgs s__law_refused, defBody s__law_refused, defScope s__law_refused, [], []⟩
def hd__law_free_doors : He.DefD := ⟨("_law_free_doors", none), "_law_free_doors", "_law_free_doors", defArgs s__law_free_doors, defBody s__law_free_doors, defScope s__law_free_doors, [], []⟩
def hd__law_made_or_apart : He.DefD := ⟨("_law_made_or_apart", none), "_law_made_or_apart", "_law_made_or_apart", defArgs s__law_made_or_apart, defBody s__law_made_or_apart, defScope s__law_made_or_apart, [], []⟩
def hd__law_unlike : He.DefD := ⟨("_law_unlike", none), "_law_unlike", "_law_unlike", defArgs s__law_unlike, defBody s__law_unlike, defScope s__law_unlike, [], []⟩
def hd_law : He.DefD := ⟨("law", none), "law", "law", defArgs s_law, defBody s_law, defScope s_law, [], []⟩
def hd_House_init : He.DefD := ⟨("House", some "__init__"), "__init__", "House.__init__", defArgs s_House_init, defBody s_House_init, defScope s_House_init, [], []⟩
def sd_Apart : SupD := ⟨"Apart", "Apart.__init__", defArgs s_Apart_init, defBody s_Apart_init, defScope s_Apart_init⟩
def supL : List SupD := [sd_Apart]
def hd_House_eq : He.DefD := ⟨("House", some "__eq__"), "__eq__", "House.__eq__", defArgs s_House_eq, defBody s_House_eq, defScope s_House_eq, [], []⟩
def hfn : List He.DefD := [hd_is_number, hd_is_below, hd_is_door, hd_are_doors, hd_joined_rooms, hd__law_begun, hd__law_blended, hd__law_draw, hd__law_pick, hd__law_mixed, hd__law_caught, hd__law_is_truth, hd__law_size, hd__law_doors, hd__law_wk_house, hd__law_wk_apart, hd__law_odd_door, hd__law_refused, hd__law_free_doors, hd__law_made_or_apart, hd__law_unlike, hd_law, hd_House_init, hd_House_eq]
def hfa : List He.Fa := [.glo "is_number", .glo "is_below", .glo "is_door", .glo "are_doors", .glo "joined_rooms", .glo "_law_begun", .glo "_law_blended", .glo "_law_draw", .glo "_law_pick", .glo "_law_mixed", .glo "_law_caught", .glo "_law_is_truth", .glo "_law_size", .glo "_law_doors", .glo "_law_wk_house", .glo "_law_wk_apart", .glo "_law_odd_door", .glo "_law_refused", .glo "_law_free_doors", .glo "_law_made_or_apart", .glo "_law_unlike", .glo "law", .free "abs", .free "all", .free "bool", .free "enumerate", .free "int", .free "isinstance", .free "len", .free "list", .free "min", .free "range", .free "super", .free "tuple", .glo "PullError", .glo "Apart", .glo "BadDoors", .glo "BadRooms", .glo "House", .int "MOST_ROOMS" 12, .int "MOST_DOORS" 20, .int "GREATEST" 999, .exc "BadDoors", .exm "BadDoors" "PullError" true, .exc "BadRooms", .exm "BadRooms" "PullError" true, .mkr "House", .exm "Apart" "PullError" true, .meth "House" "__eq__"]
def hloose : List Str := [("is_number" : Str), ("is_below" : Str), ("PullError" : Str), ("Apart" : Str), ("BadDoors" : Str), ("BadRooms" : Str), ("MOST_ROOMS" : Str), ("MOST_DOORS" : Str), ("GREATEST" : Str), ("is_door" : Str), ("are_doors" : Str), ("joined_rooms" : Str), ("House" : Str), ("_law_begun" : Str), ("_law_blended" : Str), ("_law_draw" : Str), ("_law_pick" : Str), ("_law_mixed" : Str), ("_law_caught" : Str), ("_law_is_truth" : Str), ("_law_size" : Str), ("_law_doors" : Str), ("_law_wk_house" : Str), ("_law_wk_apart" : Str), ("_law_odd_door" : Str), ("_law_refused" : Str), ("_law_free_doors" : Str), ("_law_made_or_apart" : Str), ("_law_unlike" : Str)]
abbrev lawIx : Nat := 33
abbrev Rr : PySem.W.OpenRow := PySem.W.OpenLaw.row PySem.Challenge.rw_pulledrooms_k00_houses_judged
def exL (K : PySem.W.Frag) : List Bool := [excCB K (He.ga K "BadDoors"), decide (PySem.W.kitOne K (.ref (He.ga K "BadDoors")) (.ref (He.ga K "BadDoors")) = some true), excCB K (He.ga K "BadRooms"), decide (PySem.W.kitOne K (.ref (He.ga K "BadRooms")) (.ref (He.ga K "BadRooms")) = some true), clsB K (He.ga K "House") ["rooms", "doors"], supB Rr.prog.main.file K "Apart" "Apart.__init__" "room", neCB K (He.ga K "House"), decide ((He.cT K ("_law_made_or_apart", none)).2 ≠ (He.cT K ("_law_refused", none)).2), decide ((He.cT K ("_law_made_or_apart", none)).2 ≠ (He.cT K ("law", none)).2), decide ((He.cT K ("_law_refused", none)).2 ≠ (He.cT K ("law", none)).2)]
def exB (K : PySem.W.Frag) : Bool := (exL K).all id
theorem exB_get {K : PySem.W.Frag} (h : exB K = true) (i : Nat) {b : Bool} (e : (exL K)[i]? = some b) : b = true := List.all_eq_true.mp h b (List.mem_of_getElem? e)
def lawP : List He.Defn := [("_law_made_or_apart", none), ("_law_refused", none), ("law", none)]
abbrev lawTt (K : PySem.W.Frag) : List (Addr × Str) := [((He.cT K ("_law_made_or_apart", none)).2, "_law_made_or_apart.<locals>.<lambda>"), ((He.cT K ("_law_refused", none)).2, "_law_refused.<locals>.<lambda>"), ((He.cT K ("law", none)).2, "law.<locals>.<lambda>")]
abbrev hkX : PySem.W.Hook := hookS supL 5 hfa hfn lawP exB
def obK (s : PySem.W.SharedT) : AlS := obsS supL hfa hfn lawP exB (HandSHeadRun.getT s) (He.asD (HandSHeadRun.getT s) 5)
theorem obK_eq (s : PySem.W.SharedT) : obK s = hkX.obs s.abs := obsS_eq (HandSHeadRun.getT_eq s)
theorem runK (w : World) : HandSHeadRun.RunEq Rr (PySem.W.view Rr.prog [lawIx]) hkX obK 8000 hloose w := by
  intro os
  kernel_rfl
end Kx


/-! The data layer: values as trees of data, environments, the rules of the hand layer told without heaps. -/
namespace HD
open PySem PySem.Spec PyProof.Rows L2

/-- data -/
inductive D where
  | non | bl (b : Bool) | int (i : Int) | str (x : Str) | ty (n : String) | raw (a : Addr)
  | lst (l : List D) | tup (l : List D)
  | dic (ks : List Key) (l : List D)
  | ins (C : Addr) (ns : List Str) (l : List D)
  | exc (C : Addr) (ns : List Str) (l : List D)
  | dct

abbrev AP := Addr → Prop
/-- an exception object that was caught -/
def excH (a C : Addr) (od : Option Addr) : HO := .ext fun h => ∃ (oe : Obj) (vs : Array Value), h.get? a = some oe ∧ Zc (.ref C) od oe ∧ oe.data = .fields vs

mutual
inductive Is (X : AP) (H : Hp) : V → D → Prop
  | non : Is X H .non .non
  | bl (b : Bool) : Is X H (.bl b) (.bl b)
  | int (i : Int) : Is X H (.int i) (.int i)
  | str (x : Str) : Is X H (.str x) (.str x)
  | ty (n : String) : Is X H (.ty n) (.ty n)
  | raw (a : Addr) : Is X H (.ref a) (.raw a)
  | lst {a : Addr} {xs : List V} {ds : List D} : ¬ X a → H a = some (.lst xs) → IsAll X H xs ds → Is X H (.ref a) (.lst ds)
  | tup {a : Addr} {xs : List V} {ds : List D} : ¬ X a → H a = some (.tup xs) → IsAll X H xs ds → Is X H (.ref a) (.tup ds)
  | dic {a : Addr} {kvs : List (Key × V)} {ks : List Key} {ds : List D} : ¬ X a → H a = some (.dK kvs) → kvs.map (·.1) = ks → IsAll X H (kvs.map (·.2)) ds → Is X H (.ref a) (.dic ks ds)
  | ins {a C dx : Addr} {fs : List (Str × V)} {ns : List Str} {ds : List D} : ¬ X a → H a = some (.ins C dx fs) → fs.map (·.1) = ns → IsAll X H (fs.map (·.2)) ds → Is X H (.ref a) (.ins C ns ds)
  | dct {a : Addr} {kvs : List (List Key × V)} : ¬ X a → H a = some (.dT kvs) → Is X H (.ref a) .dct
  | exc0 {a C : Addr} : ¬ X a → H a = some (excH a C none) → Is X H (.ref a) (.exc C [] [])
  | exc {a C dd : Addr} {fs : List (Str × V)} {ns : List Str} {ds : List D} : ns ≠ [] → ¬ X a → H a = some (excH a C (some dd)) → ¬ X dd → H dd = some (.xd fs) → fs.map (·.1) = ns → IsAll X H (fs.map (·.2)) ds → Is X H (.ref a) (.exc C ns ds)
inductive IsAll (X : AP) (H : Hp) : List V → List D → Prop
  | nil : IsAll X H [] []
  | cons {v : V} {vs : List V} {d : D} {ds : List D} : Is X H v d → IsAll X H vs ds → IsAll X H (v :: vs) (d :: ds)
end

/-- what stands outside X is kept and stays outside -/
def Mv (X : AP) (H : Hp) (X' : AP) (H' : Hp) : Prop := ∀ a o, H a = some o → ¬ X a → H' a = some o ∧ ¬ X' a
theorem Mv.rd {X X' : AP} {H H' : Hp} (k : Mv X H X' H') {a : Addr} {u : HO} (hx : ¬ X a) (r : Rd H a u) : Rd H' a u ∧ ¬ X' a := by
  rcases r with r | ⟨o, r⟩
  · exact ⟨.inl (k _ _ r hx).1, (k _ _ r hx).2⟩
  · exact ⟨.inr ⟨o, (k _ _ r hx).1⟩, (k _ _ r hx).2⟩
mutual
theorem Is.mv {X X' : AP} {H H' : Hp} (k : Mv X H X' H') : ∀ (d : D) {v : V}, Is X H v d → Is X' H' v d
  | .non, _, .non => .non
  | .bl b, _, .bl _ => .bl b
  | .int i, _, .int _ => .int i
  | .str x, _, .str _ => .str x
  | .ty n, _, .ty _ => .ty n
  | .raw a, _, .raw _ => .raw a
  | .lst ds, _, .lst hx hr ha => .lst (k _ _ hr hx).2 (k _ _ hr hx).1 (IsAll.mv k ds ha)
  | .tup ds, _, .tup hx hr ha => .tup (k _ _ hr hx).2 (k _ _ hr hx).1 (IsAll.mv k ds ha)
  | .dic ks ds, _, .dic hx hr hk ha => .dic (k _ _ hr hx).2 (k _ _ hr hx).1 hk (IsAll.mv k ds ha)
  | .ins C ns ds, _, .ins hx hr hk ha => .ins (k _ _ hr hx).2 (k _ _ hr hx).1 hk (IsAll.mv k ds ha)
  | .dct, _, .dct hx hr => .dct (k _ _ hr hx).2 (k _ _ hr hx).1
  | .exc C _ _, _, .exc0 hx hr => .exc0 (k _ _ hr hx).2 (k _ _ hr hx).1
  | .exc C ns ds, _, .exc hne hx hr hy hs hk ha => .exc hne (k _ _ hr hx).2 (k _ _ hr hx).1 (k _ _ hs hy).2 (k _ _ hs hy).1 hk (IsAll.mv k ds ha)
theorem IsAll.mv {X X' : AP} {H H' : Hp} (k : Mv X H X' H') : ∀ (ds : List D) {vs : List V}, IsAll X H vs ds → IsAll X' H' vs ds
  | [], _, .nil => .nil
  | d :: ds, _, .cons h t => .cons (Is.mv k d h) (IsAll.mv k ds t)
end
theorem IsAll.len {X : AP} {H : Hp} : ∀ {vs : List V} {ds : List D}, IsAll X H vs ds → vs.length = ds.length
  | _, _, .nil => rfl
  | _, _, .cons _ t => by rw [List.length_cons, List.length_cons, t.len]
theorem IsAll.get {X : AP} {H : Hp} : ∀ {vs : List V} {ds : List D} {i : Nat} {v : V}, IsAll X H vs ds → vs[i]? = some v → ∃ d, ds[i]? = some d ∧ Is X H v d
  | _, _, _, _, .nil, e => by simp at e
  | _, _, 0, _, .cons h _, e => by simp at e; subst e; exact ⟨_, rfl, h⟩
  | _, _, i + 1, v, .cons _ t, e => by
    obtain ⟨d, h1, h2⟩ := t.get (i := i) (v := v) (by simpa using e)
    exact ⟨d, by simpa using h1, h2⟩
theorem IsAll.got {X : AP} {H : Hp} : ∀ {vs : List V} {ds : List D} {i : Nat} {d : D}, IsAll X H vs ds → ds[i]? = some d → ∃ v, vs[i]? = some v ∧ Is X H v d
  | _, _, _, _, .nil, e => by simp at e
  | _, _, 0, _, .cons h _, e => by simp at e; subst e; exact ⟨_, rfl, h⟩
  | _, _, i + 1, v, .cons _ t, e => by
    obtain ⟨d, h1, h2⟩ := t.got (i := i) (by simpa using e)
    exact ⟨d, by simpa using h1, h2⟩
theorem IsAll.append {X : AP} {H : Hp} : ∀ {vs ws : List V} {ds es : List D}, IsAll X H vs ds → IsAll X H ws es → IsAll X H (vs ++ ws) (ds ++ es)
  | _, _, _, _, .nil, s => s
  | _, _, _, _, .cons h t, s => .cons h (t.append s)
theorem IsAll.take {X : AP} {H : Hp} : ∀ (n : Nat) {vs : List V} {ds : List D}, IsAll X H vs ds → IsAll X H (vs.take n) (ds.take n)
  | 0, _, _, _ => .nil
  | _ + 1, _, _, .nil => .nil
  | n + 1, _, _, .cons h t => .cons h (IsAll.take n t)
theorem IsAll.drop {X : AP} {H : Hp} : ∀ (n : Nat) {vs : List V} {ds : List D}, IsAll X H vs ds → IsAll X H (vs.drop n) (ds.drop n)
  | 0, _, _, h => h
  | _ + 1, _, _, .nil => .nil
  | n + 1, _, _, .cons _ t => IsAll.drop n t
theorem IsAll.set {X : AP} {H : Hp} {v : V} {d : D} (h : Is X H v d) : ∀ (n : Nat) {vs : List V} {ds : List D}, IsAll X H vs ds → IsAll X H (vs.set n v) (ds.set n d)
  | _, _, _, .nil => .nil
  | 0, _, _, .cons _ t => .cons h t
  | n + 1, _, _, .cons q t => .cons q (IsAll.set h n t)
theorem IsAll.snoc {X : AP} {H : Hp} {v : V} {d : D} {vs : List V} {ds : List D} (h : IsAll X H vs ds) (q : Is X H v d) : IsAll X H (vs ++ [v]) (ds ++ [d]) := h.append (.cons q .nil)
theorem IsAll.eraseIdx {X : AP} {H : Hp} : ∀ (n : Nat) {vs : List V} {ds : List D}, IsAll X H vs ds → IsAll X H (vs.eraseIdx n) (ds.eraseIdx n)
  | _, _, _, .nil => .nil
  | 0, _, _, .cons _ t => t
  | n + 1, _, _, .cons q t => .cons q (IsAll.eraseIdx n t)
theorem IsAll.reverse {X : AP} {H : Hp} : ∀ {vs : List V} {ds : List D}, IsAll X H vs ds → IsAll X H vs.reverse ds.reverse
  | _, _, .nil => .nil
  | _, _, .cons h t => by rw [List.reverse_cons, List.reverse_cons]; exact t.reverse.snoc h
/-- the content of a mutable object -/
inductive Ob (X : AP) (H : Hp) : HO → D → Prop
  | lst {xs : List V} {ds : List D} : IsAll X H xs ds → Ob X H (.lst xs) (.lst ds)
  | dic {kvs : List (Key × V)} {ks : List Key} {ds : List D} : kvs.map (·.1) = ks → IsAll X H (kvs.map (·.2)) ds → Ob X H (.dK kvs) (.dic ks ds)
  | ins {C dx : Addr} {fs : List (Str × V)} {ns : List Str} {ds : List D} : fs.map (·.1) = ns → IsAll X H (fs.map (·.2)) ds → Ob X H (.ins C dx fs) (.ins C ns ds)
theorem Ob.mv {X X' : AP} {H H' : Hp} (k : Mv X H X' H') {o : HO} {d : D} : Ob X H o d → Ob X' H' o d
  | .lst h => .lst (h.mv k _)
  | .dic e h => .dic e (h.mv k _)
  | .ins e h => .ins e (h.mv k _)
/-- frozen -/
theorem Ob.is {X X' : AP} {H : Hp} {a : Addr} {o : HO} {d : D} (e : H a = some o) (hx : ¬ X' a) (k : Mv X H X' H) : Ob X H o d → Is X' H (.ref a) d
  | .lst h => .lst hx e (h.mv k _)
  | .dic q h => .dic hx e q (h.mv k _)
  | .ins q h => .ins hx e q (h.mv k _)

/-! ### what is fixed through a def's body -/
/-- how an exception of the class C with its fields is held: od its dict -/
def ExF (X : AP) (H : Hp) (od : Option Addr) (ns : List Str) (l : List D) : Prop := (ns = [] ∧ l = [] ∧ od = none) ∨ ∃ (dd : Addr) (fs : List (Str × V)), ns ≠ [] ∧ od = some dd ∧ ¬ X dd ∧ H dd = some (.xd fs) ∧ fs.map (·.1) = ns ∧ IsAll X H (fs.map (·.2)) l
def Frm (V : AP) (H H' : Hp) : Prop := ∀ a o, H a = some o → ¬ V a → H' a = some o
/-- never changed -/
def KeepO : HO → Prop
  | .lst _ => False
  | .dK _ => False
  | .dT _ => False
  | .set _ _ => False
  | .ins _ _ _ => False
  | _ => True
structure Wd where
  V : AP
  X0 : AP
  G : Nat → Hp → Prop
  H0 : Hp
  E : XK
  EP : Nat → Addr → List Str → List D → Prop
  vx : ∀ a, V a → X0 a
  xd : ∀ a, X0 a → H0 a ≠ none
  vd : ∀ n H, G n H → ∀ a, V a → H a ≠ none
  stab : ∀ n H H', (∀ a o, H a = some o → V a ∨ KeepO o → H' a = some o) → G n H → G n H'
  hE : ∀ n C ns l od H', EP n C ns l → Frm V H0 H' → G n H' → ExF X0 H' od ns l → E (.ref C) od H'

abbrev Rho := List (Option (Bool × D))
abbrev ZL := List (Addr × HO)
abbrev TL := List (V × D)
/-- the slots' own objects -/
def Own (ρ : Rho) (σ : L2.St) (a : Addr) : Prop := ∃ (i : Nat) (d : D), ρ[i]? = some (some (true, d)) ∧ σ[i]? = some (some (.ref a))
def XX (W : Wd) (Z : ZL) (ρ : Rho) (σ : L2.St) (a : Addr) : Prop := W.X0 a ∨ Own ρ σ a ∨ ∃ o, (a, o) ∈ Z
structure Env (W : Wd) (n : Nat) (Z : ZL) (T : TL) (ρ : Rho) (σ : L2.St) (H : Hp) : Prop where
  len : σ.length = ρ.length
  sh : ∀ (i : Nat) (d : D), ρ[i]? = some (some (false, d)) → ∃ v, σ[i]? = some (some v) ∧ Is (XX W Z ρ σ) H v d
  ow : ∀ (i : Nat) (d : D), ρ[i]? = some (some (true, d)) → ∃ (a : Addr) (o : HO), σ[i]? = some (some (.ref a)) ∧ H a = some o ∧ Ob (XX W Z ρ σ) H o d ∧ W.H0 a = none ∧ ¬ ∃ o, (a, o) ∈ Z
  inj : ∀ (i j : Nat) (d e : D) (a : Addr), ρ[i]? = some (some (true, d)) → ρ[j]? = some (some (true, e)) → σ[i]? = some (some (.ref a)) → σ[j]? = some (some (.ref a)) → i = j
  z : ∀ p, p ∈ Z → H p.1 = some p.2 ∧ W.H0 p.1 = none
  zn : (Z.map (·.1)).Nodup
  t : ∀ p, p ∈ T → Is (XX W Z ρ σ) H p.1 p.2
  fr : Frm W.V W.H0 H
  g : W.G n H

theorem Ob.mut {X : AP} {H : Hp} {o : HO} {d : D} : Ob X H o d → ¬ KeepO o
  | .lst _ => fun h => h
  | .dic _ _ => fun h => h
  | .ins _ _ => fun h => h
section
variable {W : Wd} {n n' : Nat} {Z : ZL} {T : TL} {ρ : Rho} {σ : L2.St} {H H' : Hp}
theorem Env.dom0 (e : Env W n Z T ρ σ H) {a : Addr} (h : H a = none) : W.H0 a = none := by
  cases q : W.H0 a with
  | none => rfl
  | some o =>
    by_cases hv : W.V a
    · exact absurd h (W.vd n H e.g a hv)
    · rw [e.fr a o q hv] at h; cases h
theorem Env.nx0 {a : Addr} (h : W.H0 a = none) : ¬ W.X0 a := fun x => W.xd a x h
theorem Env.nv0 {a : Addr} (h : W.H0 a = none) : ¬ W.V a := fun x => W.xd a (W.vx a x) h
theorem XX.nv {a : Addr} (h : ¬ XX W Z ρ σ a) : ¬ W.V a := fun x => h (.inl (W.vx a x))
theorem Env.xdom (e : Env W n Z T ρ σ H) {a : Addr} (h : XX W Z ρ σ a) : H a ≠ none := by
  rcases h with h | ⟨i, d, h1, h2⟩ | ⟨o, h⟩
  · intro q
    exact W.xd a h (e.dom0 q)
  · obtain ⟨b, o, h3, h4, _⟩ := e.ow i d h1
    rw [h2] at h3; cases h3
    rw [h4]; exact fun z => nomatch z
  · rw [(e.z _ h).1]; exact fun z => nomatch z
/-- the heap outside V is kept -/
theorem Env.heap (e : Env W n Z T ρ σ H) (k : Frm W.V H H') (g : W.G n' H') : Env W n' Z T ρ σ H' := by
  have m : Mv (XX W Z ρ σ) H (XX W Z ρ σ) H' := fun a o h hx => ⟨k a o h (XX.nv hx), hx⟩
  refine ⟨e.len, fun i d h => ?_, fun i d h => ?_, e.inj, fun p hp => ?_, e.zn, fun p hp => (e.t p hp).mv m, fun a o h hv => k a o (e.fr a o h hv) hv, g⟩
  · obtain ⟨v, h1, h2⟩ := e.sh i d h
    exact ⟨v, h1, h2.mv m⟩
  · obtain ⟨a, o, h1, h2, h3, h4, h5⟩ := e.ow i d h
    exact ⟨a, o, h1, k a o h2 (Env.nv0 h4), h3.mv m, h4, h5⟩
  · obtain ⟨h1, h2⟩ := e.z p hp
    exact ⟨k _ _ h1 (Env.nv0 h2), h2⟩
/-- what is tracked is kept -/
theorem Env.same (e : Env W n Z T ρ σ H) (k : ∀ a o, H a = some o → H' a = some o) : Env W n Z T ρ σ H' := by
  exact e.heap (fun a o h _ => k a o h) (W.stab n H H' (fun a o q _ => k a o q) e.g)
theorem Env.new (e : Env W n Z T ρ σ H) {p : Addr} {o : HO} (h : H p = none) : Env W n Z T ρ σ (upd H p o) := e.same fun a u q => by
  rw [upd_ne (ne_of_none q h)]; exact q
theorem Env.push (e : Env W n Z T ρ σ H) {v : V} {d : D} (h : Is (XX W Z ρ σ) H v d) : Env W n Z ((v, d) :: T) ρ σ H :=
  ⟨e.len, e.sh, e.ow, e.inj, e.z, e.zn, fun p hp => (List.mem_cons.mp hp).elim (fun q => by rw [q]; exact h) (e.t p), e.fr, e.g⟩
theorem Env.pop {T' : TL} (e : Env W n Z T' ρ σ H) (h : ∀ p, p ∈ T → p ∈ T') : Env W n Z T ρ σ H := ⟨e.len, e.sh, e.ow, e.inj, e.z, e.zn, fun p hp => e.t p (h p hp), e.fr, e.g⟩
theorem Env.pop1 {p : V × D} (e : Env W n Z (p :: T) ρ σ H) : Env W n Z T ρ σ H := e.pop fun _ h => List.mem_cons_of_mem _ h
theorem Env.top {v : V} {d : D} (e : Env W n Z ((v, d) :: T) ρ σ H) : Is (XX W Z ρ σ) H v d := e.t (v, d) List.mem_cons_self
def zipT (vs : List V) (ds : List D) : TL := vs.zip ds
theorem zip_all {X : AP} {H : Hp} : ∀ {vs : List V} {ds : List D}, IsAll X H vs ds → ∀ p, p ∈ zipT vs ds → Is X H p.1 p.2
  | _, _, .nil, p, hp => by simp [zipT] at hp
  | _, _, .cons h t, p, hp => by
    unfold zipT at hp
    rw [List.zip_cons_cons] at hp
    rcases List.mem_cons.mp hp with e | e
    · rw [e]; exact h
    · exact zip_all t p e
theorem all_zip {X : AP} {H : Hp} : ∀ {vs : List V} {ds : List D}, vs.length = ds.length → (∀ p, p ∈ zipT vs ds → Is X H p.1 p.2) → IsAll X H vs ds
  | [], [], _, _ => .nil
  | [], _ :: _, h, _ => by simp at h
  | _ :: _, [], h, _ => by simp at h
  | v :: vs, d :: ds, h, k => by
    have k' : ∀ p, p ∈ (v, d) :: zipT vs ds → Is X H p.1 p.2 := k
    exact .cons (k' (v, d) List.mem_cons_self) (all_zip (by simpa using h) fun p hp => k' p (List.mem_cons_of_mem _ hp))
theorem Env.pushAll (e : Env W n Z T ρ σ H) {vs : List V} {ds : List D} (h : IsAll (XX W Z ρ σ) H vs ds) : Env W n Z (zipT vs ds ++ T) ρ σ H :=
  ⟨e.len, e.sh, e.ow, e.inj, e.z, e.zn, fun p hp => (List.mem_append.mp hp).elim (zip_all h p) (e.t p), e.fr, e.g⟩
theorem Env.topAll {vs : List V} {ds : List D} (e : Env W n Z (zipT vs ds ++ T) ρ σ H) (hl : vs.length = ds.length) : IsAll (XX W Z ρ σ) H vs ds := all_zip hl fun p hp => e.t p (List.mem_append_left _ hp)
theorem Env.popAll {T' : TL} (e : Env W n Z (T' ++ T) ρ σ H) : Env W n Z T ρ σ H := e.pop fun _ h => List.mem_append_right _ h

/-! ### pending objects -/
theorem Env.znew (e : Env W n Z T ρ σ H) {p : Addr} (h : H p = none) : ¬ ∃ o, (p, o) ∈ Z := fun ⟨o, q⟩ => by
  rw [(e.z _ q).1] at h; cases h
/-- a new object is laid, pending -/
theorem Env.lay (e : Env W n Z T ρ σ H) {p : Addr} {o : HO} (h : H p = none) : Env W n ((p, o) :: Z) T ρ σ (upd H p o) := by
  have m : Mv (XX W Z ρ σ) H (XX W ((p, o) :: Z) ρ σ) (upd H p o) := fun a u q hx => by
    have ne : a ≠ p := ne_of_none q h
    refine ⟨by rw [upd_ne ne]; exact q, fun x => hx ?_⟩
    rcases x with x | x | ⟨u', x⟩
    · exact .inl x
    · exact .inr (.inl x)
    · rcases List.mem_cons.mp x with y | y
      · cases y; exact absurd rfl ne
      · exact .inr (.inr ⟨u', y⟩)
  have e' := e.new (o := o) h
  refine ⟨e.len, fun i d q => ?_, fun i d q => ?_, e.inj, fun q hq => ?_, ?_, fun q hq => (e.t q hq).mv m, e'.fr, e'.g⟩
  · obtain ⟨v, h1, h2⟩ := e.sh i d q
    exact ⟨v, h1, h2.mv m⟩
  · obtain ⟨a, u, h1, h2, h3, h4, h5⟩ := e.ow i d q
    have ne : a ≠ p := ne_of_none h2 h
    refine ⟨a, u, h1, by rw [upd_ne ne]; exact h2, h3.mv m, h4, fun ⟨u', x⟩ => ?_⟩
    rcases List.mem_cons.mp x with y | y
    · cases y; exact ne rfl
    · exact h5 ⟨u', y⟩
  · rcases List.mem_cons.mp hq with y | y
    · rw [y]; exact ⟨upd_same, e.dom0 h⟩
    · obtain ⟨h1, h2⟩ := e.z q y
      exact ⟨by rw [upd_ne (ne_of_none h1 h)]; exact h1, h2⟩
  · rw [List.map_cons]
    refine List.nodup_cons.mpr ⟨fun x => ?_, e.zn⟩
    obtain ⟨q, hq, eq⟩ := List.mem_map.mp x
    exact e.znew h ⟨q.2, by have eq' : q.1 = p := eq; rw [← eq']; exact hq⟩
/-- a pending object changes its content -/
theorem Env.zput {p : Addr} {o o' : HO} (hk : ¬ KeepO o) (e : Env W n ((p, o) :: Z) T ρ σ H) : Env W n ((p, o') :: Z) T ρ σ (upd H p o') := by
  have hp := e.z (p, o) List.mem_cons_self
  have hz : ∀ q ∈ Z, q.1 ≠ p := fun q hq x => (List.nodup_cons.mp e.zn).1 (List.mem_map.mpr ⟨q, hq, x⟩)
  have m : Mv (XX W ((p, o) :: Z) ρ σ) H (XX W ((p, o') :: Z) ρ σ) (upd H p o') := fun a u q hx => by
    have ne : a ≠ p := fun z => hx (.inr (.inr ⟨o, by rw [z]; exact List.mem_cons_self⟩))
    refine ⟨by rw [upd_ne ne]; exact q, fun x => hx ?_⟩
    rcases x with x | x | ⟨u', x⟩
    · exact .inl x
    · exact .inr (.inl x)
    · rcases List.mem_cons.mp x with y | y
      · cases y; exact absurd rfl ne
      · exact .inr (.inr ⟨u', List.mem_cons_of_mem _ y⟩)
  have nV : ∀ a, W.V a → a ≠ p := fun a hv z => Env.nv0 hp.2 (by rw [← z]; exact hv)
  refine ⟨e.len, fun i d q => ?_, fun i d q => ?_, e.inj, fun q hq => ?_, e.zn, fun q hq => (e.t q hq).mv m, fun a u h hv => ?_, W.stab n H _ (fun a u q hv => by
    have ne : a ≠ p := fun z => by
      rcases hv with hv | hv
      · exact nV a hv z
      · rw [z, hp.1] at q
        cases q
        exact hk hv
    rw [upd_ne ne]; exact q) e.g⟩
  · obtain ⟨v, h1, h2⟩ := e.sh i d q
    exact ⟨v, h1, h2.mv m⟩
  · obtain ⟨a, u, h1, h2, h3, h4, h5⟩ := e.ow i d q
    have ne : a ≠ p := fun z => h5 ⟨o, by rw [z]; exact List.mem_cons_self⟩
    refine ⟨a, u, h1, by rw [upd_ne ne]; exact h2, h3.mv m, h4, fun ⟨u', x⟩ => ?_⟩
    rcases List.mem_cons.mp x with y | y
    · cases y; exact ne rfl
    · exact h5 ⟨u', List.mem_cons_of_mem _ y⟩
  · rcases List.mem_cons.mp hq with y | y
    · rw [y]; exact ⟨upd_same, hp.2⟩
    · obtain ⟨h1, h2⟩ := e.z q (List.mem_cons_of_mem _ y)
      exact ⟨by rw [upd_ne (hz q y)]; exact h1, h2⟩
  · have ne : a ≠ p := fun z => by rw [z, hp.2] at h; cases h
    rw [upd_ne ne]; exact e.fr a u h hv
theorem Env.zmv {p : Addr} {o : HO} (e : Env W n ((p, o) :: Z) T ρ σ H) : Mv (XX W ((p, o) :: Z) ρ σ) H (XX W Z ρ σ) H ∧ ¬ XX W Z ρ σ p := by
  have hp := e.z (p, o) List.mem_cons_self
  refine ⟨fun a u q hx => ⟨q, fun x => hx ?_⟩, fun x => ?_⟩
  · rcases x with x | x | ⟨u', x⟩
    · exact .inl x
    · exact .inr (.inl x)
    · exact .inr (.inr ⟨u', List.mem_cons_of_mem _ x⟩)
  · rcases x with x | ⟨i, d, h1, h2⟩ | ⟨u', x⟩
    · exact Env.nx0 hp.2 x
    · obtain ⟨a, u, h3, h4, _, _, h5⟩ := e.ow i d h1
      rw [h2] at h3; cases h3
      exact h5 ⟨o, List.mem_cons_self⟩
    · exact (List.nodup_cons.mp e.zn).1 (List.mem_map.mpr ⟨(p, u'), x, rfl⟩)
/-- pending no more -/
theorem Env.zpop {p : Addr} {o : HO} (e : Env W n ((p, o) :: Z) T ρ σ H) : Env W n Z T ρ σ H := by
  obtain ⟨m, _⟩ := e.zmv
  refine ⟨e.len, fun i d q => ?_, fun i d q => ?_, e.inj, fun q hq => e.z q (List.mem_cons_of_mem _ hq), (List.nodup_cons.mp e.zn).2, fun q hq => (e.t q hq).mv m, e.fr, e.g⟩
  · obtain ⟨v, h1, h2⟩ := e.sh i d q
    exact ⟨v, h1, h2.mv m⟩
  · obtain ⟨a, u, h1, h2, h3, h4, h5⟩ := e.ow i d q
    exact ⟨a, u, h1, h2, h3.mv m, h4, fun ⟨u', x⟩ => h5 ⟨u', List.mem_cons_of_mem _ x⟩⟩
theorem Env.zis {p : Addr} {o : HO} {d : D} (e : Env W n ((p, o) :: Z) T ρ σ H) (h : Ob (XX W ((p, o) :: Z) ρ σ) H o d) : Is (XX W Z ρ σ) H (.ref p) d :=
  h.is (e.z (p, o) List.mem_cons_self).1 e.zmv.2 e.zmv.1

/-! ### slots -/
theorem set_get {α : Type} {l : List α} {i j : Nat} {x y : α} (h : (l.set i x)[j]? = some y) : (i = j ∧ y = x ∧ i < l.length) ∨ (i ≠ j ∧ l[j]? = some y) := by
  by_cases e : i = j
  · subst e
    by_cases hl : i < l.length
    · rw [List.getElem?_set_self hl] at h
      exact .inl ⟨rfl, (Option.some.inj h).symm, hl⟩
    · rw [List.getElem?_eq_none (by simpa using hl)] at h; cases h
  · rw [List.getElem?_set_ne e] at h
    exact .inr ⟨e, h⟩
/-- own slots behind a store of something that isn't own -/
theorem Own.back {i : Nat} {s : Option (Bool × D)} {v : Option V} (hs : ∀ d, s ≠ some (true, d)) {a : Addr} (h : Own (ρ.set i s) (σ.set i v) a) : Own ρ σ a := by
  obtain ⟨j, d, h1, h2⟩ := h
  rcases set_get h1 with ⟨_, q, _⟩ | ⟨ne, q⟩
  · exact absurd q.symm (hs d)
  · rw [List.getElem?_set_ne ne] at h2
    exact ⟨j, d, q, h2⟩
theorem Env.drops (e : Env W n Z T ρ σ H) (i : Nat) (s : Option (Bool × D)) (v : Option V) (hs : ∀ d, s ≠ some (true, d)) : Mv (XX W Z ρ σ) H (XX W Z (ρ.set i s) (σ.set i v)) H := fun a u q hx => ⟨q, fun x => hx (by
  rcases x with x | x | x
  · exact .inl x
  · exact .inr (.inl (Own.back hs x))
  · exact .inr (.inr x))⟩
theorem Env.setG (e : Env W n Z T ρ σ H) (i : Nat) (s : Option (Bool × D)) (v : Option V) (hs : ∀ d, s ≠ some (true, d)) (hv : ∀ d, s = some (false, d) → ∃ x, v = some x ∧ Is (XX W Z ρ σ) H x d) : Env W n Z T (ρ.set i s) (σ.set i v) H := by
  have m := e.drops i s v hs
  refine ⟨by rw [List.length_set, List.length_set]; exact e.len, fun j d h => ?_, fun j d h => ?_, fun j k d1 d2 a h1 h2 h3 h4 => ?_, e.z, e.zn, fun p hp => (e.t p hp).mv m, e.fr, e.g⟩
  · rcases set_get h with ⟨ij, q, hl⟩ | ⟨ne, q⟩
    · subst ij
      obtain ⟨x, hx, hi⟩ := hv d q.symm
      refine ⟨x, ?_, hi.mv m⟩
      rw [List.getElem?_set_self (by rw [e.len]; exact hl), hx]
    · obtain ⟨x, h1, h2⟩ := e.sh j d q
      exact ⟨x, by rw [List.getElem?_set_ne ne]; exact h1, h2.mv m⟩
  · rcases set_get h with ⟨ij, q, hl⟩ | ⟨ne, q⟩
    · exact absurd q.symm (hs d)
    · obtain ⟨a, u, h1, h2, h3, h4⟩ := e.ow j d q
      exact ⟨a, u, by rw [List.getElem?_set_ne ne]; exact h1, h2, h3.mv m, h4⟩
  · rcases set_get h1 with ⟨_, q, _⟩ | ⟨ne1, q1⟩
    · exact absurd q.symm (hs d1)
    · rcases set_get h2 with ⟨_, q, _⟩ | ⟨ne2, q2⟩
      · exact absurd q.symm (hs d2)
      · rw [List.getElem?_set_ne ne1] at h3
        rw [List.getElem?_set_ne ne2] at h4
        exact e.inj j k d1 d2 a q1 q2 h3 h4
/-- a value is stored -/
theorem Env.set (e : Env W n Z T ρ σ H) {i : Nat} {v : V} {d : D} (h : Is (XX W Z ρ σ) H v d) : Env W n Z T (ρ.set i (some (false, d))) (σ.set i (some v)) H :=
  e.setG i _ _ (fun d q => by cases q) fun d' q => by cases q; exact ⟨v, rfl, h⟩
/-- a slot's value is forgotten -/
theorem Env.forget (e : Env W n Z T ρ σ H) (i : Nat) : Env W n Z T (ρ.set i none) σ H := by
  have e' := e.setG i none (σ.getD i none) (fun d q => by cases q) (fun d q => by cases q)
  have q : σ.set i (σ.getD i none) = σ := by
    apply List.ext_getElem?
    intro j
    by_cases ij : i = j
    · subst ij
      by_cases hl : i < σ.length
      · rw [List.getElem?_set_self hl, List.getD_eq_getElem?_getD, List.getElem?_eq_getElem hl]; rfl
      · rw [List.getElem?_eq_none (by simpa using hl), List.getElem?_eq_none (by simpa using hl)]
    · rw [List.getElem?_set_ne ij]
  rw [q] at e'
  exact e'
/-- a slot's own object is read only from now on -/
theorem Env.freeze (e : Env W n Z T ρ σ H) {i : Nat} {d : D} (h : ρ[i]? = some (some (true, d))) : Env W n Z T (ρ.set i (some (false, d))) σ H := by
  obtain ⟨a, o, h1, h2, h3, h4, h5⟩ := e.ow i d h
  have hi : i < ρ.length := (List.getElem?_eq_some_iff.mp h).1
  have back : ∀ b, Own (ρ.set i (some (false, d))) σ b → Own ρ σ b ∧ b ≠ a := fun b ⟨j, d', q1, q2⟩ => by
    rcases set_get q1 with ⟨_, q, _⟩ | ⟨ne, q⟩
    · cases q
    · exact ⟨⟨j, d', q, q2⟩, fun z => ne (e.inj i j d d' a h q h1 (by rw [← z]; exact q2))⟩
  have m : Mv (XX W Z ρ σ) H (XX W Z (ρ.set i (some (false, d))) σ) H := fun b u q hx => ⟨q, fun x => hx (by
    rcases x with x | x | x
    · exact .inl x
    · exact .inr (.inl (back b x).1)
    · exact .inr (.inr x))⟩
  have na : ¬ XX W Z (ρ.set i (some (false, d))) σ a := fun x => by
    rcases x with x | x | x
    · exact Env.nx0 h4 x
    · exact (back a x).2 rfl
    · exact h5 x
  refine ⟨by rw [List.length_set]; exact e.len, fun j d' q => ?_, fun j d' q => ?_, fun j k d1 d2 b q1 q2 q3 q4 => ?_, e.z, e.zn, fun p hp => (e.t p hp).mv m, e.fr, e.g⟩
  · rcases set_get q with ⟨ij, q', _⟩ | ⟨ne, q⟩
    · subst ij
      cases q'
      exact ⟨V.ref a, h1, h3.is h2 na m⟩
    · obtain ⟨x, q1, q2⟩ := e.sh j d' q
      exact ⟨x, q1, q2.mv m⟩
  · rcases set_get q with ⟨_, q, _⟩ | ⟨ne, q⟩
    · cases q
    · obtain ⟨b, u, q1, q2, q3, q4⟩ := e.ow j d' q
      exact ⟨b, u, q1, q2, q3.mv m, q4⟩
  · rcases set_get q1 with ⟨_, q, _⟩ | ⟨ne1, q1⟩
    · cases q
    · rcases set_get q2 with ⟨_, q, _⟩ | ⟨ne2, q2⟩
      · cases q
      · exact e.inj j k d1 d2 b q1 q2 q3 q4
/-- a pending object goes to a slot -/
theorem Env.take {p : Addr} {o : HO} {d : D} {i : Nat} (e : Env W n ((p, o) :: Z) T ρ σ H) (h : Ob (XX W ((p, o) :: Z) ρ σ) H o d) : Env W n Z T (ρ.set i (some (true, d))) (σ.set i (some (.ref p))) H := by
  have hp := e.z (p, o) List.mem_cons_self
  have np : ∀ j d, ρ[j]? = some (some (true, d)) → σ[j]? = some (some (V.ref p)) → False := fun j d h1 h2 => by
    obtain ⟨a, u, h3, _, _, _, h5⟩ := e.ow j d h1
    rw [h2] at h3; cases h3
    exact h5 ⟨o, List.mem_cons_self⟩
  have m : Mv (XX W ((p, o) :: Z) ρ σ) H (XX W Z (ρ.set i (some (true, d))) (σ.set i (some (.ref p)))) H := fun a u q hx => ⟨q, fun x => hx (by
    rcases x with x | ⟨j, d', q1, q2⟩ | ⟨u', x⟩
    · exact .inl x
    · rcases set_get q1 with ⟨ij, _, _⟩ | ⟨ne, q1⟩
      · subst ij
        rcases set_get q2 with ⟨_, q, _⟩ | ⟨ne, _⟩
        · cases q
          exact .inr (.inr ⟨o, List.mem_cons_self⟩)
        · exact absurd rfl ne
      · rw [List.getElem?_set_ne ne] at q2
        exact .inr (.inl ⟨j, d', q1, q2⟩)
    · exact .inr (.inr ⟨u', List.mem_cons_of_mem _ x⟩))⟩
  refine ⟨by rw [List.length_set, List.length_set]; exact e.len, fun j d' q => ?_, fun j d' q => ?_, fun j k d1 d2 b q1 q2 q3 q4 => ?_, fun q hq => e.z q (List.mem_cons_of_mem _ hq), (List.nodup_cons.mp e.zn).2, fun q hq => (e.t q hq).mv m, e.fr, e.g⟩
  · rcases set_get q with ⟨_, q, _⟩ | ⟨ne, q⟩
    · cases q
    · obtain ⟨x, q1, q2⟩ := e.sh j d' q
      exact ⟨x, by rw [List.getElem?_set_ne ne]; exact q1, q2.mv m⟩
  · rcases set_get q with ⟨ij, q', hl⟩ | ⟨ne, q⟩
    · subst ij
      cases q'
      refine ⟨p, o, by rw [List.getElem?_set_self (by rw [e.len]; exact hl)], hp.1, h.mv m, hp.2, fun ⟨u, x⟩ => (List.nodup_cons.mp e.zn).1 (List.mem_map.mpr ⟨_, x, rfl⟩)⟩
    · obtain ⟨a, u, h1, h2, h3, h4, h5⟩ := e.ow j d' q
      exact ⟨a, u, by rw [List.getElem?_set_ne ne]; exact h1, h2, h3.mv m, h4, fun ⟨u', x⟩ => h5 ⟨u', List.mem_cons_of_mem _ x⟩⟩
  · rcases set_get q1 with ⟨ij, _, hl⟩ | ⟨ne1, q1⟩
    · subst ij
      rcases set_get q2 with ⟨ik, _, _⟩ | ⟨ne2, q2⟩
      · exact ik
      · rw [List.getElem?_set_self (by rw [e.len]; exact hl)] at q3
        cases q3
        rw [List.getElem?_set_ne ne2] at q4
        exact (np k d2 q2 q4).elim
    · rw [List.getElem?_set_ne ne1] at q3
      rcases set_get q2 with ⟨ik, _, hl⟩ | ⟨ne2, q2⟩
      · subst ik
        rw [List.getElem?_set_self (by rw [e.len]; exact hl)] at q4
        cases q4
        exact (np j d1 q1 q3).elim
      · rw [List.getElem?_set_ne ne2] at q4
        exact e.inj j k d1 d2 b q1 q2 q3 q4
/-- a slot's own object is changed -/
theorem Env.put (e : Env W n Z T ρ σ H) {i : Nat} {a : Addr} {d d' : D} {o' : HO} (h : ρ[i]? = some (some (true, d))) (hs : σ[i]? = some (some (.ref a))) (ho : Ob (XX W Z ρ σ) H o' d') : Env W n Z T (ρ.set i (some (true, d'))) σ (upd H a o') := by
  obtain ⟨a', o, h1, h2, h3, h4, h5⟩ := e.ow i d h
  rw [hs] at h1; cases h1
  have xa : XX W Z ρ σ a := .inr (.inl ⟨i, d, h, hs⟩)
  have own : ∀ b, Own (ρ.set i (some (true, d'))) σ b → Own ρ σ b := fun b ⟨j, d1, q1, q2⟩ => by
    rcases set_get q1 with ⟨ij, _, _⟩ | ⟨ne, q⟩
    · subst ij; exact ⟨i, d, h, q2⟩
    · exact ⟨j, d1, q, q2⟩
  have m : Mv (XX W Z ρ σ) H (XX W Z (ρ.set i (some (true, d'))) σ) (upd H a o') := fun b u q hx => by
    have ne : b ≠ a := fun z => hx (by rw [z]; exact xa)
    refine ⟨by rw [upd_ne ne]; exact q, fun x => hx ?_⟩
    rcases x with x | x | x
    · exact .inl x
    · exact .inr (.inl (own b x))
    · exact .inr (.inr x)
  refine ⟨by rw [List.length_set]; exact e.len, fun j d1 q => ?_, fun j d1 q => ?_, fun j k d1 d2 b q1 q2 q3 q4 => ?_, fun q hq => ?_, e.zn, fun p hp => (e.t p hp).mv m, fun b u q hv => ?_, W.stab n H _ (fun b u q hv => by
    have ne : b ≠ a := fun z => by
      rcases hv with hv | hv
      · exact Env.nv0 h4 (by rw [← z]; exact hv)
      · rw [z, h2] at q
        cases q
        exact h3.mut hv
    rw [upd_ne ne]; exact q) e.g⟩
  · rcases set_get q with ⟨_, q, _⟩ | ⟨ne, q⟩
    · cases q
    · obtain ⟨x, q1, q2⟩ := e.sh j d1 q
      exact ⟨x, q1, q2.mv m⟩
  · rcases set_get q with ⟨ij, q', _⟩ | ⟨ne, q⟩
    · subst ij
      cases q'
      exact ⟨a, o', hs, upd_same, ho.mv m, h4, h5⟩
    · obtain ⟨b, u, q1, q2, q3, q4⟩ := e.ow j d1 q
      have nb : b ≠ a := fun z => ne (e.inj i j d d1 a h q hs (by rw [← z]; exact q1))
      exact ⟨b, u, q1, by rw [upd_ne nb]; exact q2, q3.mv m, q4⟩
  · have back : ∀ j d1, (ρ.set i (some (true, d')))[j]? = some (some (true, d1)) → ∃ d2, ρ[j]? = some (some (true, d2)) := fun j d1 q => by
      rcases set_get q with ⟨ij, _, _⟩ | ⟨ne, q⟩
      · subst ij; exact ⟨d, h⟩
      · exact ⟨d1, q⟩
    obtain ⟨x1, y1⟩ := back j d1 q1
    obtain ⟨x2, y2⟩ := back k d2 q2
    exact e.inj j k x1 x2 b y1 y2 q3 q4
  · obtain ⟨q1, q2⟩ := e.z q hq
    have ne : q.1 ≠ a := fun z => h5 ⟨q.2, by rw [← z]; exact hq⟩
    exact ⟨by rw [upd_ne ne]; exact q1, q2⟩
  · have ne : b ≠ a := fun z => by rw [z, h4] at q; cases q
    rw [upd_ne ne]; exact e.fr b u q hv
end
end HD

namespace HD
open PySem PySem.Spec PyProof.Rows L2

/-! ### what a reading evaluates to -/
/-- data at v, shared or a slot's own -/
def IsW (X : AP) (H : Hp) (v : V) (d : D) : Prop := Is X H v d ∨ ∃ (a : Addr) (o : HO), v = .ref a ∧ H a = some o ∧ Ob X H o d
def RetK (W : Wd) (Z : ZL) (T : TL) (ρ : Rho) (σ : L2.St) (P : Nat → D → Prop) (Q : VK) : Prop := ∀ (n : Nat) (v : V) (d : D) (H' : Hp), P n d → Env W n Z T ρ σ H' → Is (XX W Z ρ σ) H' v d → Q v H'
def RetF (W : Wd) (Z : ZL) (T : TL) (ρ : Rho) (σ : L2.St) (P : Nat → D → Prop) (Q : VK) : Prop := ∀ (n : Nat) (a : Addr) (o : HO) (d : D) (H' : Hp), P n d → Env W n ((a, o) :: Z) T ρ σ H' → Ob (XX W ((a, o) :: Z) ρ σ) H' o d → Q (.ref a) H'
def DE (te : TE) (W : Wd) (n : Nat) (ρ : Rho) (P : Nat → D → Prop) : Prop := ∀ (Z : ZL) (T : TL) (σ : L2.St) (H : Hp), Env W n Z T ρ σ H → ∀ Q : VK, RetK W Z T ρ σ P Q → te σ H Q
def DF (te : TE) (W : Wd) (n : Nat) (ρ : Rho) (P : Nat → D → Prop) : Prop := ∀ (Z : ZL) (T : TL) (σ : L2.St) (H : Hp), Env W n Z T ρ σ H → ∀ Q : VK, RetF W Z T ρ σ P Q → te σ H Q
def DA (ta : TA) (W : Wd) (n : Nat) (ρ : Rho) (P : Nat → List D → Prop) : Prop := ∀ (Z : ZL) (T : TL) (σ : L2.St) (H : Hp), Env W n Z T ρ σ H → ∀ Q : List V → Hp → Prop, (∀ (n : Nat) (vs : List V) (ds : List D) (H' : Hp), P n ds → Env W n Z T ρ σ H' → IsAll (XX W Z ρ σ) H' vs ds → Q vs H') → ta σ H Q
def DT (tt : TT) (W : Wd) (n : Nat) (ρ : Rho) (P : Nat → Bool → Prop) : Prop := ∀ (Z : ZL) (T : TL) (σ : L2.St) (H : Hp), Env W n Z T ρ σ H → ∀ Q : Bool → Hp → Prop, (∀ (n : Nat) (b : Bool) (H' : Hp), P n b → Env W n Z T ρ σ H' → Q b H') → tt σ H Q
def DO (to : TO) (W : Wd) (n : Nat) (ρ : Rho) (P : Nat → Option Int → Prop) : Prop := ∀ (Z : ZL) (T : TL) (σ : L2.St) (H : Hp), Env W n Z T ρ σ H → ∀ Q : Option Int → Hp → Prop, (∀ (n : Nat) (b : Option Int) (H' : Hp), P n b → Env W n Z T ρ σ H' → Q b H') → to σ H Q
/-- operations on values -/
def DR (r : R2) (W : Wd) (n : Nat) (ρ : Rho) (d1 d2 : D) (P : Nat → D → Prop) : Prop := ∀ (Z : ZL) (T : TL) (σ : L2.St) (H : Hp) (v1 v2 : V), Env W n Z T ρ σ H → IsW (XX W Z ρ σ) H v1 d1 → IsW (XX W Z ρ σ) H v2 d2 → ∀ Q : VK, RetK W Z T ρ σ P Q → r v1 v2 H Q
def DRF (r : R2) (W : Wd) (n : Nat) (ρ : Rho) (d1 d2 : D) (P : Nat → D → Prop) : Prop := ∀ (Z : ZL) (T : TL) (σ : L2.St) (H : Hp) (v1 v2 : V), Env W n Z T ρ σ H → IsW (XX W Z ρ σ) H v1 d1 → IsW (XX W Z ρ σ) H v2 d2 → ∀ Q : VK, RetF W Z T ρ σ P Q → r v1 v2 H Q
def DU (r : V → Hp → VK → Prop) (W : Wd) (n : Nat) (ρ : Rho) (d : D) (P : Nat → D → Prop) : Prop := ∀ (Z : ZL) (T : TL) (σ : L2.St) (H : Hp) (v : V), Env W n Z T ρ σ H → IsW (XX W Z ρ σ) H v d → ∀ Q : VK, RetK W Z T ρ σ P Q → r v H Q
def IsWs (X : AP) (H : Hp) (vs : List V) (ds : List D) : Prop := Paired (IsW X H) vs ds
def DC (r : List V → Hp → VK → Prop) (W : Wd) (n : Nat) (ρ : Rho) (ds : List D) (P : Nat → D → Prop) : Prop := ∀ (Z : ZL) (T : TL) (σ : L2.St) (H : Hp) (vs : List V), Env W n Z T ρ σ H → IsWs (XX W Z ρ σ) H vs ds → ∀ Q : VK, RetK W Z T ρ σ P Q → r vs H Q
def DCF (r : List V → Hp → VK → Prop) (W : Wd) (n : Nat) (ρ : Rho) (ds : List D) (P : Nat → D → Prop) : Prop := ∀ (Z : ZL) (T : TL) (σ : L2.St) (H : Hp) (vs : List V), Env W n Z T ρ σ H → IsWs (XX W Z ρ σ) H vs ds → ∀ Q : VK, RetF W Z T ρ σ P Q → r vs H Q
def DSl (r : V → Option Int → Option Int → Hp → VK → Prop) (W : Wd) (n : Nat) (ρ : Rho) (d : D) (lo hi : Option Int) (P : Nat → D → Prop) : Prop := ∀ (Z : ZL) (T : TL) (σ : L2.St) (H : Hp) (v : V), Env W n Z T ρ σ H → IsW (XX W Z ρ σ) H v d → ∀ Q : VK, RetK W Z T ρ σ P Q → r v lo hi H Q

section
variable {W : Wd} {n : Nat} {Z : ZL} {T : TL} {ρ : Rho} {σ : L2.St} {H : Hp} {P P' : Nat → D → Prop} {Q : VK} {te ta tb tc : TE} {tt tu : TT} {r r' : R2} {d d1 d2 : D} {X : AP} {v : V} {K : PySem.W.Frag}

theorem IsAll.ws : ∀ {vs : List V} {ds : List D}, IsAll X H vs ds → IsWs X H vs ds
  | _, _, .nil => .nil
  | _, _, .cons h t => .cons (.inl h) t.ws
theorem RetF.sh (h : RetK W Z T ρ σ P Q) : RetF W Z T ρ σ P Q := fun n a o d H' p e ho => h _ _ d H' p e.zpop (e.zis ho)
theorem DF.de (h : DF te W n ρ P) : DE te W n ρ P := fun Z T σ H e Q k => h Z T σ H e Q (RetF.sh k)
theorem DRF.dr (h : DRF r W n ρ d1 d2 P) : DR r W n ρ d1 d2 P := fun Z T σ H v1 v2 e i1 i2 Q k => h Z T σ H v1 v2 e i1 i2 Q (RetF.sh k)
theorem DCF.dc {r : List V → Hp → VK → Prop} {ds : List D} (h : DCF r W n ρ ds P) : DC r W n ρ ds P := fun Z T σ H vs e i Q k => h Z T σ H vs e i Q (RetF.sh k)
theorem DE.imp (h : DE te W n ρ P) (k : ∀ n d, P n d → P' n d) : DE te W n ρ P' := fun Z T σ H e Q q => h Z T σ H e Q fun n v d H' p => q _ v d H' (k _ d p)
theorem DF.imp (h : DF te W n ρ P) (k : ∀ n d, P n d → P' n d) : DF te W n ρ P' := fun Z T σ H e Q q => h Z T σ H e Q fun n a o d H' p => q _ a o d H' (k _ d p)
theorem DA.imp {ta : TA} {P P' : Nat → List D → Prop} (h : DA ta W n ρ P) (k : ∀ n d, P n d → P' n d) : DA ta W n ρ P' := fun Z T σ H e Q q => h Z T σ H e Q fun n v d H' p => q _ v d H' (k _ d p)
theorem DT.imp {P P' : Nat → Bool → Prop} (h : DT tt W n ρ P) (k : ∀ n d, P n d → P' n d) : DT tt W n ρ P' := fun Z T σ H e Q q => h Z T σ H e Q fun n b H' p => q _ b H' (k _ b p)

/-! inversions -/
theorem isw_non (h : IsW X H v .non) : v = .non := by
  rcases h with h | ⟨a, o, _, _, h⟩
  · cases h; rfl
  · cases h
theorem isw_bl {b : Bool} (h : IsW X H v (.bl b)) : v = .bl b := by
  rcases h with h | ⟨a, o, _, _, h⟩
  · cases h; rfl
  · cases h
theorem isw_int {i : Int} (h : IsW X H v (.int i)) : v = .int i := by
  rcases h with h | ⟨a, o, _, _, h⟩
  · cases h; rfl
  · cases h
theorem isw_str {x : Str} (h : IsW X H v (.str x)) : v = .str x := by
  rcases h with h | ⟨a, o, _, _, h⟩
  · cases h; rfl
  · cases h
theorem isw_ty {c : String} (h : IsW X H v (.ty c)) : v = .ty c := by
  rcases h with h | ⟨a, o, _, _, h⟩
  · cases h; rfl
  · cases h
theorem isw_raw {a : Addr} (h : IsW X H v (.raw a)) : v = .ref a := by
  rcases h with h | ⟨a, o, _, _, h⟩
  · cases h; rfl
  · cases h
theorem isw_lst {ds : List D} (h : IsW X H v (.lst ds)) : ∃ a xs, v = .ref a ∧ H a = some (.lst xs) ∧ IsAll X H xs ds := by
  rcases h with h | ⟨a, o, e, ho, h⟩
  · cases h with
    | lst hx hr ha => exact ⟨_, _, rfl, hr, ha⟩
  · cases h with
    | lst ha => exact ⟨a, _, e, ho, ha⟩
theorem isw_tup {ds : List D} (h : IsW X H v (.tup ds)) : ∃ a xs, v = .ref a ∧ H a = some (.tup xs) ∧ IsAll X H xs ds ∧ ¬ X a := by
  rcases h with h | ⟨a, o, e, ho, h⟩
  · cases h with
    | tup hx hr ha => exact ⟨_, _, rfl, hr, ha, hx⟩
  · cases h
theorem isw_dic {ks : List Key} {ds : List D} (h : IsW X H v (.dic ks ds)) : ∃ a kvs, v = .ref a ∧ H a = some (.dK kvs) ∧ kvs.map (·.1) = ks ∧ IsAll X H (kvs.map (·.2)) ds := by
  rcases h with h | ⟨a, o, e, ho, h⟩
  · cases h with
    | dic hx hr hk ha => exact ⟨_, _, rfl, hr, hk, ha⟩
  · cases h with
    | dic hk ha => exact ⟨a, _, e, ho, hk, ha⟩
theorem isw_ins {C : Addr} {ns : List Str} {ds : List D} (h : IsW X H v (.ins C ns ds)) : ∃ a dx fs, v = .ref a ∧ H a = some (.ins C dx fs) ∧ fs.map (·.1) = ns ∧ IsAll X H (fs.map (·.2)) ds := by
  rcases h with h | ⟨a, o, e, ho, h⟩
  · cases h with
    | ins hx hr hk ha => exact ⟨_, _, _, rfl, hr, hk, ha⟩
  · cases h with
    | ins hk ha => exact ⟨a, _, _, e, ho, hk, ha⟩
theorem all_ints {xs : List V} : ∀ {ns : List Int}, IsAll X H xs (ns.map D.int) → xs = ns.map V.int := by
  intro ns
  induction ns generalizing xs with
  | nil => intro h; cases h; rfl
  | cons n ns ih =>
    intro h
    rw [List.map_cons] at h
    cases h with
    | cons h t => cases h; rw [ih t]; rfl
theorem all_bls {xs : List V} : ∀ {ns : List Bool}, IsAll X H xs (ns.map D.bl) → xs = ns.map V.bl := by
  intro ns
  induction ns generalizing xs with
  | nil => intro h; cases h; rfl
  | cons n ns ih =>
    intro h
    rw [List.map_cons] at h
    cases h with
    | cons h t => cases h; rw [ih t]; rfl
theorem ints_all : ∀ {ns : List Int}, IsAll X H (ns.map V.int) (ns.map D.int)
  | [] => .nil
  | n :: ns => .cons (.int n) ints_all

/-! ### names, constants -/
theorem de_var {i : Nat} (h : ρ[i]? = some (some (false, d))) (p : P n d) : DE (tVar i) W n ρ P := fun Z T σ H e Q k => by
  obtain ⟨v, h1, h2⟩ := e.sh i d h
  exact ⟨v, h1, k _ v d H p e h2⟩
theorem de_non (p : P n .non) : DE (tC .non) W n ρ P := fun Z T σ H e Q k => k _ _ _ H p e .non
theorem de_bl {b : Bool} (p : P n (.bl b)) : DE (tC (.bl b)) W n ρ P := fun Z T σ H e Q k => k _ _ _ H p e (.bl b)
theorem de_int {i : Int} (p : P n (.int i)) : DE (tC (.int i)) W n ρ P := fun Z T σ H e Q k => k _ _ _ H p e (.int i)
theorem de_str {x : Str} (p : P n (.str x)) : DE (tC (.str x)) W n ρ P := fun Z T σ H e Q k => k _ _ _ H p e (.str x)
theorem de_ty {c : String} (p : P n (.ty c)) : DE (tC (.ty c)) W n ρ P := fun Z T σ H e Q k => k _ _ _ H p e (.ty c)
theorem de_raw {a : Addr} (p : P n (.raw a)) : DE (tC (.ref a)) W n ρ P := fun Z T σ H e Q k => k _ _ _ H p e (.raw a)

/-! ### operators -/
theorem de_op (h : DE ta W n ρ fun n d1 => DE tb W n ρ fun n d2 => DR r W n ρ d1 d2 P) : DE (tOp r ta tb) W n ρ P := fun Z T σ H e Q k =>
  h Z T σ H e _ fun n v1 d1 H1 p1 e1 i1 => p1 Z ((v1, d1) :: T) σ H1 (e1.push i1) _ fun n v2 d2 H2 p2 e2 i2 => p2 Z T σ H2 v1 v2 e2.pop1 (.inl e2.top) (.inl i2) Q k
theorem df_op (h : DE ta W n ρ fun n d1 => DE tb W n ρ fun n d2 => DRF r W n ρ d1 d2 P) : DF (tOp r ta tb) W n ρ P := fun Z T σ H e Q k =>
  h Z T σ H e _ fun n v1 d1 H1 p1 e1 i1 => p1 Z ((v1, d1) :: T) σ H1 (e1.push i1) _ fun n v2 d2 H2 p2 e2 i2 => p2 Z T σ H2 v1 v2 e2.pop1 (.inl e2.top) (.inl i2) Q k
/-- the first operand a slot's own object -/
theorem Env.own_w {i : Nat} (e : Env W n Z T ρ σ H) (h : ρ[i]? = some (some (true, d))) : ∃ v, σ[i]? = some (some v) ∧ IsW (XX W Z ρ σ) H v d := by
  obtain ⟨a, o, h1, h2, h3, _⟩ := e.ow i d h
  exact ⟨.ref a, h1, .inr ⟨a, o, rfl, h2, h3⟩⟩
theorem de_op_o {i : Nat} (h1 : ρ[i]? = some (some (true, d1))) (h : DE tb W n ρ fun n d2 => DR r W n ρ d1 d2 P) : DE (tOp r (tVar i) tb) W n ρ P := fun Z T σ H e Q k => by
  obtain ⟨v, q, _⟩ := e.own_w h1
  refine ⟨v, q, h Z T σ H e _ fun n v2 d2 H2 p2 e2 i2 => ?_⟩
  obtain ⟨v', q', w'⟩ := e2.own_w h1
  rw [q] at q'; cases q'
  exact p2 Z T σ H2 v v2 e2 w' (.inl i2) Q k
theorem df_op_o {i : Nat} (h1 : ρ[i]? = some (some (true, d1))) (h : DE tb W n ρ fun n d2 => DRF r W n ρ d1 d2 P) : DF (tOp r (tVar i) tb) W n ρ P := fun Z T σ H e Q k => by
  obtain ⟨v, q, _⟩ := e.own_w h1
  refine ⟨v, q, h Z T σ H e _ fun n v2 d2 H2 p2 e2 i2 => ?_⟩
  obtain ⟨v', q', w'⟩ := e2.own_w h1
  rw [q] at q'; cases q'
  exact p2 Z T σ H2 v v2 e2 w' (.inl i2) Q k
theorem de_op_2o {i : Nat} (h1 : ρ[i]? = some (some (true, d2))) (h : DE ta W n ρ fun n d1 => DR r W n ρ d1 d2 P) : DE (tOp r ta (tVar i)) W n ρ P := fun Z T σ H e Q k =>
  h Z T σ H e _ fun n v1 d1 H1 p1 e1 i1 => by
    obtain ⟨v, q, w'⟩ := e1.own_w h1
    exact ⟨v, q, p1 Z T σ H1 v1 v e1 (.inl i1) w' Q k⟩
theorem de_un {r : V → Hp → VK → Prop} (h : DE ta W n ρ fun n d1 => DU r W n ρ d1 P) : DE (tUn r ta) W n ρ P := fun Z T σ H e Q k =>
  h Z T σ H e _ fun n v1 d1 H1 p1 e1 i1 => p1 Z T σ H1 v1 e1 (.inl i1) Q k
theorem dr_orl (h : DR r W n ρ d1 d2 P) : DR (fun x y H Q => r x y H Q ∨ r' x y H Q) W n ρ d1 d2 P := fun Z T σ H v1 v2 e i1 i2 Q k => .inl (h Z T σ H v1 v2 e i1 i2 Q k)
theorem dr_orr (h : DR r' W n ρ d1 d2 P) : DR (fun x y H Q => r x y H Q ∨ r' x y H Q) W n ρ d1 d2 P := fun Z T σ H v1 v2 e i1 i2 Q k => .inr (h Z T σ H v1 v2 e i1 i2 Q k)
theorem drf_orl (h : DRF r W n ρ d1 d2 P) : DRF (fun x y H Q => r x y H Q ∨ r' x y H Q) W n ρ d1 d2 P := fun Z T σ H v1 v2 e i1 i2 Q k => .inl (h Z T σ H v1 v2 e i1 i2 Q k)
theorem drf_orr (h : DRF r' W n ρ d1 d2 P) : DRF (fun x y H Q => r x y H Q ∨ r' x y H Q) W n ρ d1 d2 P := fun Z T σ H v1 v2 e i1 i2 Q k => .inr (h Z T σ H v1 v2 e i1 i2 Q k)
theorem dr_I0i {g : Int → Int → Int} {i j : Int} (p : P n (.int (g i j))) : DR (rI0 fun i j => .int (g i j)) W n ρ (.int i) (.int j) P := fun Z T σ H v1 v2 e i1 i2 Q k => by
  cases isw_int i1; cases isw_int i2
  exact ⟨i, j, rfl, rfl, k _ _ _ H p e (.int _)⟩
theorem dr_I0b {g : Int → Int → Bool} {i j : Int} (p : P n (.bl (g i j))) : DR (rI0 fun i j => .bl (g i j)) W n ρ (.int i) (.int j) P := fun Z T σ H v1 v2 e i1 i2 Q k => by
  cases isw_int i1; cases isw_int i2
  exact ⟨i, j, rfl, rfl, k _ _ _ H p e (.bl _)⟩
theorem dr_Ii {C : Int → Int → Prop} {g : Int → Int → Int} {i j : Int} (c : C i j) (p : P n (.int (g i j))) : DR (rI C fun i j => .int (g i j)) W n ρ (.int i) (.int j) P := fun Z T σ H v1 v2 e i1 i2 Q k => by
  cases isw_int i1; cases isw_int i2
  exact ⟨i, j, rfl, rfl, c, k _ _ _ H p e (.int _)⟩
theorem du_neg {i : Int} (p : P n (.int (-i))) : DU (rU fun i => .int (-i)) W n ρ (.int i) P := fun Z T σ H v e i1 Q k => by
  cases isw_int i1
  exact ⟨i, rfl, k _ _ _ H p e (.int _)⟩

/-! ### equality -/
mutual
/-- as the model's data -/
def D.toP : D → Option PyData
  | .non => some .none
  | .bl b => some (.bool b)
  | .int i => some (.int i)
  | .str x => some (.str x)
  | .lst l => match toPs l with
    | some ps => some (.list ps)
    | none => none
  | .tup l => match toPs l with
    | some ps => some (.tuple ps)
    | none => none
  | _ => none
def toPs : List D → Option (List PyData)
  | [] => some []
  | d :: ds => match d.toP, toPs ds with
    | some p, some ps => some (p :: ps)
    | _, _ => none
end
mutual
theorem Is.dp : ∀ (d : D) {v : V} {p : PyData}, Is X H v d → d.toP = some p → Dp K H v p
  | .non, _, _, .non, e => by cases e; exact .non
  | .bl b, _, _, .bl _, e => by cases e; exact .bl b
  | .int i, _, _, .int _, e => by cases e; exact .int i
  | .str x, _, _, .str _, e => by cases e; exact .str x
  | .ty _, _, _, _, e => by cases e
  | .raw _, _, _, _, e => by cases e
  | .lst ds, _, p, .lst hx hr ha, e => by
    unfold D.toP at e
    cases q : toPs ds with
    | none => rw [q] at e; cases e
    | some ps => rw [q] at e; cases e; exact .lst (.of hr) (IsAll.dp ds ha q)
  | .tup ds, _, p, .tup hx hr ha, e => by
    unfold D.toP at e
    cases q : toPs ds with
    | none => rw [q] at e; cases e
    | some ps => rw [q] at e; cases e; exact .tup (.of hr) (IsAll.dp ds ha q)
  | .dic _ _, _, _, _, e => by cases e
  | .ins _ _ _, _, _, _, e => by cases e
  | .exc _ _ _, _, _, _, e => by cases e
  | .dct, _, _, _, e => by cases e
theorem IsAll.dp : ∀ (ds : List D) {vs : List V} {ps : List PyData}, IsAll X H vs ds → toPs ds = some ps → DpAll K H vs ps
  | [], _, _, .nil, e => by cases e; exact .nil
  | d :: ds, _, _, .cons h t, e => by
    unfold toPs at e
    cases q : d.toP with
    | none => rw [q] at e; cases e
    | some p =>
      cases q2 : toPs ds with
      | none => rw [q, q2] at e; cases e
      | some ps => rw [q, q2] at e; cases e; exact .cons (Is.dp d h q) (IsAll.dp ds t q2)
end
theorem IsW.dp {p : PyData} (h : IsW X H v d) (e : d.toP = some p) : Dp K H v p := by
  rcases h with h | ⟨a, o, rfl, ho, h⟩
  · exact h.dp d e
  · cases h with
    | lst ha =>
      unfold D.toP at e
      rename_i xs ds
      cases q : toPs ds with
      | none => rw [q] at e; cases e
      | some ps => rw [q] at e; cases e; exact .lst (.of ho) (ha.dp ds q)
    | dic _ _ => cases e
    | ins _ _ => cases e
theorem dr_eq {p1 p2 : PyData} (e1 : d1.toP = some p1) (e2 : d2.toP = some p2) (s1 : SeqAt.shaped p1 = true) (s2 : SeqAt.shaped p2 = true) (p : P n (.bl (PyData.eqv p1 p2))) : DR (rEqD K) W n ρ d1 d2 P := fun Z T σ H v1 v2 e i1 i2 Q k =>
  ⟨p1, p2, i1.dp e1, i2.dp e2, s1, s2, k _ _ _ H p e (.bl _)⟩
theorem dr_ne {p1 p2 : PyData} (e1 : d1.toP = some p1) (e2 : d2.toP = some p2) (s1 : SeqAt.shaped p1 = true) (s2 : SeqAt.shaped p2 = true) (p : P n (.bl (!PyData.eqv p1 p2))) : DR (rNeD K) W n ρ d1 d2 P := fun Z T σ H v1 v2 e i1 i2 Q k =>
  ⟨p1, p2, i1.dp e1, i2.dp e2, s1, s2, k _ _ _ H p e (.bl _)⟩
/-- in, not in a list -/
theorem dr_inD {p1 : PyData} {ps : List PyData} (e1 : d1.toP = some p1) (e2 : d2.toP = some (.list ps)) (s1 : SeqAt.shaped p1 = true) (s2 : SeqAt.shaped (.list ps) = true) (p : P n (.bl (ps.any fun z => PyData.eqv z p1))) : DR (rInD K) W n ρ d1 d2 P := fun Z T σ H v1 v2 e i1 i2 Q k =>
  ⟨p1, ps, i1.dp e1, i2.dp e2, s1, s2, k _ _ _ H p e (.bl _)⟩
theorem dr_notInD {p1 : PyData} {ps : List PyData} (e1 : d1.toP = some p1) (e2 : d2.toP = some (.list ps)) (s1 : SeqAt.shaped p1 = true) (s2 : SeqAt.shaped (.list ps) = true) (p : P n (.bl (!ps.any fun z => PyData.eqv z p1))) : DR (rNotInD K) W n ρ d1 d2 P := fun Z T σ H v1 v2 e i1 i2 Q k =>
  ⟨p1, ps, i1.dp e1, i2.dp e2, s1, s2, k _ _ _ H p e (.bl _)⟩
/-- is None -/
def D.isNon : D → Bool
  | .non => true
  | _ => false
theorem isw_isNon (h : IsW X H v d) : decide (v = .non) = d.isNon := by
  rcases h with h | ⟨a, o, rfl, ho, h⟩
  · cases h <;> rfl
  · cases h <;> rfl
theorem dr_isN (p : P n (.bl d1.isNon)) : DR (fun x y H Q => y = .non ∧ Q (.bl (decide (x = .non))) H) W n ρ d1 .non P := fun Z T σ H v1 v2 e i1 i2 Q k => by
  cases isw_non i2
  exact ⟨rfl, by rw [isw_isNon i1]; exact k _ _ _ H p e (.bl _)⟩
theorem dr_notN (p : P n (.bl (!d1.isNon))) : DR (fun x y H Q => y = .non ∧ Q (.bl (!decide (x = .non))) H) W n ρ d1 .non P := fun Z T σ H v1 v2 e i1 i2 Q k => by
  cases isw_non i2
  exact ⟨rfl, by rw [isw_isNon i1]; exact k _ _ _ H p e (.bl _)⟩
theorem dr_isB {a b : Bool} (p : P n (.bl (decide (a = b)))) : DR (fun x y H Q => ∃ a b, x = .bl a ∧ y = .bl b ∧ Q (.bl (decide (a = b))) H) W n ρ (.bl a) (.bl b) P := fun Z T σ H v1 v2 e i1 i2 Q k => by
  cases isw_bl i1; cases isw_bl i2
  exact ⟨a, b, rfl, rfl, k _ _ _ H p e (.bl _)⟩
theorem dr_isnotB {a b : Bool} (p : P n (.bl (!decide (a = b)))) : DR (fun x y H Q => ∃ a b, x = .bl a ∧ y = .bl b ∧ Q (.bl (!decide (a = b))) H) W n ρ (.bl a) (.bl b) P := fun Z T σ H v1 v2 e i1 i2 Q k => by
  cases isw_bl i1; cases isw_bl i2
  exact ⟨a, b, rfl, rfl, k _ _ _ H p e (.bl _)⟩

/-! ### tests -/
theorem dt_test {P : Nat → Bool → Prop} (h : DE te W n ρ fun n d => ∃ b, d = .bl b ∧ P n b) : DT (tTest te) W n ρ P := fun Z T σ H e Q k =>
  h Z T σ H e _ fun n v d H' ⟨b, hb, p⟩ e' i => by subst hb; cases i; exact ⟨b, rfl, k _ b H' p e'⟩
theorem dt_B {P : Nat → Bool → Prop} (h : DE te W n ρ fun n d => ∃ b, d = .bl b ∧ P n b) : DT (tB te) W n ρ P := fun Z T σ H e Q k =>
  h Z T σ H e _ fun n v d H' ⟨b, hb, p⟩ e' i => by subst hb; cases i; exact ⟨b, rfl, k _ b H' p e'⟩
theorem dt_and {P : Nat → Bool → Prop} (h : DT tt W n ρ fun n b => (b = true → DT tu W n ρ P) ∧ (b = false → P n false)) : DT (tAnd tt tu) W n ρ P := fun Z T σ H e Q k =>
  h Z T σ H e _ fun n b H' p e' => by
    cases b with
    | true => exact p.1 rfl Z T σ H' e' Q k
    | false => exact k _ false H' (p.2 rfl) e'
theorem dt_or {P : Nat → Bool → Prop} (h : DT tt W n ρ fun n b => (b = true → P n true) ∧ (b = false → DT tu W n ρ P)) : DT (tOr tt tu) W n ρ P := fun Z T σ H e Q k =>
  h Z T σ H e _ fun n b H' p e' => by
    cases b with
    | true => exact k _ true H' (p.1 rfl) e'
    | false => exact p.2 rfl Z T σ H' e' Q k
theorem dt_not {P : Nat → Bool → Prop} (h : DT tt W n ρ fun n b => P n (!b)) : DT (tNot tt) W n ρ P := fun Z T σ H e Q k => h Z T σ H e _ fun n b H' p e' => k _ (!b) H' p e'
theorem dt_yes {P : Nat → Bool → Prop} (h : P n true) : DT tYes W n ρ P := fun Z T σ H e Q k => k _ true H h e
theorem de_andV (h : DE ta W n ρ fun n d => ∃ b, d = .bl b ∧ (b = true → DE tb W n ρ P) ∧ (b = false → P n (.bl false))) : DE (tAndV ta tb) W n ρ P := fun Z T σ H e Q k =>
  h Z T σ H e _ fun n v d H' ⟨b, hb, p⟩ e' i => by
    subst hb; cases i
    refine ⟨b, rfl, ?_⟩
    cases b with
    | true => exact p.1 rfl Z T σ H' e' Q k
    | false => exact k _ _ _ H' (p.2 rfl) e' (.bl false)
theorem de_orV (h : DE ta W n ρ fun n d => ∃ b, d = .bl b ∧ (b = true → P n (.bl true)) ∧ (b = false → DE tb W n ρ P)) : DE (tOrV ta tb) W n ρ P := fun Z T σ H e Q k =>
  h Z T σ H e _ fun n v d H' ⟨b, hb, p⟩ e' i => by
    subst hb; cases i
    refine ⟨b, rfl, ?_⟩
    cases b with
    | true => exact k _ _ _ H' (p.1 rfl) e' (.bl true)
    | false => exact p.2 rfl Z T σ H' e' Q k
theorem de_notV (h : DE ta W n ρ fun n d => ∃ b, d = .bl b ∧ P n (.bl (!b))) : DE (tNotV ta) W n ρ P := fun Z T σ H e Q k =>
  h Z T σ H e _ fun n v d H' ⟨b, hb, p⟩ e' i => by subst hb; cases i; exact ⟨b, rfl, k _ _ _ H' p e' (.bl _)⟩
theorem de_if (h : DT tt W n ρ fun n b => (b = true → DE ta W n ρ P) ∧ (b = false → DE tb W n ρ P)) : DE (tIf tt ta tb) W n ρ P := fun Z T σ H e Q k =>
  h Z T σ H e _ fun n b H' p e' => by
    cases b with
    | true => exact p.1 rfl Z T σ H' e' Q k
    | false => exact p.2 rfl Z T σ H' e' Q k
theorem df_if (h : DT tt W n ρ fun n b => (b = true → DF ta W n ρ P) ∧ (b = false → DF tb W n ρ P)) : DF (tIf tt ta tb) W n ρ P := fun Z T σ H e Q k =>
  h Z T σ H e _ fun n b H' p e' => by
    cases b with
    | true => exact p.1 rfl Z T σ H' e' Q k
    | false => exact p.2 rfl Z T σ H' e' Q k
theorem de_chain (h : DE ta W n ρ fun n d1 => DE tb W n ρ fun n d2 => DR r W n ρ d1 d2 fun n z => ∃ b, z = .bl b ∧ (b = true → DE tc W n ρ fun n d3 => DR r' W n ρ d2 d3 P) ∧ (b = false → P n (.bl false))) : DE (tChain r r' ta tb tc) W n ρ P := fun Z T σ H e Q k =>
  h Z T σ H e _ fun n v1 d1 H1 p1 e1 i1 => p1 Z ((v1, d1) :: T) σ H1 (e1.push i1) _ fun n v2 d2 H2 p2 e2 i2 => p2 Z ((v2, d2) :: T) σ H2 v1 v2 (e2.pop1.push i2) (.inl e2.top) (.inl i2) _ fun n v3 d3 H3 ⟨b, hb, p⟩ e3 i3 => by
    subst hb; cases i3
    refine ⟨b, rfl, ?_⟩
    cases b with
    | true => exact p.1 rfl Z ((v2, d2) :: T) σ H3 e3 _ fun n v4 d4 H4 p4 e4 i4 => p4 Z T σ H4 v2 v4 e4.pop1 (.inl e4.top) (.inl i4) Q k
    | false => exact k _ _ _ H3 (p.2 rfl) e3.pop1 (.bl false)

/-! ### arguments, displays -/
theorem da_nil {P : Nat → List D → Prop} (p : P n []) : DA tNil W n ρ P := fun Z T σ H e Q k => k _ [] [] H p e .nil
theorem da_cons {tr : TA} {P : Nat → List D → Prop} (h : DE ta W n ρ fun n d => DA tr W n ρ fun n ds => P n (d :: ds)) : DA (tCons ta tr) W n ρ P := fun Z T σ H e Q k =>
  h Z T σ H e _ fun n v d H1 p1 e1 i1 => p1 Z ((v, d) :: T) σ H1 (e1.push i1) _ fun n vs ds H2 p2 e2 i2 => k _ (v :: vs) (d :: ds) H2 p2 e2.pop1 (.cons e2.top i2)
theorem de_tup {ta : TA} (h : DA ta W n ρ fun n ds => ds.length ≤ sizeLine ∧ P n (.tup ds)) : DE (tTup ta) W n ρ P := fun Z T σ H e Q k =>
  h Z T σ H e _ fun n vs ds H1 p1 e1 i1 => ⟨by rw [i1.len]; exact p1.1, fun p hp => by
    have e2 := e1.lay (o := .tup vs) hp
    refine k _ _ _ _ p1.2 e2.zpop (.tup e2.zmv.2 upd_same (i1.mv (fun a u q hx => ⟨by rw [upd_ne (ne_of_none q hp)]; exact q, hx⟩) _))⟩
theorem lay_mv {p : Addr} {o : HO} (e : Env W n Z T ρ σ H) (hp : H p = none) : Mv (XX W Z ρ σ) H (XX W ((p, o) :: Z) ρ σ) (upd H p o) := fun a u q hx => by
  have ne : a ≠ p := ne_of_none q hp
  refine ⟨by rw [upd_ne ne]; exact q, fun x => hx ?_⟩
  rcases x with x | x | ⟨u', x⟩
  · exact .inl x
  · exact .inr (.inl x)
  · rcases List.mem_cons.mp x with y | y
    · cases y; exact absurd rfl ne
    · exact .inr (.inr ⟨u', y⟩)
theorem df_lst {ta : TA} (h : DA ta W n ρ fun n ds => ds.length ≤ sizeLine ∧ P n (.lst ds)) : DF (tLst ta) W n ρ P := fun Z T σ H e Q k =>
  h Z T σ H e _ fun n vs ds H1 p1 e1 i1 => ⟨by rw [i1.len]; exact p1.1, fun p hp => k _ p _ _ _ p1.2 (e1.lay hp) (.lst (i1.mv (lay_mv e1 hp) _))⟩
theorem df_dnew (p : P n (.dic [] [])) : DF tDNewK W n ρ P := fun Z T σ H e Q k => fun a ha => k _ a _ _ _ p (e.lay ha) (.dic rfl .nil)

/-! ### calls by values -/
theorem de_cb {ta : TA} {r : List V → Hp → VK → Prop} (h : DA ta W n ρ fun n ds => DC r W n ρ ds P) : DE (tCB r ta) W n ρ P := fun Z T σ H e Q k =>
  h Z T σ H e _ fun n vs ds H1 p1 e1 i1 => p1 Z T σ H1 vs e1 i1.ws Q k
theorem df_cb {ta : TA} {r : List V → Hp → VK → Prop} (h : DA ta W n ρ fun n ds => DCF r W n ρ ds P) : DF (tCB r ta) W n ρ P := fun Z T σ H e Q k =>
  h Z T σ H e _ fun n vs ds H1 p1 e1 i1 => p1 Z T σ H1 vs e1 i1.ws Q k
/-- of a slot's own object -/
theorem de_cb_o {i : Nat} {r : List V → Hp → VK → Prop} (h1 : ρ[i]? = some (some (true, d))) (h : DC r W n ρ [d] P) : DE (tCB r (tCons (tVar i) tNil)) W n ρ P := fun Z T σ H e Q k => by
  obtain ⟨v, q, w'⟩ := e.own_w h1
  exact ⟨v, q, h Z T σ H [v] e (.cons w' .nil) Q k⟩
theorem df_cb_o {i : Nat} {r : List V → Hp → VK → Prop} (h1 : ρ[i]? = some (some (true, d))) (h : DCF r W n ρ [d] P) : DF (tCB r (tCons (tVar i) tNil)) W n ρ P := fun Z T σ H e Q k => by
  obtain ⟨v, q, w'⟩ := e.own_w h1
  exact ⟨v, q, h Z T σ H [v] e (.cons w' .nil) Q k⟩
/-! ### slices -/
theorem do_none {P : Nat → Option Int → Prop} (p : P n none) : DO tNoPart W n ρ P := fun Z T σ H e Q k => k _ none H p e
theorem do_some {P : Nat → Option Int → Prop} (h : DE te W n ρ fun n d => ∃ i, d = .int i ∧ P n (some i)) : DO (tPart te) W n ρ P := fun Z T σ H e Q k =>
  h Z T σ H e _ fun n v d H' ⟨b, hb, p⟩ e' i => by subst hb; cases i; exact ⟨b, rfl, k _ _ H' p e'⟩
theorem de_sl {tl th : TO} {r : V → Option Int → Option Int → Hp → VK → Prop} (h : DE ta W n ρ fun n d1 => DO tl W n ρ fun n lo => DO th W n ρ fun n hi => DSl r W n ρ d1 lo hi P) : DE (tSl r ta tl th) W n ρ P := fun Z T σ H e Q k =>
  h Z T σ H e _ fun n v1 d1 H1 p1 e1 i1 => p1 Z ((v1, d1) :: T) σ H1 (e1.push i1) _ fun n lo H2 p2 e2 => p2 Z ((v1, d1) :: T) σ H2 e2 _ fun n hi H3 p3 e3 => p3 Z T σ H3 v1 e3.pop1 (.inl e3.top) Q k
end
end HD

namespace HD
open PySem PySem.Spec PyProof.Rows L2

/-! ### statements -/
structure Fin (W : Wd) (Z : ZL) (T : TL) (De : Ends) (N : Nat → Rho → Prop) (R : Nat → Bool → D → Prop) (B C : Nat → Rho → Prop) : Prop where
  nx : ∀ n ρ σ H, N n ρ → Env W n Z T ρ σ H → De.nx σ H
  rt : ∀ n v d H, R n false d → Frm W.V W.H0 H → W.G n H → Is W.X0 H v d → De.rt v H
  rf : ∀ n a o d H, R n true d → Frm W.V W.H0 H → W.G n H → W.H0 a = none → H a = some o → Ob (fun b => W.X0 b ∨ b = a) H o d → De.rt (.ref a) H
  bk : ∀ n ρ σ H, B n ρ → Env W n Z T ρ σ H → De.bk σ H
  ct : ∀ n ρ σ H, C n ρ → Env W n Z T ρ σ H → De.ct σ H
def DS (t : TS) (W : Wd) (n : Nat) (ρ : Rho) (N : Nat → Rho → Prop) (R : Nat → Bool → D → Prop) (B C : Nat → Rho → Prop) : Prop :=
  ∀ (Z : ZL) (T : TL) (σ : L2.St) (H : Hp), Env W n Z T ρ σ H → ∀ De : Ends, Fin W Z T De N R B C → t De σ H

section
variable {W : Wd} {n : Nat} {Z : ZL} {T : TL} {ρ : Rho} {σ : L2.St} {H : Hp} {N N' : Nat → Rho → Prop} {R : Nat → Bool → D → Prop} {B C : Nat → Rho → Prop} {t u : TS} {te ta tb : TE} {tt : TT} {d : D} {K : PySem.W.Frag}
theorem Env.x0 (e : Env W n Z T ρ σ H) : Mv (XX W Z ρ σ) H W.X0 H := fun a o q hx => ⟨q, fun x => hx (.inl x)⟩
theorem DS.imp (h : DS t W n ρ N R B C) (k : ∀ n ρ, N n ρ → N' n ρ) : DS t W n ρ N' R B C := fun Z T σ H e De f => h Z T σ H e De ⟨fun n ρ σ H q => f.nx n ρ σ H (k n ρ q), f.rt, f.rf, f.bk, f.ct⟩
theorem ds_next (q : N n ρ) : DS tNext W n ρ N R B C := fun Z T σ H e De f => f.nx n ρ σ H q e
theorem ds_break (q : B n ρ) : DS tBreak W n ρ N R B C := fun Z T σ H e De f => f.bk n ρ σ H q e
theorem ds_cont (q : C n ρ) : DS tCont W n ρ N R B C := fun Z T σ H e De f => f.ct n ρ σ H q e
theorem ds_seq (h : DS t W n ρ (fun n ρ' => DS u W n ρ' N R B C) R B C) : DS (tSeq t u) W n ρ N R B C := fun Z T σ H e De f =>
  h Z T σ H e _ ⟨fun n ρ' σ' H' q e' => q Z T σ' H' e' De f, f.rt, f.rf, f.bk, f.ct⟩
/-- behind t the state is told by M -/
theorem ds_cut (M : Nat → Rho → Prop) (h : DS t W n ρ M R B C) (k : ∀ n ρ', M n ρ' → DS u W n ρ' N R B C) : DS (tSeq t u) W n ρ N R B C := ds_seq (h.imp k)
theorem ds_drop (h : DE te W n ρ fun n _ => N n ρ) : DS (tDrop te) W n ρ N R B C := fun Z T σ H e De f => h Z T σ H e _ fun n v d H' p e' _ => f.nx n ρ σ H' p e'
theorem ds_ret (h : DE te W n ρ fun n d => R n false d) : DS (tRet te) W n ρ N R B C := fun Z T σ H e De f => h Z T σ H e _ fun n v d H' p e' i => f.rt n v d H' p e'.fr e'.g (i.mv e'.x0 _)
theorem ds_retF (h : DF te W n ρ fun n d => R n true d) : DS (tRet te) W n ρ N R B C := fun Z T σ H e De f => h Z T σ H e _ fun n a o d H' p e' i => by
  have z := e'.z (a, o) List.mem_cons_self
  refine f.rf n a o d H' p e'.fr e'.g z.2 z.1 (i.mv fun b u q hx => ⟨q, fun x => hx ?_⟩)
  rcases x with x | x
  · exact .inl x
  · exact .inr (.inr ⟨o, by rw [x]; exact List.mem_cons_self⟩)
theorem ds_ret_own {i : Nat} (h : ρ[i]? = some (some (true, d))) (r : R n true d) : DS (tRet (tVar i)) W n ρ N R B C := fun Z T σ H e De f => by
  obtain ⟨a, o, h1, h2, h3, h4, h5⟩ := e.ow i d h
  refine ⟨.ref a, h1, f.rf n a o d H r e.fr e.g h4 h2 (h3.mv fun b u q hx => ⟨q, fun x => hx ?_⟩)⟩
  rcases x with x | x
  · exact .inl x
  · exact .inr (.inl ⟨i, d, h, by rw [x]; exact h1⟩)
theorem ds_retN (r : R n false .non) : DS tRetN W n ρ N R B C := fun Z T σ H e De f => f.rt n .non .non H r e.fr e.g .non
theorem ds_if (h : DT tt W n ρ fun n b => (b = true → DS t W n ρ N R B C) ∧ (b = false → DS u W n ρ N R B C)) : DS (tIfS tt t u) W n ρ N R B C := fun Z T σ H e De f =>
  h Z T σ H e _ fun n b H' p e' => by
    cases b with
    | true => exact p.1 rfl Z T σ H' e' De f
    | false => exact p.2 rfl Z T σ H' e' De f
/-- an own object is read only from now on; a slot forgotten -/
theorem ds_freeze {i : Nat} (h : ρ[i]? = some (some (true, d))) (k : DS t W n (ρ.set i (some (false, d))) N R B C) : DS t W n ρ N R B C := fun Z T σ H e De f => k Z T σ H (e.freeze h) De f
theorem ds_forget (i : Nat) (k : DS t W n (ρ.set i none) N R B C) : DS t W n ρ N R B C := fun Z T σ H e De f => k Z T σ H (e.forget i) De f

/-! ### targets -/
def Agree (S : List Nat) (ρ ρ' : Rho) (σ σ' : L2.St) : Prop := σ'.length = σ.length ∧ ρ'.length = ρ.length ∧ (∀ i, i ∉ S → σ'[i]? = σ[i]? ∧ ρ'[i]? = ρ[i]?) ∧ ∀ (i : Nat) (d : D), i ∈ S → ρ'[i]? ≠ some (some (true, d))
def DG (g : TG) (S : List Nat) (d : D) (W : Wd) (ρ : Rho) (P : Rho → Prop) : Prop := ∀ (n : Nat) (Z : ZL) (T : TL) (σ : L2.St) (H : Hp) (v : V), Env W n Z T ρ σ H → Is (XX W Z ρ σ) H v d → ∀ Q : L2.St → Hp → Prop, (∀ (ρ' : Rho) (σ' : L2.St), P ρ' → Env W n Z T ρ' σ' H → Agree S ρ ρ' σ σ' → Q σ' H) → g v σ H Q
def DGs (g : TGs) (S : List Nat) (ds : List D) (W : Wd) (ρ : Rho) (P : Rho → Prop) : Prop := ∀ (n : Nat) (Z : ZL) (T : TL) (σ : L2.St) (H : Hp) (vs : List V), Env W n Z T ρ σ H → IsAll (XX W Z ρ σ) H vs ds → ∀ Q : L2.St → Hp → Prop, (∀ (ρ' : Rho) (σ' : L2.St), P ρ' → Env W n Z T ρ' σ' H → Agree S ρ ρ' σ σ' → Q σ' H) → g vs σ H Q
theorem dg_name {i : Nat} {P : Rho → Prop} (p : P (ρ.set i (some (false, d)))) : DG (gName i) [i] d W ρ P := fun n Z T σ H v e iv Q k =>
  k _ _ p (e.set iv) ⟨List.length_set, List.length_set, fun j hj => by
    have ne : i ≠ j := fun z => hj (by rw [z]; exact List.mem_cons_self)
    exact ⟨List.getElem?_set_ne ne, List.getElem?_set_ne ne⟩, fun j d' hj q => by
    have e1 : j = i := by simpa using hj
    subst e1
    rcases set_get q with ⟨_, z, _⟩ | ⟨ne, _⟩
    · cases z
    · exact ne rfl⟩
theorem dgs_nil {P : Rho → Prop} (p : P ρ) : DGs gNil [] [] W ρ P := fun n Z T σ H vs e i Q k => by
  cases i
  exact ⟨rfl, k ρ σ p e ⟨rfl, rfl, fun _ _ => ⟨rfl, rfl⟩, fun _ _ h => nomatch h⟩⟩
theorem dgs_cons {g : TG} {gs : TGs} {S S' : List Nat} {ds : List D} {P : Rho → Prop} (h : DG g S d W ρ fun ρ' => DGs gs S' ds W ρ' P) : DGs (gCons g gs) (S ++ S') (d :: ds) W ρ P := fun n Z T σ H vs e i Q k => by
  cases i with
  | @cons v vr _ _ hd tl =>
    have hl : vr.length = ds.length := tl.len
    refine ⟨v, vr, rfl, h n Z (zipT vr ds ++ T) σ H v (e.pushAll tl) hd _ fun ρ' σ' p e' a => ?_⟩
    refine p n Z T σ' H vr e'.popAll (e'.topAll hl) Q fun ρ2 σ2 p2 e2 a2 => k ρ2 σ2 p2 e2 ⟨a2.1.trans a.1, a2.2.1.trans a.2.1, fun j hj => ?_, fun j d' hj => ?_⟩
    · have h1 : j ∉ S := fun z => hj (List.mem_append_left _ z)
      have h2 : j ∉ S' := fun z => hj (List.mem_append_right _ z)
      exact ⟨(a2.2.2.1 j h2).1.trans (a.2.2.1 j h1).1, (a2.2.2.1 j h2).2.trans (a.2.2.1 j h1).2⟩
    · by_cases h2 : j ∈ S'
      · exact a2.2.2.2 j d' h2
      · rw [(a2.2.2.1 j h2).2]
        rcases List.mem_append.mp hj with h1 | h1
        · exact a.2.2.2 j d' h1
        · exact absurd h1 h2
theorem dg_tup {m : Nat} {gs : TGs} {S : List Nat} {ds : List D} {P : Rho → Prop} (hn : ds.length = m) (h : DGs gs S ds W ρ P) : DG (gTup K m gs) S (.tup ds) W ρ P := fun n Z T σ H v e i Q k => by
  cases i with
  | tup hx hr ha => exact ⟨_, _, rfl, .of hr, by rw [ha.len]; exact hn, h n Z T σ H _ e ha Q k⟩
theorem ds_asg {g : TG} {S : List Nat} (h : DE te W n ρ fun n d => DG g S d W ρ (N n)) : DS (tAsg te g) W n ρ N R B C := fun Z T σ H e De f =>
  h Z T σ H e _ fun n v d H' p e' i => p n Z T σ H' v e' i _ fun ρ' σ' q e2 _ => f.nx n ρ' σ' H' q e2
/-- x = e, plain -/
theorem ds_set {i : Nat} (h : DE te W n ρ fun n d => N n (ρ.set i (some (false, d)))) : DS (tAsg te (gName i)) W n ρ N R B C := ds_asg (h.imp fun n d p => dg_name p)
/-- x = a new object of its own -/
theorem ds_own {i : Nat} (h : DF te W n ρ fun n d => N n (ρ.set i (some (true, d)))) : DS (tAsg te (gName i)) W n ρ N R B C := fun Z T σ H e De f =>
  h Z T σ H e _ fun n a o d H' p e' ho => f.nx _ _ _ H' p (e'.take ho)
theorem ds_par {i j : Nat} {tas : TA} (h : DA tas W n ρ fun n ds => ∃ d1 d2, ds = [d1, d2] ∧ N n ((ρ.set i (some (false, d1))).set j (some (false, d2)))) : DS (tPar i j tas) W n ρ N R B C := fun Z T σ H e De f =>
  h Z T σ H e _ fun n vs ds H' ⟨d1, d2, e1, p⟩ e' ia => by
    subst e1
    cases ia with
    | cons h1 t =>
      cases t with
      | cons h2 t =>
        cases t
        rename_i v1 v2
        have e2 : Env W n Z ((v2, d2) :: T) _ _ H' := (e'.push h2).set h1 (i := i)
        have e3 := e2.set (i := j) e2.top
        exact ⟨v1, v2, rfl, f.nx _ _ _ H' p e3.pop1⟩

/-! ### loops -/
/-- what an iterator gives: the data ds one by one; T0 is what it leans on -/
def ItOk (W : Wd) (T0 : TL) (J : It) (ds : List D) : Prop := ∀ (n : Nat) (Z : ZL) (T : TL) (ρ : Rho) (σ : L2.St) (H : Hp), (∀ p, p ∈ T0 → p ∈ T) → Env W n Z T ρ σ H → ∀ i : Nat,
  (i < ds.length → J.go i H ∧ ∀ x H', J.yld i H x H' → ∃ d, ds[i]? = some d ∧ Env W n Z ((x, d) :: T) ρ σ H') ∧ (ds.length ≤ i → J.stop i H)
def DI (wi : TI) (W : Wd) (n : Nat) (ρ : Rho) (P : Nat → List D → Prop) : Prop := ∀ (Z : ZL) (T : TL) (σ : L2.St) (H : Hp), Env W n Z T ρ σ H → ∀ Q : It → Hp → Prop, (∀ (n : Nat) (J : It) (ds : List D) (T0 : TL) (H' : Hp), P n ds → Env W n Z (T0 ++ T) ρ σ H' → ItOk W T0 J ds → Q J H') → wi σ H Q
theorem ds_for {wi : TI} {g : TG} {S : List Nat} (h : DI wi W n ρ fun n ds => ∃ Inv : Nat → Nat → Rho → Prop, Inv 0 n ρ ∧ (∀ i n d ρ', ds[i]? = some d → Inv i n ρ' → DG g S d W ρ' fun ρ2 => DS t W n ρ2 (Inv (i + 1)) R N (Inv (i + 1))) ∧ ∀ n ρ', Inv ds.length n ρ' → N n ρ') :
    DS (tFor wi g t) W n ρ N R B C := fun Z T σ H e De f =>
  h Z T σ H e _ fun n J ds T0 H' ⟨Iv, h0, hs, hd⟩ e' ok => by
    refine ⟨fun i m σ H => m = ds.length - i ∧ i ≤ ds.length ∧ ∃ n ρ', Iv i n ρ' ∧ Env W n Z (T0 ++ T) ρ' σ H, ⟨_, rfl, Nat.zero_le _, n, ρ, h0, e'⟩, ?_⟩
    rintro i m σ' H2 ⟨rfl, hi, n, ρ', hI, e2⟩
    have o := ok n Z (T0 ++ T) ρ' σ' H2 (fun p hp => List.mem_append_left _ hp) e2 i
    by_cases hlt : i < ds.length
    · refine .inr ⟨(o.1 hlt).1, fun σ3 H3 => ∃ n ρ3, Iv (i + 1) n ρ3 ∧ Env W n Z (T0 ++ T) ρ3 σ3 H3, fun σ3 H3 ⟨n, ρ3, h3, e3⟩ => ⟨ds.length - (i + 1), by omega, rfl, hlt, n, ρ3, h3, e3⟩, fun x H3 y => ?_⟩
      obtain ⟨d, hd', e3⟩ := (o.1 hlt).2 x H3 y
      refine hs i n d ρ' hd' hI n Z (T0 ++ T) σ' H3 x e3.pop1 e3.top _ fun ρ4 σ4 p4 e4 _ => ?_
      exact p4 Z (T0 ++ T) σ4 H3 e4 _ ⟨fun n ρ5 σ5 H5 n5 e5 => ⟨n, ρ5, n5, e5⟩, f.rt, f.rf, fun n ρ5 σ5 H5 n5 e5 => f.nx n ρ5 σ5 H5 n5 e5.popAll, fun n ρ5 σ5 H5 n5 e5 => ⟨n, ρ5, n5, e5⟩⟩
    · have e1 : i = ds.length := by omega
      subst e1
      exact .inl ⟨o.2 (Nat.le_refl _), f.nx n ρ' σ' H2 (hd n ρ' hI) e2.popAll⟩
theorem ds_while (Inv : Nat → Nat → Rho → Prop) (m0 : Nat) (h0 : Inv m0 n ρ) (hs : ∀ m n ρ', Inv m n ρ' → DT tt W n ρ' fun n b => (b = true → DS t W n ρ' (fun n r => ∃ m', m' < m ∧ Inv m' n r) R N (fun n r => ∃ m', m' < m ∧ Inv m' n r)) ∧ (b = false → N n ρ')) :
    DS (tWhile tt t) W n ρ N R B C := fun Z T σ H e De f => by
  refine ⟨fun m σ H => ∃ n ρ', Inv m n ρ' ∧ Env W n Z T ρ' σ H, ⟨m0, n, ρ, h0, e⟩, ?_⟩
  rintro m σ' H' ⟨n, ρ', hI, e'⟩
  refine hs m n ρ' hI Z T σ' H' e' _ fun n b H2 p e2 => ?_
  cases b with
  | false => exact f.nx n ρ' σ' H2 (p.2 rfl) e2
  | true =>
    refine ⟨fun σ3 H3 => ∃ m', m' < m ∧ ∃ n ρ3, Inv m' n ρ3 ∧ Env W n Z T ρ3 σ3 H3, fun σ3 H3 ⟨m', hm, q⟩ => ⟨m', hm, q⟩, ?_⟩
    exact p.1 rfl Z T σ' H2 e2 _ ⟨fun n ρ5 σ5 H5 ⟨m', hm, n5⟩ e5 => ⟨m', hm, n, ρ5, n5, e5⟩, f.rt, f.rf, f.nx, fun n ρ5 σ5 H5 ⟨m', hm, n5⟩ e5 => ⟨m', hm, n, ρ5, n5, e5⟩⟩

/-! ### what is walked -/
theorem di_list {tl : TE} {P : Nat → List D → Prop} (h : DE tl W n ρ fun n d => ∃ ds, d = .lst ds ∧ P n ds) : DI (iList K tl) W n ρ P := fun Z T σ H e Q k =>
  h Z T σ H e _ fun n v d H' ⟨ds, hd, p⟩ e' i => by
    subst hd
    have e1 : Env W n Z ([(v, .lst ds)] ++ T) ρ σ H' := e'.push i
    cases i with
    | @lst a xs _ hx hr ha =>
      refine ⟨a, rfl, ⟨xs, .of hr⟩, k _ _ ds [(.ref a, .lst ds)] H' p e1 fun n Z T ρ σ H hT e i => ?_⟩
      have q := e.t (.ref a, .lst ds) (hT _ List.mem_cons_self)
      cases q with
      | @lst _ ys _ hx2 hr2 ha2 =>
        have hl := ha2.len
        refine ⟨fun hi => ⟨⟨ys, ys[i]'(by omega), .of hr2, by simp [hl, hi]⟩, fun x H' ⟨eh, y⟩ => ?_⟩, fun hi => ⟨ys, .of hr2, by omega⟩⟩
        subst eh
        obtain ⟨d, h1, h2⟩ := ha2.get (y ys (.of hr2))
        exact ⟨d, h1, e.push h2⟩
theorem di_tup {tl : TE} {P : Nat → List D → Prop} (h : DE tl W n ρ fun n d => ∃ ds, d = .tup ds ∧ P n ds) : DI (iTup K tl) W n ρ P := fun Z T σ H e Q k =>
  h Z T σ H e _ fun n v d H' ⟨ds, hd, p⟩ e' i => by
    subst hd
    have e1 : Env W n Z ([(v, .tup ds)] ++ T) ρ σ H' := e'.push i
    cases i with
    | @tup a xs _ hx hr ha =>
      refine ⟨a, rfl, ⟨xs, .of hr⟩, k _ _ ds [(.ref a, .tup ds)] H' p e1 fun n Z T ρ σ H hT e i => ?_⟩
      have q := e.t (.ref a, .tup ds) (hT _ List.mem_cons_self)
      cases q with
      | @tup _ ys _ hx2 hr2 ha2 =>
        have hl := ha2.len
        refine ⟨fun hi => ⟨⟨ys, ys[i]'(by omega), .of hr2, by simp [hl, hi]⟩, fun x H' ⟨eh, y⟩ => ?_⟩, fun hi => ⟨ys, .of hr2, by omega⟩⟩
        subst eh
        obtain ⟨d, h1, h2⟩ := ha2.get (y ys (.of hr2))
        exact ⟨d, h1, e.push h2⟩
/-- lo, lo + 1, .. -/
def upTo (lo : Int) (n : Nat) : List D := (List.range n).map fun (i : Nat) => D.int (lo + (i : Int))
theorem upTo_get {lo : Int} {n i : Nat} (h : i < n) : (upTo lo n)[i]? = some (.int (lo + i)) := by
  unfold upTo
  rw [List.getElem?_map, List.getElem?_range h]; rfl
theorem upTo_len {lo : Int} {n : Nat} : (upTo lo n).length = n := by unfold upTo; rw [List.length_map, List.length_range]
theorem it_range {lo : Int} {n : Nat} : ItOk W [] (Itr lo n) (upTo lo n) := fun n Z T ρ σ H hT e i => by
  rw [upTo_len]
  exact ⟨fun hi => ⟨hi, fun x H' ⟨eh, y⟩ => by subst eh; subst y; exact ⟨_, upTo_get hi, e.push (.int _)⟩⟩, fun hi => hi⟩
theorem di_range1 {tas : TA} {P : Nat → List D → Prop} (h : DA tas W n ρ fun n ds => ∃ j : Int, ds = [.int j] ∧ -(2 ^ 62) ≤ j ∧ j < 2 ^ 62 ∧ P n (upTo 0 j.toNat)) : DI (iRng1 tas) W n ρ P := fun Z T σ H e Q k =>
  h Z T σ H e _ fun n vs ds H' ⟨j, hd, h1, h2, p⟩ e' i => by
    subst hd
    cases i with
    | cons hi t => cases t; cases hi; exact ⟨j, rfl, h1, h2, k _ _ _ [] H' p e' it_range⟩
theorem di_range2 {tas : TA} {P : Nat → List D → Prop} (h : DA tas W n ρ fun n ds => ∃ i j : Int, ds = [.int i, .int j] ∧ (-(2 ^ 62) ≤ i ∧ i < 2 ^ 62 ∧ -(2 ^ 62) ≤ j ∧ j < 2 ^ 62) ∧ P n (upTo i (j - i).toNat)) : DI (iRng2 tas) W n ρ P := fun Z T σ H e Q k =>
  h Z T σ H e _ fun n vs ds H' ⟨i, j, hd, h1, p⟩ e' ia => by
    subst hd
    cases ia with
    | cons hi t => cases t with
      | cons hj t => cases t; cases hi; cases hj; exact ⟨i, j, rfl, h1, k _ _ _ [] H' p e' it_range⟩
/-- pairs with their places -/
def numb (ds : List D) : List D := (List.range ds.length).map fun (i : Nat) => D.tup [.int (i : Nat), ds.getD i .non]
theorem numb_len {ds : List D} : (numb ds).length = ds.length := by unfold numb; rw [List.length_map, List.length_range]
theorem numb_get {ds : List D} {i : Nat} {d : D} (h : ds[i]? = some d) : (numb ds)[i]? = some (.tup [.int (i : Nat), d]) := by
  have hi : i < ds.length := (List.getElem?_eq_some_iff.mp h).1
  unfold numb
  rw [List.getElem?_map, List.getElem?_range hi]
  show some (D.tup [.int (i : Nat), ds.getD i .non]) = _
  rw [List.getD_eq_getElem?_getD, h]; rfl
theorem di_enum {tas : TA} {P : Nat → List D → Prop} (h : DA tas W n ρ fun n ds => ∃ es, ds = [.lst es] ∧ P n (numb es)) : DI (iEnum K tas) W n ρ P := fun Z T σ H e Q k =>
  h Z T σ H e _ fun n vs ds H' ⟨es, hd, p⟩ e' ia => by
    subst hd
    cases ia with
    | @cons v _ _ _ hi t =>
      cases t
      have e1 : Env W n Z ([(v, .lst es)] ++ T) ρ σ H' := e'.push hi
      cases hi with
      | @lst a xs _ hx hr ha =>
        refine ⟨a, xs, rfl, .of hr, k _ _ _ [(.ref a, .lst es)] H' p e1 fun n Z T ρ σ H hT e i => ?_⟩
        have q := e.t (.ref a, .lst es) (hT _ List.mem_cons_self)
        cases q with
        | @lst _ ys _ hx2 hr2 ha2 =>
          have hl := ha2.len
          rw [numb_len]
          refine ⟨fun hi => ⟨⟨ys, ys[i]'(by omega), .of hr2, by simp [hl, hi]⟩, fun x H' ⟨Tt, x', ev, hn, eh, y⟩ => ?_⟩, fun hi => ⟨ys, .of hr2, by omega⟩⟩
          subst eh ev
          obtain ⟨d, h1, h2⟩ := ha2.get (y ys (.of hr2))
          have e2 := e.lay (o := .tup [.int (i : Nat), x']) hn
          have h3 := h2.mv (lay_mv (o := .tup [.int (i : Nat), x']) e hn)
          exact ⟨_, numb_get h1, e2.zpop.push (.tup e2.zmv.2 upd_same (.cons (.int _) (.cons (h3.mv e2.zmv.1) .nil)))⟩
theorem zip_get {es fs : List D} {i : Nat} {d f : D} (h1 : es[i]? = some d) (h2 : fs[i]? = some f) : (List.zipWith (fun a b => D.tup [a, b]) es fs)[i]? = some (.tup [d, f]) := by
  rw [List.getElem?_zipWith, h1, h2]
theorem di_zip {tas : TA} {P : Nat → List D → Prop} (h : DA tas W n ρ fun n ds => ∃ es fs, ds = [.lst es, .lst fs] ∧ P n (List.zipWith (fun a b => D.tup [a, b]) es fs)) : DI (iZip K tas) W n ρ P := fun Z T σ H e Q k =>
  h Z T σ H e _ fun n vs ds H' ⟨es, fs, hd, p⟩ e' ia => by
    subst hd
    cases ia with
    | @cons v _ _ _ hi t =>
      cases t with
      | @cons w _ _ _ hj t =>
        cases t
        have e1 : Env W n Z ([(v, .lst es), (w, .lst fs)] ++ T) ρ σ H' := (e'.push hj).push hi
        cases hi with
        | @lst a xs _ hx hr ha =>
          cases hj with
          | @lst b zs _ hx' hr' ha' =>
            refine ⟨a, b, xs, zs, rfl, .of hr, .of hr', k _ _ _ [(.ref a, .lst es), (.ref b, .lst fs)] H' p e1 fun n Z T ρ σ H hT e i => ?_⟩
            have q := e.t (.ref a, .lst es) (hT _ List.mem_cons_self)
            have q' := e.t (.ref b, .lst fs) (hT _ (List.mem_cons_of_mem _ List.mem_cons_self))
            cases q with
            | @lst _ ys _ hx2 hr2 ha2 =>
              cases q' with
              | @lst _ ws _ hx3 hr3 ha3 =>
                have hl := ha2.len
                have hl' := ha3.len
                rw [List.length_zipWith]
                refine ⟨fun hi => ⟨⟨ys, ws, ys[i]'(by omega), ws[i]'(by omega), .of hr2, .of hr3, by simp, by simp⟩, fun x H' ⟨Tt, x', y', ev, hn, eh, y, z⟩ => ?_⟩, fun hi => ⟨ys, ws, .of hr2, .of hr3, by omega⟩⟩
                subst eh ev
                obtain ⟨d, h1, h2⟩ := ha2.get (y ys (.of hr2))
                obtain ⟨d', h1', h2'⟩ := ha3.get (z ws (.of hr3))
                have e2 := e.lay (o := .tup [x', y']) hn
                have h3 := h2.mv (lay_mv (o := .tup [x', y']) e hn)
                have h3' := h2'.mv (lay_mv (o := .tup [x', y']) e hn)
                exact ⟨_, zip_get h1 h1', e2.zpop.push (.tup e2.zmv.2 upd_same (.cons (h3.mv e2.zmv.1) (.cons (h3'.mv e2.zmv.1) .nil)))⟩

/-! ### comprehensions -/
def wipeR (ρ : Rho) : List Nat → Rho
  | [] => ρ
  | v :: vs => (wipeR ρ vs).set v none
def NoOwn (ρ : Rho) (vs : List Nat) : Prop := ∀ (i : Nat) (d : D), i ∈ vs → ρ[i]? ≠ some (some (true, d))
theorem own_back1 {i : Nat} (hn : ∀ d, ρ[i]? ≠ some (some (true, d))) {a : Addr} (h : Own ρ σ a) : Own (ρ.set i none) (σ.set i none) a := by
  obtain ⟨j, d, h1, h2⟩ := h
  have ne : i ≠ j := fun z => hn d (by rw [z]; exact h1)
  exact ⟨j, d, by rw [List.getElem?_set_ne ne]; exact h1, by rw [List.getElem?_set_ne ne]; exact h2⟩
theorem xx_set1 {i : Nat} (hn : ∀ d, ρ[i]? ≠ some (some (true, d))) {a : Addr} : XX W Z (ρ.set i none) (σ.set i none) a ↔ XX W Z ρ σ a :=
  ⟨fun x => x.elim .inl fun x => x.elim (fun x => .inr (.inl (Own.back (fun d z => by cases z) x))) fun x => .inr (.inr x),
   fun x => x.elim .inl fun x => x.elim (fun x => .inr (.inl (own_back1 hn x))) fun x => .inr (.inr x)⟩
/-- one slot wiped, and given back -/
theorem Env.wipe1 (e : Env W n Z T ρ σ H) (i : Nat) (hn : ∀ d, ρ[i]? ≠ some (some (true, d))) : ∃ T1 : TL, Env W n Z (T1 ++ T) (ρ.set i none) (σ.set i none) H ∧ ∀ n H' Z' T', Env W n Z' (T1 ++ T') (ρ.set i none) (σ.set i none) H' → Env W n Z' T' ρ σ H' := by
  have e0 : Env W n Z T (ρ.set i none) (σ.set i none) H := e.setG i none none (fun d q => by cases q) (fun d q => by cases q)
  have give : ∀ (T1 : TL) n H' Z' T', Env W n Z' (T1 ++ T') (ρ.set i none) (σ.set i none) H' → (∀ d, ρ[i]? = some (some (false, d)) → ∃ v, σ[i]? = some (some v) ∧ (v, d) ∈ T1) → Env W n Z' T' ρ σ H' := fun T1 n H' Z' T' e' hd => by
    have m : Mv (XX W Z' (ρ.set i none) (σ.set i none)) H' (XX W Z' ρ σ) H' := fun a o q hx => ⟨q, fun x => hx ((xx_set1 hn).mpr x)⟩
    have m' : ∀ a, ¬ XX W Z' (ρ.set i none) (σ.set i none) a → ¬ XX W Z' ρ σ a := fun a h x => h ((xx_set1 hn).mpr x)
    refine ⟨e.len, fun j d q => ?_, fun j d q => ?_, fun j k d1 d2 a q1 q2 q3 q4 => ?_, e'.z, e'.zn, fun p hp => (e'.t p (List.mem_append_right _ hp)).mv m, e'.fr, e'.g⟩
    · by_cases ij : i = j
      · subst ij
        obtain ⟨v, h1, h2⟩ := hd d q
        exact ⟨v, h1, (e'.t (v, d) (List.mem_append_left _ h2)).mv m⟩
      · obtain ⟨v, h1, h2⟩ := e'.sh j d (by rw [List.getElem?_set_ne ij]; exact q)
        rw [List.getElem?_set_ne ij] at h1
        exact ⟨v, h1, h2.mv m⟩
    · have ij : i ≠ j := fun z => hn d (by rw [z]; exact q)
      obtain ⟨a, o, h1, h2, h3, h4⟩ := e'.ow j d (by rw [List.getElem?_set_ne ij]; exact q)
      rw [List.getElem?_set_ne ij] at h1
      exact ⟨a, o, h1, h2, h3.mv m, h4⟩
    · exact e.inj j k d1 d2 a q1 q2 q3 q4
  cases q : ρ[i]? with
  | none => exact ⟨[], e0, fun n H' Z' T' e' => give [] n H' Z' T' e' fun d z => by rw [q] at z; cases z⟩
  | some s =>
    cases s with
    | none => exact ⟨[], e0, fun n H' Z' T' e' => give [] n H' Z' T' e' fun d z => by rw [q] at z; cases z⟩
    | some bd =>
      obtain ⟨b, d⟩ := bd
      cases b with
      | true => exact absurd q (hn d)
      | false =>
        obtain ⟨v, h1, h2⟩ := e.sh i d q
        refine ⟨[(v, d)], e0.push (h2.mv fun a o q hx => ⟨q, fun x => hx ((xx_set1 hn).mp x)⟩), fun n H' Z' T' e' => give [(v, d)] n H' Z' T' e' fun d' z => ?_⟩
        rw [q] at z
        cases z
        exact ⟨v, h1, List.mem_cons_self⟩
theorem wipeR_none : ∀ (vs : List Nat) (i : Nat), i ∈ vs → ∀ b, (wipeR ρ vs)[i]? ≠ some (some b)
  | [], i, h, _ => nomatch h
  | v :: vs, i, h, b => fun q => by
    unfold wipeR at q
    rcases set_get q with ⟨_, z, _⟩ | ⟨ne, z⟩
    · cases z
    · rcases List.mem_cons.mp h with y | y
      · exact ne y.symm
      · exact wipeR_none vs i y b z
theorem wipeR_own : ∀ (vs : List Nat) (i : Nat) (d : D), (wipeR ρ vs)[i]? = some (some (true, d)) → ρ[i]? = some (some (true, d))
  | [], i, d, h => h
  | v :: vs, i, d, h => by
    unfold wipeR at h
    rcases set_get h with ⟨_, z, _⟩ | ⟨_, z⟩
    · cases z
    · exact wipeR_own vs i d z
theorem Env.wipes (e : Env W n Z T ρ σ H) : ∀ (vs : List Nat), NoOwn ρ vs → ∃ T1 : TL, Env W n Z (T1 ++ T) (wipeR ρ vs) (wipe σ vs) H ∧ ∀ n H' Z' T', Env W n Z' (T1 ++ T') (wipeR ρ vs) (wipe σ vs) H' → Env W n Z' T' ρ σ H'
  | [], _ => ⟨[], e, fun _ _ _ _ e' => e'⟩
  | v :: vs, hn => by
    obtain ⟨T1, e1, b1⟩ := e.wipes vs fun i d hi => hn i d (List.mem_cons_of_mem _ hi)
    obtain ⟨T2, e2, b2⟩ := e1.wipe1 v fun d q => hn v d List.mem_cons_self (wipeR_own vs v d q)
    refine ⟨T2 ++ T1, ?_, fun n H' Z' T' e' => b1 n H' Z' T' (b2 n H' Z' (T1 ++ T') ?_)⟩
    · rw [List.append_assoc]; exact e2
    · rw [List.append_assoc] at e'; exact e'
/-- the slots S of the turn forgotten again -/
theorem Env.unset {S : List Nat} {ρ' : Rho} {σ' : L2.St} (e : Env W n Z T ρ' σ' H) (a : Agree S ρ ρ' σ σ') (hl : σ.length = ρ.length) (hn : ∀ (i : Nat) (b : Bool × D), i ∈ S → ρ[i]? ≠ some (some b)) : Env W n Z T ρ σ H := by
  obtain ⟨l1, l2, ag, no⟩ := a
  have own : ∀ b, Own ρ σ b ↔ Own ρ' σ' b := fun b => ⟨fun ⟨i, d, h1, h2⟩ => by
      have hi : i ∉ S := fun z => hn i _ z h1
      exact ⟨i, d, by rw [(ag i hi).2]; exact h1, by rw [(ag i hi).1]; exact h2⟩,
    fun ⟨i, d, h1, h2⟩ => by
      have hi : i ∉ S := fun z => no i d z h1
      exact ⟨i, d, by rw [← (ag i hi).2]; exact h1, by rw [← (ag i hi).1]; exact h2⟩⟩
  have m : Mv (XX W Z ρ' σ') H (XX W Z ρ σ) H := fun b o q hx => ⟨q, fun x => hx (x.elim .inl fun x => x.elim (fun x => .inr (.inl ((own b).mp x))) fun x => .inr (.inr x))⟩
  refine ⟨hl, fun i d q => ?_, fun i d q => ?_, fun i j d1 d2 b q1 q2 q3 q4 => ?_, e.z, e.zn, fun p hp => (e.t p hp).mv m, e.fr, e.g⟩
  · have hi : i ∉ S := fun z => hn i _ z q
    obtain ⟨v, h1, h2⟩ := e.sh i d (by rw [(ag i hi).2]; exact q)
    exact ⟨v, by rw [← (ag i hi).1]; exact h1, h2.mv m⟩
  · have hi : i ∉ S := fun z => hn i _ z q
    obtain ⟨b, o, h1, h2, h3, h4⟩ := e.ow i d (by rw [(ag i hi).2]; exact q)
    exact ⟨b, o, by rw [← (ag i hi).1]; exact h1, h2, h3.mv m, h4⟩
  · have hi : i ∉ S := fun z => hn i _ z q1
    have hj : j ∉ S := fun z => hn j _ z q2
    exact e.inj i j d1 d2 b (by rw [(ag i hi).2]; exact q1) (by rw [(ag j hj).2]; exact q2) (by rw [(ag i hi).1]; exact q3) (by rw [(ag j hj).1]; exact q4)
theorem wipe_agree {S : List Nat} {ρ' : Rho} {σ' : L2.St} : ∀ {vs : List Nat}, (∀ i, i ∈ S → i ∈ vs) → Agree S ρ ρ' (wipe σ vs) σ' → wipe σ' vs = wipe σ vs := by
  intro vs hS a
  have len : ∀ (τ : L2.St) (vs : List Nat), (wipe τ vs).length = τ.length := fun τ vs => wipe_length τ vs
  have get : ∀ (τ : L2.St) (vs : List Nat) (i : Nat), (wipe τ vs)[i]? = if i ∈ vs ∧ i < τ.length then some none else τ[i]? := by
    intro τ vs i
    induction vs with
    | nil => unfold wipe; rw [if_neg (fun h => nomatch h.1)]
    | cons v vs ih =>
      unfold wipe
      by_cases hv : v = i
      · subst hv
        by_cases hl : v < τ.length
        · rw [List.getElem?_set_self (by rw [len]; exact hl), if_pos ⟨List.mem_cons_self, hl⟩]
        · rw [List.getElem?_eq_none (by rw [List.length_set, len]; omega), if_neg (fun h => hl h.2), List.getElem?_eq_none (by omega)]
      · rw [List.getElem?_set_ne hv, ih]
        by_cases hi : i ∈ vs ∧ i < τ.length
        · rw [if_pos hi, if_pos ⟨List.mem_cons_of_mem _ hi.1, hi.2⟩]
        · rw [if_neg hi, if_neg (fun h => hi ⟨(List.mem_cons.mp h.1).resolve_left fun z => hv z.symm, h.2⟩)]
  apply List.ext_getElem?
  intro i
  have hl : σ'.length = σ.length := by rw [a.1, len]
  rw [get, get, hl]
  by_cases hi : i ∈ vs ∧ i < σ.length
  · rw [if_pos hi, if_pos hi]
  · rw [if_neg hi, if_neg hi]
    by_cases hv : i ∈ vs
    · have : σ.length ≤ i := Nat.le_of_not_lt fun h => hi ⟨hv, h⟩
      rw [List.getElem?_eq_none (by omega), List.getElem?_eq_none (by omega)]
    · rw [(a.2.2.1 i fun z => hv (hS i z)).1, get, if_neg (fun h => hv h.1)]
theorem wipeR_len : ∀ vs : List Nat, (wipeR ρ vs).length = ρ.length
  | [] => rfl
  | v :: vs => by unfold wipeR; rw [List.length_set, wipeR_len vs]
theorem df_lc {wi : TI} {g : TG} {S vs : List Nat} {P : Nat → D → Prop} (hno : NoOwn ρ vs) (hS : ∀ i, i ∈ S → i ∈ vs)
    (h : DI wi W n ρ fun n ds => ∃ Inv : Nat → Nat → List D → Prop, Inv 0 n [] ∧ (∀ i n d acc, ds[i]? = some d → Inv i n acc → DG g S d W (wipeR ρ vs) fun ρ2 => DT tt W n ρ2 fun n b => (b = true → DE te W n ρ2 fun n y => acc.length < sizeLine ∧ Inv (i + 1) n (acc ++ [y])) ∧ (b = false → Inv (i + 1) n acc)) ∧ ∀ n acc, Inv ds.length n acc → P n (.lst acc)) :
    DF (tLc wi g tt te vs) W n ρ P := fun Z T σ H e Q k =>
  h Z T σ H e _ fun n J ds T0 H1 ⟨Iv, h0, hs, hd⟩ e1 ok => by
    intro D0 hD
    -- the state between two turns: the list so far at D0, pending; its data told
    refine ⟨fun i m H => m = ds.length - i ∧ i ≤ ds.length ∧ ∃ n xs acc, Iv i n acc ∧ xs.length = acc.length ∧ Env W n ((D0, .lst xs) :: Z) (zipT xs acc ++ (T0 ++ T)) ρ σ H, ⟨_, rfl, Nat.zero_le _, n, [], [], h0, rfl, e1.lay hD⟩, ?_⟩
    rintro i m H2 ⟨rfl, hi, n, xs, acc, hI, hl, e2⟩
    have o := ok n _ _ ρ σ H2 (fun p hp => List.mem_append_right _ (List.mem_append_left _ hp)) e2 i
    by_cases hlt : i < ds.length
    · refine .inr ⟨(o.1 hlt).1, fun H3 => ∃ n xs acc, Iv (i + 1) n acc ∧ xs.length = acc.length ∧ Env W n ((D0, .lst xs) :: Z) (zipT xs acc ++ (T0 ++ T)) ρ σ H3, fun H3 ⟨n, xs, acc, h3, l3, e3⟩ => ⟨ds.length - (i + 1), by omega, rfl, hlt, n, xs, acc, h3, l3, e3⟩, fun x H3 y => ?_⟩
      obtain ⟨d, hd', e3⟩ := (o.1 hlt).2 x H3 y
      obtain ⟨T1, e4, back⟩ := e3.wipes vs hno
      have ix : Is (XX W ((D0, .lst xs) :: Z) (wipeR ρ vs) (wipe σ vs)) H3 x d := e4.t (x, d) (List.mem_append_right _ List.mem_cons_self)
      refine hs i n d acc hd' hI n _ _ (wipe σ vs) H3 x e4 ix _ fun ρ2 σ2 p2 e5 ag => ⟨wipe_agree hS ag, ?_⟩
      have hlen : (wipe σ vs).length = (wipeR ρ vs).length := by rw [wipe_length, wipeR_len]; exact e.len
      have home : ∀ (n : Nat) (H' : Hp) (Z' : ZL) (T' : TL), Env W n Z' (T1 ++ T') ρ2 σ2 H' → Env W n Z' T' ρ σ H' := fun n H' Z' T' e' => back n H' Z' T' (e'.unset ag hlen fun i b hi => wipeR_none vs i (hS i hi) b)
      refine p2 _ _ σ2 H3 e5 _ fun n b H4 q e6 => ?_
      cases b with
      | false =>
        show ∃ n xs acc, _
        exact ⟨_, xs, acc, q.2 rfl, hl, (home _ H4 _ _ e6).pop1⟩
      | true =>
        refine q.1 rfl _ _ σ2 H4 e6 _ fun n v y H5 ⟨hsz, hI'⟩ e7 iv => ?_
        have e8 : Env W n ((D0, .lst xs) :: Z) ((v, y) :: (zipT xs acc ++ (T0 ++ T))) ρ σ H5 := by
          refine home _ H5 _ _ ((e7.push iv).pop fun p hp => ?_)
          rcases List.mem_append.mp hp with z | z
          · exact List.mem_cons_of_mem _ (List.mem_append_left _ z)
          · rcases List.mem_cons.mp z with z | z
            · rw [z]; exact List.mem_cons_self
            · exact List.mem_cons_of_mem _ (List.mem_append_right _ (List.mem_cons_of_mem _ z))
        refine ⟨xs, (e8.z (D0, .lst xs) List.mem_cons_self).1, by rw [hl]; exact hsz, _, xs ++ [v], acc ++ [y], hI', by rw [List.length_append, List.length_append, hl]; rfl, ?_⟩
        refine (e8.zput (o := .lst xs) (fun h => h)).pop fun p hp => ?_
        unfold zipT at hp
        rw [List.zip_append hl, List.append_assoc] at hp
        rcases List.mem_append.mp hp with z | z
        · exact List.mem_cons_of_mem _ (List.mem_append_left _ z)
        · rcases List.mem_append.mp z with z | z
          · have : p = (v, y) := by simpa using z
            rw [this]; exact List.mem_cons_self
          · exact List.mem_cons_of_mem _ (List.mem_append_right _ z)
    · have e0 : i = ds.length := by omega
      subst e0
      refine .inl ⟨o.2 (Nat.le_refl _), k _ D0 (.lst xs) (.lst acc) H2 (hd _ acc hI) e2.popAll.popAll (.lst (e2.topAll hl))⟩
end
end HD

namespace HD
open PySem PySem.Spec PyProof.Rows L2

/-! ### promises -/
inductive Out where
  | ret (fresh : Bool) (d : D)
  | exc (C : Addr) (ns : List Str) (l : List D)
/-- a def of n parameters: the objects at V may change so that G stays; pre of the arguments; post of what comes out -/
def Prm (m : Nat) (V : AP) (G : Nat → Hp → Prop) (pre : Nat → List D → Prop) (post : Nat → List D → Nat → Out → Prop) : Sp := fun vs H Q E => ∃ (X : AP) (ds : List D) (n : Nat),
  (∀ a, V a → X a) ∧ (∀ a, X a → H a ≠ none) ∧ G n H ∧ IsAll X H vs ds ∧ ds.length = m ∧ pre n ds ∧
  (∀ n' v d H', post n ds n' (.ret false d) → Frm V H H' → G n' H' → Is X H' v d → Q v H') ∧
  (∀ n' a o d H', post n ds n' (.ret true d) → Frm V H H' → G n' H' → H a = none → H' a = some o → Ob (fun b => X b ∨ b = a) H' o d → Q (.ref a) H') ∧
  (∀ n' C ns l od H', post n ds n' (.exc C ns l) → Frm V H H' → G n' H' → ExF X H' od ns l → E (.ref C) od H')
theorem prm_len {m : Nat} {V : AP} {G : Nat → Hp → Prop} {pre : Nat → List D → Prop} {post : Nat → List D → Nat → Out → Prop} {vs : List L2.V} {H : Hp} {Q : VK} {E : XK} (h : Prm m V G pre post vs H Q E) : vs.length = m := by
  obtain ⟨X, ds, _, _, _, _, i, hl, _⟩ := h
  rw [i.len]; exact hl
def startR (N : List Str) (ds : List D) : Rho := ds.map (fun d => some (false, d)) ++ List.replicate (N.length - ds.length) none
structure Stab (V : AP) (G : Nat → Hp → Prop) : Prop where
  vd : ∀ n H, G n H → ∀ a, V a → H a ≠ none
  stab : ∀ n H H', (∀ a o, H a = some o → V a ∨ KeepO o → H' a = some o) → G n H → G n H'
abbrev V0 : AP := fun _ => False
abbrev G0 : Nat → Hp → Prop := fun _ _ => True
theorem stab0 : Stab V0 G0 := ⟨fun _ _ _ _ h => h.elim, fun _ _ _ _ _ => True.intro⟩

theorem start_get {N : List Str} {vs : List L2.V} {i : Nat} : (L2.start N vs)[i]? = if i < vs.length then vs[i]?.map some else if i < vs.length + (N.length - vs.length) then some none else none := by
  unfold L2.start
  rw [List.getElem?_append, List.length_map, List.getElem?_map]
  by_cases h : i < vs.length
  · rw [if_pos h, if_pos h]
  · rw [if_neg h, if_neg h, List.getElem?_replicate]
    by_cases h2 : i < vs.length + (N.length - vs.length)
    · rw [if_pos h2, if_pos (by omega)]
    · rw [if_neg h2, if_neg (by omega)]
/-- a def's body keeps its promise -/
theorem prm_body {m : Nat} {V : AP} {G : Nat → Hp → Prop} {pre : Nat → List D → Prop} {post : Nat → List D → Nat → Out → Prop} {N : List Str} {vs : List L2.V} {H : Hp} {Q : VK} {E : XK} {t : TS} (S : Stab V G) (h : Prm m V G pre post vs H Q E)
    (k : ∀ (W : Wd) (n : Nat) (ds : List D), W.V = V → W.G = G → W.E = E → W.EP = (fun n' C ns l => post n ds n' (.exc C ns l)) → ds.length = m → pre n ds →
      DS t W n (startR N ds) (fun n' _ => post n ds n' (.ret false .non)) (fun n' b d => post n ds n' (.ret b d)) (fun _ _ => False) (fun _ _ => False)) :
    t { nx := fun _ H' => Q .non H', rt := Q } (L2.start N vs) H := by
  obtain ⟨X, ds, n, hVX, hX, hG, hi, hl, hp, k1, k2, k3⟩ := h
  have W0 : ∃ W : Wd, W.V = V ∧ W.X0 = X ∧ W.G = G ∧ W.H0 = H ∧ W.E = E ∧ W.EP = (fun n' C ns l => post n ds n' (.exc C ns l)) := ⟨{ V := V, X0 := X, G := G, H0 := H, E := E, EP := fun n' C ns l => post n ds n' (.exc C ns l), vx := hVX, xd := hX, vd := S.vd, stab := S.stab, hE := fun n' C ns l od H' p f g x => k3 n' C ns l od H' p f g x }, rfl, rfl, rfl, rfl, rfl, rfl⟩
  obtain ⟨W, w1, w2, w3, w4, w5, w6⟩ := W0
  have hlen := hi.len
  have gR : ∀ (i : Nat) (b : Bool) (d : D), (startR N ds)[i]? = some (some (b, d)) → b = false ∧ ds[i]? = some d := fun i b d q => by
    unfold startR at q
    rw [List.getElem?_append, List.length_map, List.getElem?_map] at q
    by_cases h : i < ds.length
    · rw [if_pos h] at q
      cases r : ds[i]? with
      | none => rw [r] at q; cases q
      | some d' => rw [r] at q; cases q; exact ⟨rfl, rfl⟩
    · rw [if_neg h, List.getElem?_replicate] at q
      split at q <;> cases q
  have no : ∀ a, ¬ Own (startR N ds) (L2.start N vs) a := fun a ⟨i, d, q, _⟩ => by
    have := (gR i true d q).1
    cases this
  have m : Mv X H (XX W [] (startR N ds) (L2.start N vs)) H := fun a o q hx => ⟨q, fun x => by
    rcases x with x | x | ⟨o, x⟩
    · rw [w2] at x; exact hx x
    · exact no a x
    · cases x⟩
  have e : Env W n [] [] (startR N ds) (L2.start N vs) H := by
    refine ⟨?_, fun i d q => ?_, fun i d q => ?_, fun i j d1 d2 a q1 => ?_, fun p hp => (nomatch hp), List.nodup_nil, fun p hp => (nomatch hp), fun a o h1 h2 => ?_, by rw [w3]; exact hG⟩
    · unfold L2.start startR
      simp [hlen]
    · obtain ⟨_, q⟩ := gR i false d q
      obtain ⟨v, h1, h2⟩ := hi.got q
      refine ⟨v, ?_, h2.mv m⟩
      have hlt : i < vs.length := (List.getElem?_eq_some_iff.mp h1).1
      rw [start_get, if_pos hlt, h1]; rfl
    · have := (gR i true d q).1
      cases this
    · have := (gR i true d1 q1).1
      cases this
    · rw [w4] at h1; exact h1
  refine k W n ds w1 w3 w5 w6 hl hp [] [] (L2.start N vs) H e _ ⟨fun n' ρ σ H' p e' => ?_, fun n' v d H' p f g i => ?_, fun n' a o d H' p f g h0 ha ho => ?_, fun _ _ _ _ h => h.elim, fun _ _ _ _ h => h.elim⟩
  · have f := e'.fr
    have g := e'.g
    rw [w1, w4] at f
    rw [w3] at g
    exact k1 n' .non .non H' p f g .non
  · rw [w1, w4] at f
    rw [w3] at g
    rw [w2] at i
    exact k1 n' v d H' p f g i
  · rw [w1, w4] at f
    rw [w3] at g
    rw [w4] at h0
    rw [w2] at ho
    exact k2 n' a o d H' p f g h0 ha ho

/-! ### calls of defs -/
/-- a callee that may change V so that G stays, called in W -/
structure Fit (V : AP) (G : Nat → Hp → Prop) (κ : Nat → Nat → Nat) (W : Wd) : Prop where
  sub : ∀ a, V a → W.V a
  g : ∀ n H, W.G n H → G n H
  back : ∀ n n' H H', W.G n H → Frm V H H' → G n' H' → W.G (κ n n') H'
theorem fit0 {W : Wd} : Fit V0 G0 (fun n _ => n) W := ⟨fun _ h => h.elim, fun _ _ _ => True.intro, fun n n' H H' g f _ => W.stab n H H' (fun a o q _ => f a o q fun z => z) g⟩
theorem fitW {V : AP} {G : Nat → Hp → Prop} {W : Wd} (h1 : W.V = V) (h2 : W.G = G) : Fit V G (fun _ n' => n') W := by
  subst h1 h2
  exact ⟨fun _ h => h, fun _ _ h => h, fun _ _ _ _ _ _ g => g⟩
section
variable {W : Wd} {n : Nat} {Z : ZL} {T : TL} {ρ : Rho} {σ : L2.St} {H : Hp} {N N' : Nat → Rho → Prop} {R : Nat → Bool → D → Prop} {B C : Nat → Rho → Prop} {t u : TS} {te ta tb : TE} {tt : TT} {d : D} {K : PySem.W.Frag}
  {m : Nat} {V : AP} {G : Nat → Hp → Prop} {κ : Nat → Nat → Nat} {pre : Nat → List D → Prop} {post : Nat → List D → Nat → Out → Prop} {E : XK} {P : Nat → D → Prop} {tas : TA}
theorem Fit.frm (F : Fit V G κ W) {H H' : Hp} (f : Frm V H H') : Frm W.V H H' := fun a o h hv => f a o h fun z => hv (F.sub a z)
theorem zero_mv (e : Env W n Z T ρ σ H) {a : Addr} {o : HO} {H' : Hp} (f : Frm V H H') (F : Fit V G κ W) : Mv (XX W Z ρ σ) H (XX W Z ρ σ) H' := fun b u q hx => ⟨f b u q fun z => XX.nv hx (F.sub b z), hx⟩
/-- the call, with what is raised at E; hx: what may be raised is let out -/
theorem call_prm (F : Fit V G κ W) (e : Env W n Z T ρ σ H) {vs : List L2.V} {ds : List D} (i : IsAll (XX W Z ρ σ) H vs ds) (hl : ds.length = m) (hp : pre n ds) {Q : VK}
    (q0 : ∀ n' d, post n ds n' (.ret false d) → P (κ n n') d) (q1 : ∀ n' d, post n ds n' (.ret true d) → P (κ n n') d) (k : RetK W Z T ρ σ P Q) (hx : ∀ n' C ns l od H', post n ds n' (.exc C ns l) → Frm V H H' → G n' H' → ExF (XX W Z ρ σ) H' od ns l → E (.ref C) od H') : Prm m V G pre post vs H Q E := by
  refine ⟨XX W Z ρ σ, ds, n, fun a hv => .inl (W.vx a (F.sub a hv)), fun a hx => e.xdom hx, F.g n H e.g, i, hl, hp, fun n' v d H' p f g iv => ?_, fun n' a o d H' p f g ha ho hb => ?_, hx⟩
  · exact k _ v d H' (q0 n' d p) (e.heap (F.frm f) (F.back n n' H H' e.g f g)) iv
  · have e' := e.heap (F.frm f) (F.back n n' H H' e.g f g)
    have na : ¬ XX W Z ρ σ a := fun x => e.xdom x ha
    exact k _ _ d H' (q1 n' d p) e' (hb.is ho na fun b u q hx => ⟨q, fun x => hx (.inl x)⟩)
/-- a fresh object comes out, pending -/
theorem fresh_env {n' : Nat} (e : Env W n Z T ρ σ H) (F : Fit V G κ W) {H' : Hp} {a : Addr} {o : HO} {d : D} (f : Frm V H H') (g : G n' H') (ha : H a = none) (ho : H' a = some o) (hb : Ob (fun b => XX W Z ρ σ b ∨ b = a) H' o d) :
    Env W (κ n n') ((a, o) :: Z) T ρ σ H' ∧ Ob (XX W ((a, o) :: Z) ρ σ) H' o d := by
  have e' := e.heap (F.frm f) (F.back n n' H H' e.g f g)
  have hx : ∀ b, XX W ((a, o) :: Z) ρ σ b → XX W Z ρ σ b ∨ b = a := fun b x => by
    rcases x with x | x | ⟨u, x⟩
    · exact .inl (.inl x)
    · exact .inl (.inr (.inl x))
    · rcases List.mem_cons.mp x with y | y
      · cases y; exact .inr rfl
      · exact .inl (.inr (.inr ⟨u, y⟩))
  -- all that the environment tells stands apart from a, as it did before the call
  have m : ∀ b u, H b = some u → ¬ XX W Z ρ σ b → ¬ XX W ((a, o) :: Z) ρ σ b := fun b u q nx x => (hx b x).elim nx fun z => by rw [z, ha] at q; cases q
  have mv : Mv (XX W Z ρ σ) H (XX W ((a, o) :: Z) ρ σ) H' := fun b u q nx => ⟨f b u q fun z => XX.nv nx (F.sub b z), m b u q nx⟩
  refine ⟨⟨e'.len, fun i d q => ?_, fun i d q => ?_, e'.inj, fun p hp => ?_, ?_, fun p hp => (e.t p hp).mv mv, e'.fr, e'.g⟩, hb.mv fun b u q nx => ⟨q, fun x => nx (hx b x)⟩⟩
  · obtain ⟨v, h1, h2⟩ := e.sh i d q
    exact ⟨v, h1, h2.mv mv⟩
  · obtain ⟨b, u, h1, h2, h3, h4, h5⟩ := e.ow i d q
    have ne : b ≠ a := fun z => by rw [z, ha] at h2; cases h2
    refine ⟨b, u, h1, f b u h2 fun z => Env.nv0 h4 (F.sub b z), h3.mv mv, h4, fun ⟨u', x⟩ => ?_⟩
    rcases List.mem_cons.mp x with y | y
    · cases y; exact ne rfl
    · exact h5 ⟨u', y⟩
  · rcases List.mem_cons.mp hp with y | y
    · rw [y]; exact ⟨ho, e.dom0 ha⟩
    · exact e'.z p y
  · rw [List.map_cons]
    refine List.nodup_cons.mpr ⟨fun x => ?_, e.zn⟩
    obtain ⟨q, hq, eq⟩ := List.mem_map.mp x
    have eq' : q.1 = a := eq
    exact e.znew ha ⟨q.2, by rw [← eq']; exact hq⟩
theorem call_prmF (F : Fit V G κ W) (e : Env W n Z T ρ σ H) {vs : List L2.V} {ds : List D} (i : IsAll (XX W Z ρ σ) H vs ds) (hl : ds.length = m) (hp : pre n ds) {Q : VK}
    (q0 : ∀ n' d, ¬ post n ds n' (.ret false d)) (q1 : ∀ n' d, post n ds n' (.ret true d) → P (κ n n') d) (k : RetF W Z T ρ σ P Q) (hx : ∀ n' C ns l od H', post n ds n' (.exc C ns l) → Frm V H H' → G n' H' → ExF (XX W Z ρ σ) H' od ns l → E (.ref C) od H') : Prm m V G pre post vs H Q E := by
  refine ⟨XX W Z ρ σ, ds, n, fun a hv => .inl (W.vx a (F.sub a hv)), fun a hx => e.xdom hx, F.g n H e.g, i, hl, hp, fun n' v d H' p => absurd p (q0 n' d), fun n' a o d H' p f g ha ho hb => ?_, hx⟩
  obtain ⟨e', hb'⟩ := fresh_env e F f g ha ho hb
  exact k _ a o d H' (q1 n' d p) e' hb'
theorem exf_x0 {od : Option Addr} {ns : List Str} {l : List D} {X' : AP} (h : ExF (XX W Z ρ σ) H od ns l) (hX : ∀ a, X' a → XX W Z ρ σ a) : ExF X' H od ns l := by
  rcases h with h | ⟨dd, fs, h0, h1, h2, h3, h4, h5⟩
  · exact .inl h
  · exact .inr ⟨dd, fs, h0, h1, fun z => h2 (hX dd z), h3, h4, h5.mv (fun a o q hx => ⟨q, fun x => hx (hX a x)⟩) _⟩
/-- what the callee raises leaves the caller -/
theorem exc_out (F : Fit V G κ W) (hE : W.E = E) (e : Env W n Z T ρ σ H) {ds : List D} (hx : ∀ n' C ns l, post n ds n' (.exc C ns l) → W.EP (κ n n') C ns l) : ∀ n' C ns l od H', post n ds n' (.exc C ns l) → Frm V H H' → G n' H' → ExF (XX W Z ρ σ) H' od ns l → E (.ref C) od H' := fun n' C ns l od H' p f g x => by
  rw [← hE]
  have e' := e.heap (F.frm f) (F.back n n' H H' e.g f g)
  exact W.hE _ C ns l od H' (hx n' C ns l p) e'.fr e'.g (exf_x0 x fun a h => .inl h)
/-- a call of which nothing is raised -/
theorem de_call (F : Fit V G κ W) (h : DA tas W n ρ fun n ds => ds.length = m ∧ pre n ds ∧ (∀ n' C ns l, ¬ post n ds n' (.exc C ns l)) ∧ ∀ n' b d, post n ds n' (.ret b d) → P (κ n n') d) : DE (tCall (Prm m V G pre post) [] E tas) W n ρ P := fun Z T σ H e Q k =>
  h Z T σ H e _ fun n vs ds H' ⟨hl, hp, hx, hq⟩ e' i => by
    show Prm m V G pre post (vs ++ []) H' Q E
    rw [List.append_nil]
    exact call_prm F e' i hl hp (fun n' => hq n' false) (fun n' => hq n' true) k fun n' C ns l _ _ p => absurd p (hx n' C ns l)
theorem df_call (F : Fit V G κ W) (h : DA tas W n ρ fun n ds => ds.length = m ∧ pre n ds ∧ (∀ n' C ns l, ¬ post n ds n' (.exc C ns l)) ∧ (∀ n' d, ¬ post n ds n' (.ret false d)) ∧ ∀ n' d, post n ds n' (.ret true d) → P (κ n n') d) : DF (tCall (Prm m V G pre post) [] E tas) W n ρ P := fun Z T σ H e Q k =>
  h Z T σ H e _ fun n vs ds H' ⟨hl, hp, hx, hq0, hq⟩ e' i => by
    show Prm m V G pre post (vs ++ []) H' Q E
    rw [List.append_nil]
    exact call_prmF F e' i hl hp hq0 hq k fun n' C ns l _ _ p => absurd p (hx n' C ns l)
/-- a call that may raise what the caller may raise -/
theorem de_callE (F : Fit V G κ W) (hE : W.E = E) (h : DA tas W n ρ fun n ds => ds.length = m ∧ pre n ds ∧ (∀ n' C ns l, post n ds n' (.exc C ns l) → W.EP (κ n n') C ns l) ∧ ∀ n' b d, post n ds n' (.ret b d) → P (κ n n') d) : DE (tCall (Prm m V G pre post) [] E tas) W n ρ P := fun Z T σ H e Q k =>
  h Z T σ H e _ fun n vs ds H' ⟨hl, hp, hx, hq⟩ e' i => by
    show Prm m V G pre post (vs ++ []) H' Q E
    rw [List.append_nil]
    exact call_prm F e' i hl hp (fun n' => hq n' false) (fun n' => hq n' true) k (exc_out F hE e' hx)
theorem df_callE (F : Fit V G κ W) (hE : W.E = E) (h : DA tas W n ρ fun n ds => ds.length = m ∧ pre n ds ∧ (∀ n' C ns l, post n ds n' (.exc C ns l) → W.EP (κ n n') C ns l) ∧ (∀ n' d, ¬ post n ds n' (.ret false d)) ∧ ∀ n' d, post n ds n' (.ret true d) → P (κ n n') d) : DF (tCall (Prm m V G pre post) [] E tas) W n ρ P := fun Z T σ H e Q k =>
  h Z T σ H e _ fun n vs ds H' ⟨hl, hp, hx, hq0, hq⟩ e' i => by
    show Prm m V G pre post (vs ++ []) H' Q E
    rw [List.append_nil]
    exact call_prmF F e' i hl hp hq0 hq k (exc_out F hE e' hx)
/-- with keywords: gV puts the values in the def's order -/
theorem de_callK {gV : List L2.V → List L2.V → List L2.V} {gD : List D → List D → List D} {tks : TA} (F : Fit V G κ W) (hE : W.E = E) (hg : ∀ (X : AP) (H : Hp) vs zs ds es, IsAll X H vs ds → IsAll X H zs es → IsAll X H (gV vs zs) (gD ds es))
    (h : DA tas W n ρ fun n ds => DA tks W n ρ fun n es => (gD ds es).length = m ∧ pre n (gD ds es) ∧ (∀ n' C ns l, post n (gD ds es) n' (.exc C ns l) → W.EP (κ n n') C ns l) ∧ ∀ n' b d, post n (gD ds es) n' (.ret b d) → P (κ n n') d) : DE (tCallK (Prm m V G pre post) gV E tas tks) W n ρ P := fun Z T σ H e Q k =>
  h Z T σ H e _ fun n vs ds H1 p e1 i1 => p Z (zipT vs ds ++ T) σ H1 (e1.pushAll i1) _ fun n zs es H2 ⟨hl, hp, hx, hq⟩ e2 i2 => by
    exact call_prm F e2.popAll (hg _ _ _ _ _ _ (e2.topAll i1.len) i2) hl hp (fun n' => hq n' false) (fun n' => hq n' true) k (exc_out F hE e2.popAll hx)
/-! ### raise -/
theorem ds_raise {cls : Addr} (h : W.EP n cls [] []) (hE : W.E = E) : DS (fun _ σ H => (fun (_ : L2.St) H Q => Q (.ref cls) none H) σ H fun cls d H' => (fun cls d (_ : L2.St) H => E cls d H) cls d σ H') W n ρ N R B C := fun Z T σ H e De f => by
  show E (.ref cls) none H
  rw [← hE]
  exact W.hE n cls [] [] none H h e.fr e.g (.inl ⟨rfl, rfl, rfl⟩)
theorem ds_never {t : TS} (h : False) : DS t W n ρ N R B C := h.elim
end
end HD

namespace HD
open PySem PySem.Spec PyProof.Rows L2

/-! ### operators of any kind -/
def rAddI : R2 := rI0 fun i j => .int (i + j)
def rAddZ : R2 := fun x y H Q => ∃ i j, x = .str i ∧ y = .str j ∧ i.length + j.length ≤ sizeLine ∧ Q (.str (i ++ j)) H
def rAddU (K : PySem.W.Frag) : R2 := fun x y H Q => rAddI x y H Q ∨ (fun x y H Q => rCatA K x y H Q ∨ (fun x y H Q => rCat x y H Q ∨ rAddZ x y H Q) x y H Q) x y H Q
def rMulI : R2 := rI (fun i j => CMul i j ∨ CMulW i j) fun i j => .int (i * j)
def rMulU (K : PySem.W.Frag) : R2 := fun x y H Q => rMulI x y H Q ∨ (fun x y H Q => rRep x y H Q ∨ rRepT K x y H Q) x y H Q
def rFdiv : R2 := rI (fun i j => CDivN i j ∨ CDivW i j) fun i j => .int (i.fdiv j)
def rInDic : R2 := fun y x H Q => ∃ a o, x = .ref a ∧ DGet H a y o ∧ Q (.bl o.isSome) H
def rNotInDic : R2 := fun y x H Q => ∃ a o, x = .ref a ∧ DGet H a y o ∧ Q (.bl (!o.isSome)) H
def rInDT (K : PySem.W.Frag) : R2 := fun x y H Q => ∃ d ds, Dp K H x d ∧ Dp K H y (.tuple ds) ∧ SeqAt.shaped d = true ∧ SeqAt.shaped (.tuple ds) = true ∧ Q (.bl (ds.any fun z => PyData.eqv z d)) H
def rNotInDT (K : PySem.W.Frag) : R2 := fun x y H Q => ∃ d ds, Dp K H x d ∧ Dp K H y (.tuple ds) ∧ SeqAt.shaped d = true ∧ SeqAt.shaped (.tuple ds) = true ∧ Q (.bl (!ds.any fun z => PyData.eqv z d)) H
def rInU (K : PySem.W.Frag) : R2 := fun x y H Q => rInD K x y H Q ∨ (fun x y H Q => rInDT K x y H Q ∨ (fun x y H Q => rIn K false x y H Q ∨ rInDic x y H Q) x y H Q) x y H Q
def rNotInU (K : PySem.W.Frag) : R2 := fun x y H Q => rNotInD K x y H Q ∨ (fun x y H Q => rNotInDT K x y H Q ∨ (fun x y H Q => rIn K true x y H Q ∨ rNotInDic x y H Q) x y H Q) x y H Q
def rIsNon : R2 := fun x y H Q => y = .non ∧ Q (.bl (decide (x = .non))) H
def rIsBl : R2 := fun x y H Q => ∃ a b, x = .bl a ∧ y = .bl b ∧ Q (.bl (decide (a = b))) H
def rIsnNon : R2 := fun x y H Q => y = .non ∧ Q (.bl (!decide (x = .non))) H
def rIsnBl : R2 := fun x y H Q => ∃ a b, x = .bl a ∧ y = .bl b ∧ Q (.bl (!decide (a = b))) H
def rIsU : R2 := fun x y H Q => rIsNon x y H Q ∨ rIsBl x y H Q
def rIsnU : R2 := fun x y H Q => rIsnNon x y H Q ∨ rIsnBl x y H Q
def rSub' : R2 := rI0 fun i j => .int (i - j)
def rMod : R2 := rI (fun _ j => j ≠ 0) fun i j => .int (i.fmod j)
def rPow : R2 := rI CPow fun i j => .int (i ^ j.toNat)
def rLt : R2 := rI0 fun i j => .bl (decide (i < j))
def rLe : R2 := rI0 fun i j => .bl (decide (i ≤ j))
def rGt' : R2 := rI0 fun i j => .bl (decide (j < i))
def rGe' : R2 := rI0 fun i j => .bl (decide (j ≤ i))
section
variable {X : Cx}
theorem op_addU : OpR X (binaryOp .Add) (rAddU X.K) := op_add.or (op_catA.or (op_cat.or op_add_str))
theorem op_mulI : OpR X (binaryOp .Mult) rMulI := by
  intro pins s σ H x y v u Q I rx ry h
  obtain ⟨i, j, rfl, rfl, c, q⟩ := h
  rcases c with c | c
  · exact op_mul pins s σ H _ _ v u Q I rx ry ⟨i, j, rfl, rfl, c, q⟩
  · exact op_mulW pins s σ H _ _ v u Q I rx ry ⟨i, j, rfl, rfl, c, q⟩
theorem op_mulU : OpR X (binaryOp .Mult) (rMulU X.K) := op_mulI.or (op_rep.or op_repT)
theorem op_fdivU : OpR X (binaryOp .FloorDiv) rFdiv := by
  intro pins s σ H x y v u Q I rx ry h
  obtain ⟨i, j, rfl, rfl, c, q⟩ := h
  rcases c with c | c
  · exact op_fdivN pins s σ H _ _ v u Q I rx ry ⟨i, j, rfl, rfl, c, q⟩
  · refine op_fdivW pins s σ H _ _ v u Q I rx ry ⟨i, j, rfl, rfl, c, ?_⟩
    have q : Q (.int (i.fdiv j)) H := q
    rw [Int.fdiv_eq_ediv_of_nonneg _ (Int.le_of_lt c.1)] at q
    exact q
theorem op_inDic (hu : X.A.units + 1 < cLine) : OpR X (compareOp .In) rInDic := by
  intro pins s σ H x y v u Q I rx ry h
  obtain ⟨a, o, rfl, g, q⟩ := h
  obtain rfl : u = Value.ref a := ry
  exact d_in hu I g rx fun s3 I3 => ⟨.bl o.isSome, H, I3, rfl, q⟩
theorem op_notInDic (hu : X.A.units + 1 < cLine) : OpR X (compareOp .NotIn) rNotInDic := by
  intro pins s σ H x y v u Q I rx ry h
  obtain ⟨a, o, rfl, g, q⟩ := h
  obtain rfl : u = Value.ref a := ry
  exact d_notIn hu I g rx fun s3 I3 => ⟨.bl (!o.isSome), H, I3, rfl, q⟩
/-- x[y]: of a list, a tuple, a text by a place, of a dict by a key -/
def rIxDic : R2 := fun x y H Q => ∃ a z, x = .ref a ∧ DGet H a y (some z) ∧ Q z H
def rIxU (K : PySem.W.Frag) : R2 := fun x y H Q => rIx K x y H Q ∨ rIxDic x y H Q
theorem ix_dic (hu : X.A.units + 1 < cLine) : IxR X rIxDic := by
  intro value slice pins s σ H x y v u Q I rx ry h hs
  obtain ⟨a, z, rfl, g, q⟩ := h
  cases (show v = Value.ref a from rx)
  have got : wpAny (model X.prog X.w) X.A (subscripted slice false (.ref a) u) (fun r s3 => wpAny (model X.prog X.w) X.A (letTemporaryGo value (.ref a) r >>= fun _ => pure r) (L2.EP X pins σ Q) X.xe s3) X.xe s := by
    rw [hs]
    refine wpAny_operating (d_getItem hu I g ry fun w' s' J r => ?_)
    have fin : L2.EP X pins σ Q w' s' := ⟨z, H, J, r, q⟩
    exact wpAny_bind (wpAny_letTemporaryGo (wpAny_pure fin))
  unfold subscriptTail
  have hT := dict_typeIs I g
  refine wpAny_bind ?_
  rw [getitemInPython_of_ne hT.not_modules]
  refine wpAny_bind (wpAny_specialOf hT PySem.F.slot_dict_getitem.lookup ?_)
  first | exact wpAny_bind got | exact wpAny_pure (wpAny_bind got) | exact wpAny_bind (wpAny_pure (wpAny_bind got))
theorem ix_U (hu : X.A.units + 1 < cLine) : IxR X (rIxU X.K) := ix_seq.or (ix_dic hu)
theorem u65 {k : Nat} {A : Around} (hr : Room k A) : A.units + 65 < cLine := by have h := hr.un; omega
theorem u1 {k : Nat} {A : Around} (hr : Room k A) : A.units + 1 < cLine := by have h := hr.un; omega
theorem u64 {k : Nat} {A : Around} (hr : Room k A) : A.units + 64 < cLine := by have h := hr.un; omega
theorem op_inDT (hu : X.A.units + 65 < cLine) : OpR X (compareOp .In) (rInDT X.K) := by
  intro pins s σ H x y v u Q I rx ry h
  obtain ⟨d, ds, hd, he, sd, se, q⟩ := h
  obtain ⟨as, r1⟩ := Dp.reads I d x v hd rx
  obtain ⟨bs, r2⟩ := Dp.reads I (.tuple ds) y u he ry
  exact SeqAt.in_tuple_reads r2 r1 (SeqAt.canLay_of_shaped se) (SeqAt.canLay_of_shaped sd) (room_in_shaped sd hu) ⟨.bl _, H, I, rfl, q⟩
theorem op_notInDT (hu : X.A.units + 65 < cLine) : OpR X (compareOp .NotIn) (rNotInDT X.K) := by
  intro pins s σ H x y v u Q I rx ry h
  obtain ⟨d, ds, hd, he, sd, se, q⟩ := h
  obtain ⟨as, r1⟩ := Dp.reads I d x v hd rx
  obtain ⟨bs, r2⟩ := Dp.reads I (.tuple ds) y u he ry
  exact SeqAt.notIn_tuple_reads r2 r1 (SeqAt.canLay_of_shaped se) (SeqAt.canLay_of_shaped sd) (room_in_shaped sd hu) ⟨.bl _, H, I, rfl, q⟩
theorem op_inU {k : Nat} (hr : Room k X.A) : OpR X (compareOp .In) (rInU X.K) := (op_inD (u65 hr)).or ((op_inDT (u65 hr)).or (op_in_seq.or (op_inDic (u1 hr))))
theorem op_notInU {k : Nat} (hr : Room k X.A) : OpR X (compareOp .NotIn) (rNotInU X.K) := (op_notInD (u65 hr)).or ((op_notInDT (u65 hr)).or (op_notIn_seq.or (op_notInDic (u1 hr))))
theorem op_isU : OpR X (compareOp .Is) rIsU := op_isN.or op_is_bl
theorem op_isnU : OpR X (compareOp .IsNot) rIsnU := op_notN.or op_isnot_bl
theorem op_eqU {k : Nat} (hr : Room k X.A) : OpR X (compareOp .Eq) (rEqD X.K) := op_eqD (u64 hr)
theorem op_neU {k : Nat} (hr : Room k X.A) : OpR X (compareOp .NotEq) (rNeD X.K) := op_neD (u64 hr)
theorem op_subU : OpR X (binaryOp .Sub) rSub' := op_sub
theorem op_modU : OpR X (binaryOp .Mod) rMod := op_modN
theorem op_powU : OpR X (binaryOp .Pow) rPow := op_pow
theorem op_ltU : OpR X (compareOp .Lt) rLt := op_lt
theorem op_leU : OpR X (compareOp .LtE) rLe := op_le
theorem op_gtU : OpR X (compareOp .Gt) rGt' := op_gt
theorem op_geU : OpR X (compareOp .GtE) rGe' := op_ge
end

section
variable {W : Wd} {n : Nat} {Z : ZL} {T : TL} {ρ : Rho} {σ : L2.St} {H : Hp} {P : Nat → D → Prop} {K : PySem.W.Frag} {X : AP} {d d1 d2 : D} {v : L2.V}
/-! on ints -/
theorem r_add {i j : Int} (p : P n (.int (i + j))) : DR (rAddU K) W n ρ (.int i) (.int j) P := dr_orl (dr_I0i p)
theorem r_sub {i j : Int} (p : P n (.int (i - j))) : DR rSub' W n ρ (.int i) (.int j) P := dr_I0i p
theorem r_mul {i j : Int} (c : CMul i j ∨ CMulW i j) (p : P n (.int (i * j))) : DR (rMulU K) W n ρ (.int i) (.int j) P := dr_orl (dr_Ii (C := fun i j => CMul i j ∨ CMulW i j) (g := fun i j => i * j) c p)
theorem r_fdiv {i j : Int} (c : CDivN i j ∨ CDivW i j) (p : P n (.int (i.fdiv j))) : DR rFdiv W n ρ (.int i) (.int j) P := dr_Ii (C := fun i j => CDivN i j ∨ CDivW i j) (g := fun i j => i.fdiv j) c p
theorem r_mod {i j : Int} (c : j ≠ 0) (p : P n (.int (i.fmod j))) : DR rMod W n ρ (.int i) (.int j) P := dr_Ii (C := fun _ j => j ≠ 0) (g := fun i j => i.fmod j) c p
theorem r_pow {i j : Int} (c : CPow i j) (p : P n (.int (i ^ j.toNat))) : DR rPow W n ρ (.int i) (.int j) P := dr_Ii (C := CPow) (g := fun i j => i ^ j.toNat) c p
theorem r_lt {i j : Int} (p : P n (.bl (decide (i < j)))) : DR rLt W n ρ (.int i) (.int j) P := dr_I0b (g := fun i j => decide (i < j)) p
theorem r_le {i j : Int} (p : P n (.bl (decide (i ≤ j)))) : DR rLe W n ρ (.int i) (.int j) P := dr_I0b (g := fun i j => decide (i ≤ j)) p
theorem r_gt {i j : Int} (p : P n (.bl (decide (j < i)))) : DR rGt' W n ρ (.int i) (.int j) P := dr_I0b (g := fun i j => decide (j < i)) p
theorem r_ge {i j : Int} (p : P n (.bl (decide (j ≤ i)))) : DR rGe' W n ρ (.int i) (.int j) P := dr_I0b (g := fun i j => decide (j ≤ i)) p
/-! is -/
theorem r_isN (p : P n (.bl d1.isNon)) : DR rIsU W n ρ d1 .non P := dr_orl (dr_isN p)
theorem r_isnN (p : P n (.bl (!d1.isNon))) : DR rIsnU W n ρ d1 .non P := dr_orl (dr_notN p)
theorem r_isB {a b : Bool} (p : P n (.bl (decide (a = b)))) : DR rIsU W n ρ (.bl a) (.bl b) P := dr_orr (dr_isB p)
theorem r_isnB {a b : Bool} (p : P n (.bl (!decide (a = b)))) : DR rIsnU W n ρ (.bl a) (.bl b) P := dr_orr (dr_isnotB p)
/-! tuples, lists together -/
theorem new_tup (e : Env W n Z T ρ σ H) {xs : List L2.V} {ds : List D} (h : IsAll (XX W Z ρ σ) H xs ds) {p : Addr} (hp : H p = none) : Env W n Z T ρ σ (upd H p (.tup xs)) ∧ Is (XX W Z ρ σ) (upd H p (.tup xs)) (.ref p) (.tup ds) := by
  have e2 := e.lay (o := .tup xs) hp
  exact ⟨e2.zpop, .tup e2.zmv.2 upd_same (h.mv (fun a u q hx => ⟨by rw [upd_ne (ne_of_none q hp)]; exact q, hx⟩) _)⟩
theorem IsW.tup_is {ds : List D} (h : IsW X H v (.tup ds)) : Is X H v (.tup ds) := by
  rcases h with h | ⟨a, o, _, _, h⟩
  · exact h
  · cases h
theorem r_addT {ds es : List D} (hl : ds.length + es.length ≤ sizeLine) (p : P n (.tup (ds ++ es))) : DR (rAddU K) W n ρ (.tup ds) (.tup es) P := dr_orr (dr_orl fun Z T σ H v1 v2 e i1 i2 Q k => by
  have j1 := i1.tup_is
  have j2 := i2.tup_is
  obtain ⟨a, xs, rfl, ha, h1, _⟩ := isw_tup i1
  obtain ⟨b, ys, rfl, hb, h2, _⟩ := isw_tup i2
  refine ⟨a, b, xs, ys, rfl, rfl, .of ha, .of hb, by rw [h1.len, h2.len]; exact hl, fun q => ?_, fun _ q => ?_, fun _ _ t ht => ?_⟩
  · subst q
    cases h1
    exact k _ _ _ H p e j2
  · subst q
    cases h2
    rw [List.append_nil] at p
    exact k _ _ _ H p e j1
  · obtain ⟨e', i'⟩ := new_tup e (h1.append h2) ht
    exact k _ _ _ _ p e' i')
theorem new_lst (e : Env W n Z T ρ σ H) {xs : List L2.V} {ds : List D} (h : IsAll (XX W Z ρ σ) H xs ds) {p : Addr} (hp : H p = none) : Env W n ((p, .lst xs) :: Z) T ρ σ (upd H p (.lst xs)) ∧ Ob (XX W ((p, .lst xs) :: Z) ρ σ) (upd H p (.lst xs)) (.lst xs) (.lst ds) := ⟨e.lay hp, .lst (h.mv (lay_mv e hp) _)⟩
theorem r_addL {ds es : List D} (hl : ds.length + es.length ≤ sizeLine) (p : P n (.lst (ds ++ es))) : DRF (rAddU K) W n ρ (.lst ds) (.lst es) P := drf_orr (drf_orr (drf_orl fun Z T σ H v1 v2 e i1 i2 Q k => by
  obtain ⟨a, xs, rfl, ha, h1⟩ := isw_lst i1
  obtain ⟨b, ys, rfl, hb, h2⟩ := isw_lst i2
  refine ⟨a, b, xs, ys, rfl, rfl, ha, hb, by rw [h1.len, h2.len]; exact hl, fun t ht => ?_⟩
  obtain ⟨e', i'⟩ := new_lst e (h1.append h2) ht
  exact k _ _ _ _ _ p e' i'))
theorem IsAll.rep {xs : List L2.V} {ds : List D} (h : IsAll X H xs ds) : ∀ n : Nat, IsAll X H (List.replicate n xs).flatten (List.replicate n ds).flatten
  | 0 => .nil
  | n + 1 => by
    rw [List.replicate_succ, List.replicate_succ, List.flatten_cons, List.flatten_cons]
    exact h.append (h.rep n)
theorem r_repL {ds : List D} {c : Int} (h1 : -(2 ^ 63) ≤ c) (h2 : c < 2 ^ 63) (hl : ds.length * c.toNat ≤ sizeLine) (p : P n (.lst (List.replicate c.toNat ds).flatten)) : DRF (rMulU K) W n ρ (.lst ds) (.int c) P := drf_orr (drf_orl fun Z T σ H v1 v2 e i1 i2 Q k => by
  obtain ⟨a, xs, rfl, ha, i⟩ := isw_lst i1
  cases isw_int i2
  refine ⟨a, c, xs, rfl, rfl, ha, h1, h2, by rw [i.len]; exact hl, fun t ht => ?_⟩
  obtain ⟨e', i'⟩ := new_lst e (i.rep c.toNat) ht
  exact k _ _ _ _ _ p e' i')
theorem r_repT {ds : List D} {c : Int} (h0 : ds ≠ []) (h1 : 2 ≤ c) (h2 : c ≤ 1000) (hl : ds.length ≤ 1000) (p : P n (.tup (List.replicate c.toNat ds).flatten)) : DR (rMulU K) W n ρ (.tup ds) (.int c) P := dr_orr (dr_orr fun Z T σ H v1 v2 e i1 i2 Q k => by
  obtain ⟨a, xs, rfl, ha, i, _⟩ := isw_tup i1
  cases isw_int i2
  refine ⟨a, c, xs, rfl, rfl, .of ha, fun q => h0 ?_, h1, h2, by rw [i.len]; exact hl, fun t ht => ?_⟩
  · subst q
    cases i
    rfl
  · obtain ⟨e', i'⟩ := new_tup e (i.rep c.toNat) ht
    exact k _ _ _ _ p e' i')
/-! items -/
theorem atI_all {xs : List L2.V} {ds : List D} (h : IsAll X H xs ds) {i : Int} {d : D} (hd : atI ds i = some d) : ∃ v, atI xs i = some v ∧ Is X H v d := by
  unfold atI at hd ⊢
  rw [h.len]
  cases q : ixN ds.length i with
  | none => rw [q] at hd; cases hd
  | some j =>
    rw [q] at hd
    exact h.got hd
theorem r_ix {ds : List D} {i : Int} (h : d1 = .lst ds ∨ d1 = .tup ds) (hd : atI ds i = some d) (p : P n d) : DR (rIx K) W n ρ d1 (.int i) P := fun Z T σ H v1 v2 e i1 i2 Q k => by
  cases isw_int i2
  rcases h with rfl | rfl
  · obtain ⟨a, xs, rfl, ha, h1⟩ := isw_lst i1
    obtain ⟨v, h2, h3⟩ := atI_all h1 hd
    exact .inl ⟨a, xs, i, v, rfl, rfl, .of ha, h2, k _ v d H p e h3⟩
  · obtain ⟨a, xs, rfl, ha, h1, _⟩ := isw_tup i1
    obtain ⟨v, h2, h3⟩ := atI_all h1 hd
    exact .inr (.inl ⟨a, xs, i, v, rfl, rfl, .of ha, h2, k _ v d H p e h3⟩)
theorem r_ixL {ds : List D} {i : Int} (hd : atI ds i = some d) (p : P n d) : DR (rIxU K) W n ρ (.lst ds) (.int i) P := dr_orl (r_ix (.inl rfl) hd p)
theorem r_ixT {ds : List D} {i : Int} (hd : atI ds i = some d) (p : P n d) : DR (rIxU K) W n ρ (.tup ds) (.int i) P := dr_orl (r_ix (.inr rfl) hd p)
/-- a key as a datum -/
def kD : Key → D
  | .inl i => .int i
  | .inr x => .str x
theorem isw_kD {k : Key} (h : IsW X H v (kD k)) : v = kV k := by
  cases k with
  | inl i => exact isw_int h
  | inr x => exact isw_str h
def dGet (ks : List Key) (l : List D) (k : Key) : Option D := ((ks.zip l).find? fun p => decide (p.1 = k)).map (·.2)
theorem val_get : ∀ {kvs : List (Key × L2.V)} {l : List D} {k : Key} {d : D}, IsAll X H (kvs.map (·.2)) l → dGet (kvs.map (·.1)) l k = some d → ∃ v, valV kvs k = some v ∧ Is X H v d
  | [], l, k, d, h, e => by cases h; cases e
  | (k', v) :: kvs, _, k, d, .cons h t, e => by
    by_cases q : k' = k
    · subst q
      unfold dGet at e
      simp at e
      subst e
      exact ⟨v, valV_pos rfl, h⟩
    · unfold dGet at e
      rw [List.map_cons, List.zip_cons_cons, List.find?_cons_of_neg (by simpa using q)] at e
      obtain ⟨w, h1, h2⟩ := val_get t e
      exact ⟨w, by rw [valV_neg q]; exact h1, h2⟩
theorem r_ixD {ks : List Key} {ds : List D} {k : Key} (h2 : d2 = kD k) (hd : dGet ks ds k = some d) (p : P n d) : DR (rIxU K) W n ρ (.dic ks ds) d2 P := dr_orr fun Z T σ H v1 v2 e i1 i2 Q q => by
  subst h2
  obtain ⟨a, kvs, rfl, ha, hk, h1⟩ := isw_dic i1
  subst hk
  obtain ⟨v, g1, g2⟩ := val_get h1 hd
  exact ⟨a, v, rfl, .inl ⟨kvs, k, .inl ha, isw_kD i2, g1.symm⟩, q _ v d H p e g2⟩
/-! slices -/
def cutD (ds : List D) (lo hi : Option Int) : List D := (ds.drop (HT.sIx ds.length 0 lo)).take (HT.sIx ds.length ds.length hi - HT.sIx ds.length 0 lo)
theorem IsAll.cut {xs : List L2.V} {ds : List D} (h : IsAll X H xs ds) (lo hi : Option Int) : IsAll X H (cutV xs lo hi) (cutD ds lo hi) := by
  unfold cutV cutD
  rw [h.len]
  exact (h.drop _).take _
def rSlU (K : PySem.W.Frag) : L2.V → Option Int → Option Int → Hp → VK → Prop := fun x lo hi H Q => rSlA K x lo hi H Q ∨ rSlL K x lo hi H Q
theorem sl_U {X : Cx} : SlR X (rSlU X.K) := sl_tupA.or sl_list
theorem r_slT {ds : List D} {lo hi : Option Int} (p : P n (.tup (cutD ds lo hi))) : DSl (rSlU K) W n ρ (.tup ds) lo hi P := fun Z T σ H v e i Q k => by
  have j := i.tup_is
  obtain ⟨a, xs, rfl, ha, h1, _⟩ := isw_tup i
  refine .inl ⟨a, xs, rfl, .of ha, fun q => ?_, fun _ t ht => ?_⟩
  · have : cutD ds lo hi = ds := by
      unfold cutD
      rw [h1.len] at q
      rw [q.1, q.2, List.drop_zero, Nat.sub_zero, List.take_length]
    rw [this] at p
    exact k _ _ _ H p e j
  · obtain ⟨e', i'⟩ := new_tup e (h1.cut lo hi) ht
    exact k _ _ _ _ p e' i'
def DSlF (r : L2.V → Option Int → Option Int → Hp → VK → Prop) (W : Wd) (n : Nat) (ρ : Rho) (d : D) (lo hi : Option Int) (P : Nat → D → Prop) : Prop := ∀ (Z : ZL) (T : TL) (σ : L2.St) (H : Hp) (v : L2.V), Env W n Z T ρ σ H → IsW (XX W Z ρ σ) H v d → ∀ Q : VK, RetF W Z T ρ σ P Q → r v lo hi H Q
theorem r_slL {ds : List D} {lo hi : Option Int} (p : P n (.lst (cutD ds lo hi))) : DSlF (rSlU K) W n ρ (.lst ds) lo hi P := fun Z T σ H v e i Q k => by
  obtain ⟨a, xs, rfl, ha, h1⟩ := isw_lst i
  refine .inr ⟨a, xs, rfl, .of ha, fun t ht => ?_⟩
  obtain ⟨e', i'⟩ := new_lst e (h1.cut lo hi) ht
  exact k _ _ _ _ _ p e' i'
theorem DSlF.sl {r : L2.V → Option Int → Option Int → Hp → VK → Prop} {lo hi : Option Int} (h : DSlF r W n ρ d lo hi P) : DSl r W n ρ d lo hi P := fun Z T σ H v e i Q k => h Z T σ H v e i Q (RetF.sh k)

/-! ### built-ins -/
theorem ws1 {vs : List L2.V} (h : IsWs X H vs [d]) : ∃ v, vs = [v] ∧ IsW X H v d := by
  cases h with
  | cons h t => cases t; exact ⟨_, rfl, h⟩
theorem ws2 {vs : List L2.V} (h : IsWs X H vs [d1, d2]) : ∃ v1 v2, vs = [v1, v2] ∧ IsW X H v1 d1 ∧ IsW X H v2 d2 := by
  cases h with
  | cons h t =>
    cases t with
    | cons h2 t => cases t; exact ⟨_, _, rfl, h, h2⟩
def rLenU (K : PySem.W.Frag) : List L2.V → Hp → VK → Prop := fun xs H Q => (fun xs H Q => ∃ p ys, xs = [L2.V.ref p] ∧ (SqL K H p ys ∨ SqT K H p ys) ∧ Q (.int ys.length) H) xs H Q ∨ (fun xs H Q => (∃ z, xs = [L2.V.str z] ∧ z.length ≤ sizeLine ∧ Q (.int z.length) H) ∨ ∃ a kvs, xs = [L2.V.ref a] ∧ H a = some (.dK kvs) ∧ Q (.int kvs.length) H) xs H Q
theorem call_lenU {X : Cx} : CallR X (.builtin "len") (rLenU X.K) := call_len_seq.or (call_len_str.or call_lenD)
theorem b_lenL {ds : List D} (p : P n (.int (ds.length : Int))) : DC (rLenU K) W n ρ [.lst ds] P := fun Z T σ H vs e i Q k => by
  obtain ⟨v, rfl, i1⟩ := ws1 i
  obtain ⟨a, xs, rfl, ha, h1⟩ := isw_lst i1
  exact .inl ⟨a, xs, rfl, .inl (.of ha), by rw [h1.len]; exact k _ _ _ H p e (.int _)⟩
theorem b_lenT {ds : List D} (p : P n (.int (ds.length : Int))) : DC (rLenU K) W n ρ [.tup ds] P := fun Z T σ H vs e i Q k => by
  obtain ⟨v, rfl, i1⟩ := ws1 i
  obtain ⟨a, xs, rfl, ha, h1, _⟩ := isw_tup i1
  exact .inl ⟨a, xs, rfl, .inr (.of ha), by rw [h1.len]; exact k _ _ _ H p e (.int _)⟩
theorem b_lenS {z : Str} (hz : z.length ≤ sizeLine) (p : P n (.int (z.length : Int))) : DC (rLenU K) W n ρ [.str z] P := fun Z T σ H vs e i Q k => by
  obtain ⟨v, rfl, i1⟩ := ws1 i
  cases isw_str i1
  exact .inr (.inl ⟨z, rfl, hz, k _ _ _ H p e (.int _)⟩)
theorem b_lenD {ks : List Key} {ds : List D} (p : P n (.int (ds.length : Int))) : DC (rLenU K) W n ρ [.dic ks ds] P := fun Z T σ H vs e i Q k => by
  obtain ⟨v, rfl, i1⟩ := ws1 i
  obtain ⟨a, kvs, rfl, ha, hk, h1⟩ := isw_dic i1
  have hl := h1.len
  rw [List.length_map] at hl
  exact .inr (.inr ⟨a, kvs, rfl, ha, by rw [hl]; exact k _ _ _ H p e (.int _)⟩)
/-- a read-only list that is no datum (the script) -/
theorem b_lenR {a : Addr} {xs : List L2.V} (hs : ∀ n H, W.G n H → SqL K H a xs) (p : P n (.int (xs.length : Int))) : DC (rLenU K) W n ρ [.raw a] P := fun Z T σ H vs e i Q k => by
  obtain ⟨v, rfl, i1⟩ := ws1 i
  cases isw_raw i1
  exact .inl ⟨a, xs, rfl, .inl (hs n H e.g), k _ _ _ H p e (.int _)⟩
def rAbs : List L2.V → Hp → VK → Prop := fun xs H Q => ∃ i, xs = [L2.V.int i] ∧ Q (.int (if i < 0 then -i else i)) H
theorem call_absU {X : Cx} : CallR X (.builtin "abs") rAbs := call_abs
theorem b_abs {i : Int} (p : P n (.int (if i < 0 then -i else i))) : DC rAbs W n ρ [.int i] P := fun Z T σ H vs e ia Q k => by
  obtain ⟨v, rfl, i1⟩ := ws1 ia
  cases isw_int i1
  exact ⟨i, rfl, k _ _ _ H p e (.int _)⟩
def rMin2 : List L2.V → Hp → VK → Prop := fun xs H Q => ∃ i j, xs = [L2.V.int i, L2.V.int j] ∧ Q (.int (if j < i then j else i)) H
def rMax2 : List L2.V → Hp → VK → Prop := fun xs H Q => ∃ i j, xs = [L2.V.int i, L2.V.int j] ∧ Q (.int (if j > i then j else i)) H
theorem call_min2U {X : Cx} (hc : X.calm = true) : CallR X (.builtin "min") rMin2 := call_min2 hc
theorem call_max2U {X : Cx} (hc : X.calm = true) : CallR X (.builtin "max") rMax2 := call_max2 hc
theorem b_min2 {i j : Int} (p : P n (.int (if j < i then j else i))) : DC rMin2 W n ρ [.int i, .int j] P := fun Z T σ H vs e ia Q k => by
  obtain ⟨v1, v2, rfl, i1, i2⟩ := ws2 ia
  cases isw_int i1; cases isw_int i2
  exact ⟨i, j, rfl, k _ _ _ H p e (.int _)⟩
theorem b_max2 {i j : Int} (p : P n (.int (if j > i then j else i))) : DC rMax2 W n ρ [.int i, .int j] P := fun Z T σ H vs e ia Q k => by
  obtain ⟨v1, v2, rfl, i1, i2⟩ := ws2 ia
  cases isw_int i1; cases isw_int i2
  exact ⟨i, j, rfl, k _ _ _ H p e (.int _)⟩
def rInt1 : List L2.V → Hp → VK → Prop := fun xs H Q => (∃ i, xs = [L2.V.int i] ∧ Q (.int i) H) ∨ ∃ k, xs = [L2.V.bl k] ∧ Q (.int (if k then 1 else 0)) H
theorem call_intU {X : Cx} : CallR X (.type "int") rInt1 := call_int1
theorem b_int {i : Int} (p : P n (.int i)) : DC rInt1 W n ρ [.int i] P := fun Z T σ H vs e ia Q k => by
  obtain ⟨v, rfl, i1⟩ := ws1 ia
  cases isw_int i1
  exact .inl ⟨i, rfl, k _ _ _ H p e (.int _)⟩
def rList (K : PySem.W.Frag) : List L2.V → Hp → VK → Prop := fun xs H Q => ∃ p ys, xs = [L2.V.ref p] ∧ (SqL K H p ys ∨ SqT K H p ys) ∧ ∀ l, H l = none → Q (.ref l) (upd H l (.lst ys))
theorem call_listU {X : Cx} : CallR X (.type "list") (rList X.K) := call_list_of
theorem b_list {ds : List D} (h : d = .lst ds ∨ d = .tup ds) (p : P n (.lst ds)) : DCF (rList K) W n ρ [d] P := fun Z T σ H vs e ia Q k => by
  obtain ⟨v, rfl, i1⟩ := ws1 ia
  rcases h with rfl | rfl
  · obtain ⟨a, xs, rfl, ha, h1⟩ := isw_lst i1
    refine ⟨a, xs, rfl, .inl (.of ha), fun t ht => ?_⟩
    obtain ⟨e', i'⟩ := new_lst e h1 ht
    exact k _ _ _ _ _ p e' i'
  · obtain ⟨a, xs, rfl, ha, h1, _⟩ := isw_tup i1
    refine ⟨a, xs, rfl, .inr (.of ha), fun t ht => ?_⟩
    obtain ⟨e', i'⟩ := new_lst e h1 ht
    exact k _ _ _ _ _ p e' i'
def rTuple (K : PySem.W.Frag) : List L2.V → Hp → VK → Prop := fun xs H Q => ∃ p ys, xs = [L2.V.ref p] ∧ ((SqL K H p ys ∧ ∀ l, H l = none → Q (.ref l) (upd H l (.tup ys))) ∨ (SqT K H p ys ∧ Q (.ref p) H))
theorem call_tupleU {X : Cx} : CallR X (.type "tuple") (rTuple X.K) := call_tuple_of
theorem b_tuple {ds : List D} (h : d = .lst ds ∨ d = .tup ds) (p : P n (.tup ds)) : DC (rTuple K) W n ρ [d] P := fun Z T σ H vs e ia Q k => by
  obtain ⟨v, rfl, i1⟩ := ws1 ia
  rcases h with rfl | rfl
  · obtain ⟨a, xs, rfl, ha, h1⟩ := isw_lst i1
    refine ⟨a, xs, rfl, .inl ⟨.of ha, fun t ht => ?_⟩⟩
    obtain ⟨e', i'⟩ := new_tup e h1 ht
    exact k _ _ _ _ p e' i'
  · have j := i1.tup_is
    obtain ⟨a, xs, rfl, ha, h1, _⟩ := isw_tup i1
    exact ⟨a, xs, rfl, .inr ⟨.of ha, k _ _ _ _ p e j⟩⟩
theorem b_all {bs : List Bool} (p : P n (.bl (bs.all id))) : DC (rAll K) W n ρ [.lst (bs.map D.bl)] P := fun Z T σ H vs e ia Q k => by
  obtain ⟨v, rfl, i1⟩ := ws1 ia
  obtain ⟨a, xs, rfl, ha, h1⟩ := isw_lst i1
  rw [all_bls h1] at ha
  exact ⟨a, bs, rfl, .of ha, k _ _ _ H p e (.bl _)⟩
theorem b_any {bs : List Bool} (p : P n (.bl (bs.any id))) : DC (rAny K) W n ρ [.lst (bs.map D.bl)] P := fun Z T σ H vs e ia Q k => by
  obtain ⟨v, rfl, i1⟩ := ws1 ia
  obtain ⟨a, xs, rfl, ha, h1⟩ := isw_lst i1
  rw [all_bls h1] at ha
  exact ⟨a, bs, rfl, .of ha, k _ _ _ H p e (.bl _)⟩
theorem b_sum {ns : List Int} (p : P n (.int ns.sum)) : DC (rSum K) W n ρ [.lst (ns.map D.int)] P := fun Z T σ H vs e ia Q k => by
  obtain ⟨v, rfl, i1⟩ := ws1 ia
  obtain ⟨a, xs, rfl, ha, h1⟩ := isw_lst i1
  rw [all_ints h1] at ha
  exact ⟨a, ns, rfl, .of ha, k _ _ _ H p e (.int _)⟩
theorem b_gcd {i j : Int} (p : P n (.int ((Nat.gcd i.natAbs j.natAbs : Nat) : Int))) : DC rGcd W n ρ [.int i, .int j] P := fun Z T σ H vs e ia Q k => by
  obtain ⟨v1, v2, rfl, i1, i2⟩ := ws2 ia
  cases isw_int i1; cases isw_int i2
  exact ⟨i, j, rfl, k _ _ _ H p e (.int _)⟩

/-! ### isinstance -/
/-- the built-in class of a datum -/
def D.tn : D → Option String
  | .non => some "NoneType"
  | .bl _ => some "bool"
  | .int _ => some "int"
  | .str _ => some "str"
  | .lst _ => some "list"
  | .tup _ => some "tuple"
  | .dic _ _ => some "dict"
  | .dct => some "dict"
  | _ => none
theorem tyx_of {n : String} (h : IsW X H v d) (e : d.tn = some n) : TyX K H v (.type n) := by
  cases d with
  | non => cases isw_non h; cases e; exact .base .non
  | bl b => cases isw_bl h; cases e; exact .base (.bl b)
  | int i => cases isw_int h; cases e; exact .base (.int i)
  | str x => cases isw_str h; cases e; exact .base (.str x)
  | lst ds => obtain ⟨a, xs, rfl, ha, _⟩ := isw_lst h; cases e; exact .base (.lst ha)
  | tup ds => obtain ⟨a, xs, rfl, ha, _⟩ := isw_tup h; cases e; exact .base (.tup ha)
  | dic ks ds => obtain ⟨a, kvs, rfl, ha, _⟩ := isw_dic h; cases e; exact .base (.dK ha)
  | dct =>
    cases e
    rcases h with h | ⟨a, o, _, _, h⟩
    · cases h with
      | dct hx ha => exact .base (.dT ha)
    · cases h
  | _ => cases e
theorem b_isi {m c : String} {b : Bool} (e : d.tn = some m) (hb : kitB m c = some b) (p : P n (.bl b)) : DC (rIsi K) W n ρ [d, .ty c] P := fun Z T σ H vs ev ia Q k => by
  obtain ⟨v1, v2, rfl, i1, i2⟩ := ws2 ia
  cases isw_ty i2
  exact ⟨v1, .ty c, _, _, b, rfl, .ty c, tyx_of i1 e, kit_ty hb, k _ _ _ H p ev (.bl _)⟩
/-- an own class -/
theorem b_isiC {m : String} {C : Addr} {b : Bool} (e : d.tn = some m) (hb : PySem.W.kitOne K (.type m) (.ref C) = some b) (p : P n (.bl b)) : DC (rIsi K) W n ρ [d, .raw C] P := fun Z T σ H vs ev ia Q k => by
  obtain ⟨v1, v2, rfl, i1, i2⟩ := ws2 ia
  cases isw_raw i2
  exact ⟨v1, .ref C, _, _, b, rfl, .own C, tyx_of i1 e, hb, k _ _ _ H p ev (.bl _)⟩
/-- what isinstance asks of an own class of instances -/
structure InsK (K : PySem.W.Frag) (C : Addr) : Prop where
  cl : Cls K C
  ha : PySem.W.findIn K (.ref C) "__class__" = some (some (.builtin "object.__class__"))
  hn : PySem.W.specialIn K (.builtin "object.__class__") "__get__" = some (some (.builtin "getset_descriptor.__get__"))
  htk : PySem.W.takesIn K (.builtin "object.__class__") = some true
  hm : PySem.W.mroIn K C (.type "object") = some true
theorem InsK.ty {C : Addr} (T : InsK K C) {ns : List Str} {l : List D} (h : IsW X H v (.ins C ns l)) : TyX K H v (.ref C) := by
  obtain ⟨a, dx, fs, rfl, ha, _⟩ := isw_ins h
  exact .base (.ins ha T.cl T.ha T.hn T.htk T.hm)
theorem b_isiI {C : Addr} {ns : List Str} {l : List D} {c : D} {cv : Value} {b : Bool} (I : InsK K C) (hc : (∃ m, c = .ty m ∧ cv = .type m) ∨ ∃ D, c = .raw D ∧ cv = .ref D) (hb : PySem.W.kitOne K (.ref C) cv = some b) (p : P n (.bl b)) : DC (rIsi K) W n ρ [.ins C ns l, c] P := fun Z T σ H vs ev ia Q k => by
  obtain ⟨v1, v2, rfl, i1, i2⟩ := ws2 ia
  rcases hc with ⟨n, rfl, rfl⟩ | ⟨D, rfl, rfl⟩
  · cases isw_ty i2
    exact ⟨v1, .ty n, _, _, b, rfl, .ty n, I.ty i1, hb, k _ _ _ H p ev (.bl _)⟩
  · cases isw_raw i2
    exact ⟨v1, .ref D, _, _, b, rfl, .own D, I.ty i1, hb, k _ _ _ H p ev (.bl _)⟩
theorem b_isiT2 {m c1 c2 : String} {b1 b2 : Bool} (e : d.tn = some m) (h1 : kitB m c1 = some b1) (h2 : kitB m c2 = some b2) (p : P n (.bl (b1 || b2))) : DC (rIsiT K) W n ρ [d, .tup [.ty c1, .ty c2]] P := fun Z T σ H vs ev ia Q k => by
  obtain ⟨v1, v2, rfl, i1, i2⟩ := ws2 ia
  obtain ⟨a, xs, rfl, ha, h, _⟩ := isw_tup i2
  cases h with
  | cons q1 t =>
    cases t with
    | cons q2 t =>
      cases t
      cases q1; cases q2
      refine ⟨v1, a, [.ty c1, .ty c2], _, [.type c1, .type c2], b1 || b2, rfl, ha, .cons (.ty c1) (.cons (.ty c2) .nil), tyx_of i1 e, kitAny_cons (kit_ty h1) (fun z => ?_) (fun z => by rw [z]; rfl), k _ _ _ H p ev (.bl _)⟩
      rw [z, Bool.false_or]
      exact kitAny_cons (kit_ty h2) (fun z => by rw [z]; exact kitAny_nil) (fun z => z)

/-! ### fields of instances -/
theorem lookup_get : ∀ {fs : List (Str × L2.V)} {ns : List Str} {ds : List D} {f : Str} {d : D}, fs.map (·.1) = ns → IsAll X H (fs.map (·.2)) ds → (ns.zip ds).lookup f = some d → ∃ v, fs.lookup f = some v ∧ Is X H v d
  | [], ns, ds, f, d, h1, h2, h3 => by
    subst h1
    simp at h3
  | (n, v) :: fs, ns, ds, f, d, h1, h2, h3 => by
    subst h1
    cases h2 with
    | @cons _ _ d0 ds' hd tl =>
      rw [List.map_cons, List.zip_cons_cons, List.lookup_cons] at h3
      rw [List.lookup_cons]
      cases q : f == n with
      | true =>
        rw [q] at h3
        cases h3
        exact ⟨v, rfl, hd⟩
      | false =>
        rw [q] at h3
        exact lookup_get rfl tl h3
theorem de_fld {ta : TE} {f : Str} (h : DE ta W n ρ fun n d => ∃ C ns l e, d = .ins C ns l ∧ Cls K C ∧ NoAttr K C f ∧ (ns.zip l).lookup f = some e ∧ P n e) : DE (tFld K ta f) W n ρ P := fun Z T σ H e Q k =>
  h Z T σ H e _ fun n v d H' ⟨C, ns, l, x, hd, hc, hn, hl, p⟩ e' i => by
    subst hd
    obtain ⟨a, dx, fs, rfl, ha, h1, h2⟩ := isw_ins (.inl i)
    obtain ⟨u, q1, q2⟩ := lookup_get h1 h2 hl
    exact ⟨a, C, dx, fs, u, rfl, ha, hc, hn, q1, k _ u x H' p e' q2⟩

/-! ### methods of a slot's own list -/
theorem own_lst {i : Nat} {ds : List D} (e : Env W n Z T ρ σ H) (h : ρ[i]? = some (some (true, .lst ds))) : ∃ a xs, σ[i]? = some (some (.ref a)) ∧ H a = some (.lst xs) ∧ IsAll (XX W Z ρ σ) H xs ds := by
  obtain ⟨a, o, h1, h2, h3, _⟩ := e.ow i _ h
  cases h3 with
  | lst q => exact ⟨a, _, h1, h2, q⟩
theorem tyL {a : Addr} {xs : List L2.V} (h : H a = some (.lst xs)) : tyV K "list" (.ref a) H := .inl ⟨rfl, xs, .of h⟩
variable {N : Nat → Rho → Prop} {R : Nat → Bool → D → Prop} {B C : Nat → Rho → Prop} {te ta : TE}
theorem own_same {i n' : Nat} {ds : List D} (e : Env W n Z T ρ σ H) {H' : Hp} (e' : Env W n' Z T ρ σ H') (h : ρ[i]? = some (some (true, .lst ds))) {a : Addr} (hs : σ[i]? = some (some (.ref a))) : ∃ xs, H' a = some (.lst xs) ∧ IsAll (XX W Z ρ σ) H' xs ds := by
  obtain ⟨b, xs, h1, h2, h3⟩ := own_lst e' h
  rw [hs] at h1; cases h1
  exact ⟨xs, h2, h3⟩
/-- x.append(e) -/
theorem ds_append {i : Nat} {ds : List D} (h : ρ[i]? = some (some (true, .lst ds))) (k : DE te W n ρ fun n d => ds.length < sizeLine ∧ N n (ρ.set i (some (true, .lst (ds ++ [d]))))) : DS (tDrop (tBM K "list" rAppend (tVar i) (tCons te tNil))) W n ρ N R B C := fun Z T σ H e De f => by
  obtain ⟨a, xs, h1, h2, h3⟩ := own_lst e h
  refine ⟨.ref a, h1, tyL h2, k Z T σ H e _ fun n v d H' ⟨hl, q⟩ e' iv => ?_⟩
  obtain ⟨ys, q1, q2⟩ := own_same e e' h h1
  exact ⟨a, ys, v, rfl, rfl, q1, by rw [q2.len]; exact hl, f.nx _ _ _ _ q (e'.put h h1 (.lst (q2.snoc iv)))⟩
/-- y = x.pop() -/
theorem ds_pop {i j : Nat} {ds : List D} {d : D} (h : ρ[i]? = some (some (true, .lst (ds ++ [d])))) (q : N n ((ρ.set i (some (true, .lst ds))).set j (some (false, d)))) : DS (tAsg (tBM0 K "list" rPop (tVar i)) (gName j)) W n ρ N R B C := fun Z T σ H e De f => by
  obtain ⟨a, xs, h1, h2, h3⟩ := own_lst e h
  have hl := h3.len
  rw [List.length_append] at hl
  have hl : xs.length = ds.length + 1 := hl
  obtain ⟨v, q1, q2⟩ := h3.got (i := ds.length) (d := d) (by rw [List.getElem?_append_right (Nat.le_refl _), Nat.sub_self]; rfl)
  have h4 : IsAll (XX W Z ρ σ) H xs.dropLast ds := by
    have := h3.take ds.length
    rw [List.take_left' rfl] at this
    rw [List.dropLast_eq_take, hl]
    exact this
  have e1 : Env W n Z ((v, d) :: T) (ρ.set i (some (true, .lst ds))) σ (upd H a (.lst xs.dropLast)) := (e.push q2).put h h1 (.lst h4)
  exact ⟨.ref a, h1, tyL h2, a, xs, v, rfl, rfl, h2, by rw [hl]; exact q1, f.nx _ _ _ _ q (e1.pop1.set e1.top)⟩
end
end HD

namespace HD
open PySem PySem.Spec PyProof.Rows L2

/-! ### defs of the text -/
/-- the def x stands in the module, its body is st's -/
structure Def (K : PySem.W.Frag) (mg : Str → Option Value) (x : Str) (st : Stmt) (ps : List Str) : Prop where
  ex : ∃ (f : Addr) (fd : FuncData), Fun K x x st f fd ∧ mg x = some (.ref f) ∧ Binds K fd ps []
/-- the def x keeps the promise sp -/
structure Cal (P : Program) (w : World) (K : PySem.W.Frag) (mg : Str → Option Value) (base : Heap) (k : Nat) (x : Str) (st : Stmt) (ps : List Str) (sp : Sp) : Prop where
  ex : ∃ (f : Addr) (fd : FuncData), FnOk P w K mg base (L2.CX P w) k f fd ps sp ∧ mg x = some (.ref f) ∧ PySem.W.keepIn K (.ref f) = true ∧ Binds K fd ps [] ∧ Fun K x x st f fd
/-- the context of the body -/
abbrev cxD (P : Program) (w : World) (K : PySem.W.Frag) (mg : Str → Option Value) (base : Heap) (N : List Str) (x : Str) (st : Stmt) (f : Addr) (cdv : Value) (A : Around) (outer : List PySem.Env) (s : Shared) (H : Hp) (E : XK) : Cx :=
  cxOf (L2.CX P w) P w K mg base N x (defScope st) f cdv A outer s H E
section
variable {P : Program} {w : World} {K : PySem.W.Frag} {mg : Str → Option Value} {base : Heap} {k m : Nat} {x : Str} {st : Stmt} {N ps : List Str} {V : AP} {G : Nat → Hp → Prop} {pre : Nat → List D → Prop} {post : Nat → List D → Nat → Out → Prop}
theorem Def.raw {sp : Sp} (Dd : Def K mg x st ps) (S : FnScope N ps (defScope st)) (len : ∀ vs H Q E, sp vs H Q E → vs.length = ps.length)
    (h : ∀ (f : Addr) (cdv : Value) (A : Around) (outer : List PySem.Env) (s : Shared) (H : Hp) (vs : List L2.V) (Q : VK) (E : XK), Room k (A.deeper (envOfC x (defScope st) s.heap.objs.size f cdv)) → sp vs H Q E →
      ∃ t, PSs (cxD P w K mg base N x st f cdv A outer s H E) (defBody st) t ∧ t { nx := fun _ H' => Q .non H', rt := Q } (L2.start N vs) H) : Cal P w K mg base (k + 1) x st ps sp := by
  obtain ⟨f, fd, F, hm, hb⟩ := Dd.ex
  exact ⟨f, fd, F.okX S len fun cdv A outer s H vs Q E hr q => h f cdv A outer s H vs Q E hr q, hm, F.kp, hb, F⟩
theorem Def.ok (Dd : Def K mg x st ps) (S : FnScope N ps (defScope st)) (hn : m = ps.length) (ST : Stab V G)
    (h : ∀ (f : Addr) (cdv : Value) (A : Around) (outer : List PySem.Env) (s : Shared) (H : Hp) (E : XK), Room k (A.deeper (envOfC x (defScope st) s.heap.objs.size f cdv)) →
      ∃ t, PSs (cxD P w K mg base N x st f cdv A outer s H E) (defBody st) t ∧ ∀ (W : Wd) (n : Nat) (ds : List D), W.V = V → W.G = G → W.E = E → W.EP = (fun n' C ns l => post n ds n' (.exc C ns l)) → ds.length = m → pre n ds →
        DS t W n (startR N ds) (fun n' _ => post n ds n' (.ret false .non)) (fun n' b d => post n ds n' (.ret b d)) (fun _ _ => False) (fun _ _ => False)) : Cal P w K mg base (k + 1) x st ps (Prm m V G pre post) := by
  refine Dd.raw S (fun vs H Q E q => by rw [prm_len q, hn]) fun f cdv A outer s H vs Q E hr q => ?_
  obtain ⟨t, ht, hd⟩ := h f cdv A outer s H E hr
  exact ⟨t, ht, prm_body ST q hd⟩
/-- a promise made less -/
theorem Cal.weak {pre' : Nat → List D → Prop} {post' : Nat → List D → Nat → Out → Prop} (C : Cal P w K mg base k x st ps (Prm m V G pre post)) (h1 : ∀ n ds, pre' n ds → pre n ds) (h2 : ∀ n ds n' o, pre' n ds → post n ds n' o → post' n ds n' o) : Cal P w K mg base k x st ps (Prm m V G pre' post') := by
  obtain ⟨f, fd, F, hm, hk, hb, hF⟩ := C.ex
  have key : ∀ vs H Q E, Prm m V G pre' post' vs H Q E → Prm m V G pre post vs H Q E := fun vs H Q E ⟨X, ds, n, a1, a2, a3, a4, a5, a6, a7, a8, a9⟩ =>
    ⟨X, ds, n, a1, a2, a3, a4, a5, h1 n ds a6, fun n' v d H' p => a7 n' v d H' (h2 n ds n' _ a6 p), fun n' a o d H' p => a8 n' a o d H' (h2 n ds n' _ a6 p), fun n' C ns l od H' p => a9 n' C ns l od H' (h2 n ds n' _ a6 p)⟩
  exact ⟨f, fd, ⟨fun vs H Q E q => F.len vs H Q E (key vs H Q E q), fun A outer s H args us vs Q E hr e0 hbt r q => F.run A outer s H args us vs Q E hr e0 hbt r (key vs H Q E q)⟩, hm, hk, hb, hF⟩
end
section
variable {X : Cx} {k : Nat} {x : Str} {st : Stmt} {ps : List Str} {sp : Sp} {E : XK} {p pos : Pos} {e : Expr} {es : List Expr} {t : TA}
/-- f(e, ..) -/
theorem pe_cal (C : Cal X.prog X.w X.K X.mg X.base k x st ps sp) (hr : Room k X.A) (hx : Passes (L2.CX X.prog X.w) X E) (hg : Gl X x) (ha : PA X (e :: es) t) (hdb : (x == ("__debug__" : Str)) = false := by decide)
    (he : starEach (e :: es) X.env = (false, eval e X.env) :: starEach es X.env := by rfl) (hpl : (backTo pos (starEach es X.env)).any (·.1) = false := by rfl) : PE X (.Call (.Name x p) (e :: es) [] pos) (tCall sp [] E t) := by
  obtain ⟨f, fd, F, hm, hk, hb, _⟩ := C.ex
  exact pe_call F hr hg hm hk hb .nil hx ha hdb he hpl
theorem pe_cal0 (C : Cal X.prog X.w X.K X.mg X.base k x st ps sp) (hr : Room k X.A) (hx : Passes (L2.CX X.prog X.w) X E) (hg : Gl X x) (hdb : (x == ("__debug__" : Str)) = false := by decide) : PE X (.Call (.Name x p) [] [] pos) (tCall sp [] E tNil) := by
  obtain ⟨f, fd, F, hm, hk, hb, _⟩ := C.ex
  exact pe_call0 F hr hg hm hk hb .nil hx hdb
/-- in a def's body errors go out as the def's own -/
theorem passD {P : Program} {w : World} {K : PySem.W.Frag} {mg : Str → Option Value} {base : Heap} {N : List Str} {x : Str} {st : Stmt} {f : Addr} {cdv : Value} {A : Around} {outer : List PySem.Env} {s : Shared} {H : Hp} {E : XK} :
    Passes (L2.CX P w) (cxD P w K mg base N x st f cdv A outer s H E) E := passes_call (takes_of rfl rfl rfl rfl) fun _ _ _ _ h => h
end
end HD

namespace HD
open PySem PySem.Spec PyProof.Rows L2

/-! ### a caught error is kept: try: body / except x as n: suite, and behind it the error is tracked -/
def wKeep (K : PySem.W.Frag) (m : Nat) (c : Value) (i : Nat) (ts : Addr → Value → Option Addr → TS) (D : Ends) : WX := fun cls d σ H =>
  ∃ C : Addr, cls = .ref C ∧ PySem.W.exmOne K cls c = some true ∧ ∀ a, σ.length = m → H a = none → ts a cls d { nx := fun σ' H' => D.nx (σ'.set i none) (upd H' a (excH a C d)), rt := fun _ _ => False, bk := fun _ _ => False, ct := fun _ _ => False } (σ.set i (some (.ref a))) H
section
variable {X : Cx} {x n : Str} {c : Value} {i : Nat} {body suite : List Stmt} {b₀ : Stmt} {np pos pos' : Pos} {tb : WX → TS} {ts : Addr → Value → Option Addr → TS}
theorem track {pins : List (Addr × Obj)} {σ : L2.St} {H : Hp} {s : Shared} {a C : Addr} {oe : Obj} {d : Option Addr} (I : L2.Inv X ((a, oe) :: pins) σ H s) (hz : Zc (.ref C) d oe) (hd : ∃ vs, oe.data = .fields vs) (h0 : X.s_0.heap.get? a = none)
    (hp : ∀ p ∈ X.pn ++ pins, p.1 ≠ a) : L2.Inv X pins σ (upd H a (excH a C d)) s := by
  obtain ⟨vs, hd⟩ := hd
  obtain ⟨e, na, nL, nF, _⟩ := I.pin (a, oe) (List.mem_append_right _ List.mem_cons_self)
  have e : s.heap.get? a = some oe := e
  have na : H a = none := na
  have J : L2.Inv X pins σ H s := I.pins_of fun p hp => I.pin p (List.mem_append_right _ (List.mem_cons_of_mem _ hp))
  have neT : ∀ b u, H b = some u → b ≠ a := fun b u q => ne_of_none q na
  have ne0 : ∀ b o, X.s_0.heap.get? b = some o → b ≠ a := fun b o q z => by
    rw [z, h0] at q; cases q
  refine ⟨J.ok, J.os, J.bare, ⟨J.base.keep, J.base.slot, fun b o q n hx => ?_, J.base.there, fun b xs q => ?_, fun b o u q => ?_, fun b ps q => ?_⟩, J.loc, J.cell, ?_, fun y c q => ?_, fun p hp' => ?_, fun b u q => ?_, J.len⟩
  · rw [upd_ne (ne0 b o q)]
    exact J.base.free b o q n hx
  · have z := J.base.tups b xs q
    rw [upd_ne (neT b _ z)]
    exact z
  · have z := J.base.frzs b o u q
    rw [upd_ne (neT b _ z)]
    exact z
  · obtain ⟨m, z⟩ := J.base.tbls b ps q
    exact ⟨m, by rw [upd_ne (neT b _ z)]; exact z⟩
  · rw [upd_ne (Ne.symm nL)]
    exact J.free
  · have ne : c ≠ a := fun z => by
      obtain ⟨v, o, ho, hdc⟩ := J.cell y c q
      rw [z, e] at ho
      cases ho
      rw [hd] at hdc
      cases hdc
    rw [upd_ne ne]
    exact J.freeC y c q
  · obtain ⟨q1, q2, q3, q4, q5⟩ := J.pin p hp'
    exact ⟨q1, by rw [upd_ne (hp p hp')]; exact q2, q3, q4, q5⟩
  · by_cases hb : b = a
    · subst hb
      rw [upd_same] at q
      cases q
      exact ⟨⟨oe, vs, e, hz, hd⟩, ⟨oe, e⟩, fun h1 h2 ⟨o, v, q1, q2, q3⟩ k => ⟨o, v, k o q1, q2, q3⟩⟩
    · rw [upd_ne hb] at q
      exact (J.hok b u q).stay (fun _ _ _ q => q) (fun b' q' => by rw [upd_ne (neT b' _ q')]; exact q') fun b' xs q' => by rw [upd_ne (neT b' _ q')]; exact q'
theorem ps_try_keep (hex : X.ex = []) (hs : X.stack = X.env :: X.outer) (hf : X.env.frame = some X.env.locals) (hN : X.N.Nodup) (hi : X.N[i]? = some n) (hln : X.env.kindOf n = some .local) (hc : Names X x c)
    (hb : ∀ (W : WX) (pn : List (Addr × Obj)) (xe : Value → Shared → Prop), Takes (X.tr pn xe) W → PassesOwn (model X.prog X.w) X.A X.env xe → PSs (X.tr pn xe) body (tb W))
    (hsu : ∀ (a : Addr) (oe : Obj) (cls : Value) (d : Option Addr) (pn : List (Addr × Obj)), Zc cls d oe → (∃ vs, oe.data = .fields vs) → PSs (X.suite a ((a, oe) :: pn)) (b₀ :: suite) (ts a cls d)) :
    PS X (.Try body [.ExceptHandler (some (.Name x np)) (some n) (b₀ :: suite) pos'] [] [] pos) (fun D σ H => tb (wKeep X.K X.N.length c i ts D) D σ H) := by
  refine ⟨fun pins s σ H D I h => ?_⟩
  have ok := I.ok
  have hfr : X.A.frames = some (X.env :: X.outer) := by rw [ok.frames, hs]
  have hloc : Loc X.env.scope n := .inl hln
  refine wpAny_Try_except ?_
  refine wpAny_mono ((hb (wKeep X.K X.N.length c i ts D) (X.pn ++ pins) (fun e s₁ => wpAny (model X.prog X.w) X.A (noteFrame e X.env) (fun _ s₂ => wpAny (model X.prog X.w) X.A (setFlight e none) (fun _ s₃ =>
    wpAny (model X.prog X.w) X.A (handleBy e X.env [.ExceptHandler (some (.Name x np)) (some n) (b₀ :: suite) pos']) (SP X pins D) X.xe s₃) X.xe s₂) X.xe s₁) (fun u s' xx => ?_) PassesOwn.looking).run [] s σ H D (I.toTry _) h) (fun f s1 hsp => ?_) (fun e s1 he => he)
  · -- the catch
    obtain ⟨a, B, sI, pins', σ', H', cls, d, rfl, J', nb, up, sky, na, os, ag, C, hC, hb1, hyes⟩ := xx
    subst hC
    have J : L2.Inv X pins σ' H' sI := J'.ofTry ok
    have sky' : Sky B (X.env :: X.outer) a (Zc (.ref C) d) X.env.locals s'.heap := by rw [← hs]; exact sky
    have nB : B.get? a = none := by
      rcases sky' with z | z | z
      · exact z.2.1
      · exact z.2.1
      · exact z.2.1
    show wpAny (model X.prog X.w) X.A (noteFrame (.ref a) X.env) _ _ _
    refine Sky.land Zc.steady hfr hf sky' fun h3 fl3 up3 => ?_
    have J3 : L2.Inv X pins σ' H' { s' with heap := h3 } := J.landed nb fl3.1 (up.trans up3) os ag
    obtain ⟨oe3, vs3, he3, hz3, hd3⟩ := fl3.there
    have notFr : ∀ {h : Heap} {o : Obj} {vs : Array Value}, h.FunFrames B (X.env :: X.outer) → h.get? a = some o → o.data = .fields vs → a ∉ frs (X.env :: X.outer) := fun {h o vs} ff e dd hm => by
      obtain ⟨_, o', e', hnf⟩ := ff.mem hm
      rw [e] at e'; cases e'
      exact hnf _ dd
    have nfr := notFr fl3.2.2.1 he3 hd3
    have nL : a ≠ X.env.locals := fun z => nfr (List.mem_filterMap.mpr ⟨X.env, List.mem_cons_self, by rw [hf, z]⟩)
    have nF : a ∉ X.fs := fun hm => by
      obtain ⟨e, he, q⟩ := List.mem_filterMap.mp hm
      exact nfr (List.mem_filterMap.mpr ⟨e, List.mem_cons_of_mem _ he, q⟩)
    have nI : sI.heap.get? a = none := by
      cases q : sI.heap.get? a with
      | none => rfl
      | some o =>
        have := nb a o q (by rw [hs]; exact nfr)
        rw [nB] at this; cases this
    have n0 : X.s_0.heap.get? a = none := by
      cases q : X.s_0.heap.get? a with
      | none => rfl
      | some o =>
        obtain ⟨o', z⟩ := J.base.there a o q (by rw [hex]; exact fun z => nomatch z)
        rw [nI] at z; cases z
    have pnA : ∀ p ∈ X.pn ++ pins, p.1 ≠ a := fun p hp z => by
      have := (J.pin p hp).1
      rw [z, nI] at this; cases this
    have S3 := J3.suite he3 hd3 na nL nF
    refine wpAny_handleBy_cons (codeAny_handlers_test ?_) (by intro q; cases q)
    have LT : PySem.W.Looks (model X.prog X.w) h3 (typeOf (.ref a)) (.ref C) := fun A Q E s k q => wpAny_typeOf_ref (k _ _ he3) (by rw [hz3.1]; exact q)
    have LM := PySem.W.exm_one (M := model X.prog X.w) (J3.kIn) LT hb1
    have test : ∀ {Q : Value → Shared → Prop} {E : Value → Shared → Prop}, Q c { s' with heap := h3 } → wpAny (model X.prog X.w) (X.A.mark (some (.ref a))) (eval (.Name x np) X.env) Q E { s' with heap := h3 } := fun {Q E} q => by
      obtain ⟨hg, hdbg, hm | ⟨hm, hv, hnn⟩⟩ := hc
      · exact ld_glob (X := X.suite a ((a, oe3) :: (X.pn ++ pins))) S3 hg hm q hdbg
      · exact ld_blt (X := X.suite a ((a, oe3) :: (X.pn ++ pins))) S3 hg hm hv q hnn hdbg
    refine test (LM.here ?_)
    refine codeAny_handlers_suite_as ?_
    refine HandSPX.lands_againZ fl3 fun h4 fl4 up4 => ?_
    have J4 : L2.Inv X pins σ' H' { s' with heap := h4 } := J.landed nb fl4.1 ((up.trans up3).trans up4) os ag
    obtain ⟨oe4, vs4, he4, hz4, hd4⟩ := fl4.there
    have S4 := J4.suite he4 hd4 na nL nF
    refine store_ok (X := X.suite a ((a, oe4) :: (X.pn ++ pins))) (v := .ref a) S4 hN hi hloc rfl (fun s5 S5 => ?_) (.inr hln)
    refine wpAny_mono ((hsu a oe4 (.ref C) d (X.pn ++ pins) hz4 ⟨_, hd4⟩).run [] s5 _ H' _ S5 (hyes a J.len na)) (fun f s6 hsp => ?_) (fun _ _ z => False.elim z)
    cases f with
    | next =>
      obtain ⟨σ6, H6, S6, q6⟩ := hsp
      have S7 : L2.Inv X ((a, oe4) :: pins) σ6 H6 s6 := ⟨ok, S6.os, S6.bare, S6.base, S6.loc, S6.cell, S6.free, S6.freeC, fun p hp => S6.pin p (by
        rcases List.mem_append.mp hp with z | z
        · exact List.mem_append_left _ (List.mem_cons_of_mem _ (List.mem_append_left _ z))
        · rcases List.mem_cons.mp z with z | z
          · rw [z]; exact List.mem_append_left _ List.mem_cons_self
          · exact List.mem_append_left _ (List.mem_cons_of_mem _ (List.mem_append_right _ z))), S6.hok, S6.len⟩
      exact gone_ok S7 hN hi hln fun s7 J7 => ⟨_, _, track J7 hz4 ⟨_, hd4⟩ n0 pnA, q6⟩
    | brk =>
      obtain ⟨σ6, H6, S6, q6⟩ := hsp
      exact q6.elim
    | cont =>
      obtain ⟨σ6, H6, S6, q6⟩ := hsp
      exact q6.elim
    | ret u =>
      obtain ⟨v6, σ6, H6, S6, r6, q6⟩ := hsp
      exact q6.elim
  · cases f with
    | next =>
      obtain ⟨σ', H', J', q⟩ := hsp
      exact wpAny_execs_nil ⟨σ', H', J'.ofTry ok, q⟩
    | brk =>
      obtain ⟨σ', H', J', q⟩ := hsp
      exact ⟨σ', H', J'.ofTry ok, q⟩
    | cont =>
      obtain ⟨σ', H', J', q⟩ := hsp
      exact ⟨σ', H', J'.ofTry ok, q⟩
    | ret u =>
      obtain ⟨v, σ', H', J', r, q⟩ := hsp
      exact ⟨v, σ', H', J'.ofTry ok, r, q⟩
end

/-! ### isinstance of a kept error -/
def rIsX (K : PySem.W.Frag) : List L2.V → Hp → VK → Prop := fun xs H Q => ∃ (a Dc : Addr) (od : Option Addr) (c : L2.V) (cv : Value) (b : Bool), xs = [.ref a, c] ∧ H a = some (excH a Dc od) ∧ ExcC K Dc ∧ (∀ u, RelV c u → u = cv) ∧ PySem.W.kitOne K (.ref Dc) cv = some b ∧ Q (.bl b) H
theorem call_isX0 {X : Cx} : CallR X (.builtin "isinstance") (fun xs H Q => ∃ (a Dc : Addr) (c : L2.V) (cv : Value) (b : Bool), xs = [.ref a, c] ∧ H a = some (excH a Dc none) ∧ ExcC X.K Dc ∧ (∀ u, RelV c u → u = cv) ∧ PySem.W.kitOne X.K (.ref Dc) cv = some b ∧ Q (.bl b) H) := by
  intro pins s σ H xs us Q I r h
  obtain ⟨a, Dc, c, cv, b, rfl, ha, C, hcv, e, q⟩ := h
  obtain ⟨u1, u2, rfl, rx, rt⟩ := vals2 r
  cases rx
  have ec := hcv _ rt
  subst ec
  obtain ⟨⟨oe, vs, hget, hz, hv⟩, _, _⟩ := I.hok a _ ha
  have J : PySem.W.InstAt s.heap a oe Dc none := by
    obtain ⟨oc, od, oda, osl⟩ := oe
    obtain ⟨h1, h2⟩ := hz
    dsimp only at h1 h2 hv
    subst h1 h2 hv
    exact ⟨hget, rfl, rfl, trivial⟩
  exact PySem.W.kia_one (PySem.W.handS_kitx_exc C.hg C.hk C.hs C.hd C.ha C.hn C.ht C.hm) I.kIn J e (fun z => nomatch z) fun tk => ⟨.bl b, H, I.kept (t' := tk) fun _ _ z => z, rfl, q⟩
end HD

namespace HD
open PySem PySem.Spec PyProof.Rows L2
theorem bb_len : bootBuiltins "len" = some (.builtin "len") := by decide +kernel
theorem bb_abs : bootBuiltins "abs" = some (.builtin "abs") := by decide +kernel
theorem bb_all : bootBuiltins "all" = some (.builtin "all") := by decide +kernel
theorem bb_any : bootBuiltins "any" = some (.builtin "any") := by decide +kernel
theorem bb_sum : bootBuiltins "sum" = some (.builtin "sum") := by decide +kernel
theorem bb_min : bootBuiltins "min" = some (.builtin "min") := by decide +kernel
theorem bb_max : bootBuiltins "max" = some (.builtin "max") := by decide +kernel
theorem bb_isinstance : bootBuiltins "isinstance" = some (.builtin "isinstance") := by decide +kernel
theorem bb_int : bootBuiltins "int" = some (.type "int") := by decide +kernel
theorem bb_bool : bootBuiltins "bool" = some (.type "bool") := by decide +kernel
theorem bb_list : bootBuiltins "list" = some (.type "list") := by decide +kernel
theorem bb_tuple : bootBuiltins "tuple" = some (.type "tuple") := by decide +kernel
theorem bb_dict : bootBuiltins "dict" = some (.type "dict") := by decide +kernel
theorem bb_str : bootBuiltins "str" = some (.type "str") := by decide +kernel

/-! ### a module's whole number -/
theorem pe_gint {X : Cx} {x : Str} {i : Int} {pos : Pos} (hg : Gl X x) (h : ∃ t, X.mg x = some (.int i t)) (hd : (x == ("__debug__" : Str)) = false := by decide) : PE X (.Name x pos) (tC (.int i)) := by
  obtain ⟨t, e⟩ := h
  exact pe_glob hg e ⟨t, rfl⟩ hd
/-! ### loops in a def that may raise -/
theorem passOwnU {P : Program} {w : World} {K : PySem.W.Frag} {mg : Str → Option Value} {base : Heap} {N : List Str} {x : Str} {st : Stmt} {f : Addr} {cdv : Value} {A : Around} {outer : List PySem.Env} {s : Shared} {H : Hp} {E : XK} :
    PassesOwn (model (cxD P w K mg base N x st f cdv A outer s H E).prog (cxD P w K mg base N x st f cdv A outer s H E).w) (cxD P w K mg base N x st f cdv A outer s H E).A (cxD P w K mg base N x st f cdv A outer s H E).env (cxD P w K mg base N x st f cdv A outer s H E).xe := passes_of rfl
/-! ### a list or a tuple walked -/
def iSeq (K : PySem.W.Frag) (tl : TE) : TI := fun σ H R => tl σ H fun x H1 => ∃ a, x = .ref a ∧ (((∃ xs, SqL K H1 a xs) ∧ R (Itl K a) H1) ∨ ((∃ xs, SqT K H1 a xs) ∧ R (Itt K a) H1))
theorem pi_seq {X : Cx} {tg l : Expr} {tl : TE} (hl : PE X l tl) : PI X tg l (iSeq X.K tl) := by
  refine ⟨fun pins s σ H R I h => ?_⟩
  refine thn (hl.run pins s σ H _ I h) fun v s1 ⟨x, H1, I1, r1, q1⟩ => ?_
  obtain ⟨a, e, q⟩ := q1
  subst e
  cases r1
  rcases q with ⟨hs, q⟩ | ⟨hs, q⟩
  · obtain ⟨xs, hq⟩ := hs
    obtain ⟨its, rv, p, hz⟩ := I1.list hq
    refine wpAny_pyIter_list p.isList ?_
    refine ⟨s1.heap.objs.size, [s1.heap.objs.size], _, _, H1, rfl, I1.kept (t' := s1.toks) fun b o e => Heap.get?_push_of_some _ e, turn_list a _, ⟨_, Heap.get?_push_size _ rfl, rfl, rfl⟩, fun b hb => ?_, q⟩
    rw [show b = s1.heap.objs.size by simpa using hb]
    exact I1.fpOk (Nat.le_refl _) (I1.hok.fresh (Nat.le_refl _))
  · obtain ⟨xs, hq⟩ := hs
    obtain ⟨its, rv, p, hz⟩ := I1.tuple hq
    refine wpAny_pyIter_tuple (show s1.heap.IsTuple a its.toArray from p) ?_
    refine ⟨s1.heap.objs.size, [s1.heap.objs.size], _, _, H1, rfl, I1.kept (t' := s1.toks) fun b o e => Heap.get?_push_of_some _ e, turn_tuple a _, ⟨_, Heap.get?_push_size _ rfl, rfl, rfl⟩, fun b hb => ?_, q⟩
    rw [show b = s1.heap.objs.size by simpa using hb]
    exact I1.fpOk (Nat.le_refl _) (I1.hok.fresh (Nat.le_refl _))
theorem it_list {W : Wd} {K : PySem.W.Frag} {a : Addr} {ds : List D} : ItOk W [(.ref a, .lst ds)] (Itl K a) ds := fun n Z T ρ σ H hT e i => by
  have q := e.t (.ref a, .lst ds) (hT _ List.mem_cons_self)
  cases q with
  | @lst _ ys _ hx2 hr2 ha2 =>
    have hl := ha2.len
    refine ⟨fun hi => ⟨⟨ys, ys[i]'(by omega), .of hr2, by simp [hl, hi]⟩, fun x H' ⟨eh, y⟩ => ?_⟩, fun hi => ⟨ys, .of hr2, by omega⟩⟩
    subst eh
    obtain ⟨d, h1, h2⟩ := ha2.get (y ys (.of hr2))
    exact ⟨d, h1, e.push h2⟩
theorem it_tup {W : Wd} {K : PySem.W.Frag} {a : Addr} {ds : List D} : ItOk W [(.ref a, .tup ds)] (Itt K a) ds := fun n Z T ρ σ H hT e i => by
  have q := e.t (.ref a, .tup ds) (hT _ List.mem_cons_self)
  cases q with
  | @tup _ ys _ hx2 hr2 ha2 =>
    have hl := ha2.len
    refine ⟨fun hi => ⟨⟨ys, ys[i]'(by omega), .of hr2, by simp [hl, hi]⟩, fun x H' ⟨eh, y⟩ => ?_⟩, fun hi => ⟨ys, .of hr2, by omega⟩⟩
    subst eh
    obtain ⟨d, h1, h2⟩ := ha2.get (y ys (.of hr2))
    exact ⟨d, h1, e.push h2⟩
section
variable {W : Wd} {n : Nat} {ρ : Rho} {K : PySem.W.Frag}
theorem di_seq {tl : TE} {P : Nat → List D → Prop} (h : DE tl W n ρ fun n d => ∃ ds, (d = .lst ds ∨ d = .tup ds) ∧ P n ds) : DI (iSeq K tl) W n ρ P := fun Z T σ H e Q k =>
  h Z T σ H e _ fun n v d H' ⟨ds, hd, p⟩ e' i => by
    have e1 : Env W n Z ([(v, d)] ++ T) ρ σ H' := e'.push i
    rcases hd with rfl | rfl
    · cases i with
      | @lst a xs _ hx hr ha => exact ⟨a, rfl, .inl ⟨⟨xs, .of hr⟩, k _ _ ds _ H' p e1 it_list⟩⟩
    · cases i with
      | @tup a xs _ hx hr ha => exact ⟨a, rfl, .inr ⟨⟨xs, .of hr⟩, k _ _ ds _ H' p e1 it_tup⟩⟩
theorem di_seqL {tl : TE} {P : Nat → List D → Prop} (h : DE tl W n ρ fun n d => ∃ ds, d = .lst ds ∧ P n ds) : DI (iSeq K tl) W n ρ P := di_seq (h.imp fun _ _ ⟨ds, e, p⟩ => ⟨ds, .inl e, p⟩)
theorem di_seqT {tl : TE} {P : Nat → List D → Prop} (h : DE tl W n ρ fun n d => ∃ ds, d = .tup ds ∧ P n ds) : DI (iSeq K tl) W n ρ P := di_seq (h.imp fun _ _ ⟨ds, e, p⟩ => ⟨ds, .inr e, p⟩)
end

/-! ### a dict of one pair, its key a tuple -/
def tDispT1 (tk tv : TE) : TE := fun σ H Q => ∀ p, H p = none → tk σ (upd H p (.dT [])) fun x H1 => tv σ H1 fun y H2 => H2 p = some (.dT []) ∧ ∃ (b : Addr) (k : List Key), x = .ref b ∧ H2 b = some (.tup (k.map kV)) ∧ Q (.ref p) (upd H2 p (.dT [(k, y)]))
theorem dispT_end {X : Cx} {pins : List (Addr × Obj)} {σ : L2.St} {H2 : Hp} {s2 : Shared} {p b : Addr} {k : List Key} {y : L2.V} {r : Value} {Q : VK} (hu : X.A.units < cLine) (I2 : L2.Inv X pins σ H2 s2) (e : H2 p = some (.dT [])) (eb : H2 b = some (.tup (k.map kV))) (ry : L2.RelV y r)
    (q : Q (.ref p) (upd H2 p (.dT [(k, y)]))) : wpAny (model X.prog X.w) X.A (storeAll p [(.ref b, r)]) (fun _ s' => L2.EP X pins σ Q (.ref p) s') X.xe s2 := by
  obtain ⟨z, hd, xs, rel, dd⟩ := dt_of I2.hok e
  cases rel
  unfold storeAll
  rw [List.forIn_cons]
  refine wpAny_bind (wpAny_bind (wpAny_dictSet_heap (hsz := z) (show (tupleKind (mixKind X.prog X.w)).room X.A from hu) (key_of I2.hok eb) dd fun h' dd' hs => wpAny_pure ?_))
  refine wpAny_pure ⟨.ref p, _, ?_, rfl, q⟩
  obtain ⟨q, es, ep, hq, h2, h3, h4, h0, h5⟩ := dd'
  have rr := (show KT H2 [] [] from .nil).put k eb ry
  have e1 : putK ([] : List (List Key × L2.V)) k y = [(k, y)] := rfl
  rw [e1] at rr
  refine d_write I2 (by rw [e]; exact True.intro) hs ⟨q, hq⟩ ⟨(show 1 ≤ sizeLine by rw [sizeLine_eq]; decide), hd, _, rr.keeps fun c ys ec => ?_, q, es, ep, hq, h2, h3, h4, h5⟩
  rw [upd_ne (ne_of ec e (fun z => nomatch z))]
  exact ec
theorem pe_dispT1 {X : Cx} {key value : Expr} {pos : Pos} {tk tv : TE} (hu : X.A.units + 1 < cLine) (hk : PE X key tk) (hv : PE X value tv) : PE X (.Dict [some key] [value] pos) (tDispT1 tk tv) := by
  refine ⟨fun pins s σ H Q I q => ?_⟩
  have hn := I.hok.fresh (Nat.le_refl s.heap.objs.size)
  have I1 := I.laid (a := s.heap.objs.size) (o := .dT []) (h' := s.heap.push { cls := .type "dict", data := .dict #[] }) (t' := s.toks) (fun _ _ q => Heap.get?_push_of_some _ q) (Nat.le_refl _) (dt_empty s.heap I.big)
  have tr : PPs X pos [some key] [value] [(tk, tv)] := pps_cons hk hv pps_nil
  refine wpAny_Dict_any rfl rfl (fun z => nomatch z) (show 1 ≤ 15 by decide) (thn (tr.run pins _ σ _ (fun ps H2 => match ps with
    | [(x, y)] => H2 s.heap.objs.size = some (.dT []) ∧ ∃ (b : Addr) (k : List Key), x = .ref b ∧ H2 b = some (.tup (k.map kV)) ∧ Q (.ref s.heap.objs.size) (upd H2 s.heap.objs.size (.dT [(k, y)]))
    | _ => False) I1 (q _ hn)) fun ws s2 ⟨ps, H2, I2, rel, q2⟩ => ?_)
  rcases ps with _ | ⟨⟨x, y⟩, _ | ⟨p2, ps⟩⟩
  · exact False.elim q2
  · obtain ⟨e, b, k, ex, eb, q2⟩ := q2
    cases rel with
    | @cons _ ur _ _ hxy t =>
    cases t
    obtain ⟨u, r⟩ := ur
    obtain ⟨rx, ry⟩ := hxy
    have rx : L2.RelV x u := rx
    have ry : L2.RelV y r := ry
    subst ex
    cases (show u = Value.ref b from rx)
    exact dispT_end (Nat.lt_of_succ_lt hu) I2 e eb ry q2
  · exact False.elim q2

theorem keys_all {X : AP} {H : Hp} : ∀ {ks : List Key} {xs : List L2.V}, IsAll X H xs (ks.map kD) → xs = ks.map kV
  | [], _, h => by cases h; rfl
  | k :: ks, _, h => by
    rw [List.map_cons] at h
    cases h with
    | cons h t =>
      rw [isw_kD (.inl h), keys_all t]; rfl
theorem de_dispT1 {W : Wd} {n : Nat} {ρ : Rho} {tk tv : TE} {P : Nat → D → Prop} (h : DE tk W n ρ fun n d1 => DE tv W n ρ fun n _ => (∃ ks : List Key, d1 = .tup (ks.map kD)) ∧ P n .dct) : DE (tDispT1 tk tv) W n ρ P := fun Z T σ H e Q k => fun p hp =>
  h ((p, .dT []) :: Z) T σ _ (e.lay hp) _ fun n x d1 H1 q1 e1 i1 => q1 _ ((x, d1) :: T) σ H1 (e1.push i1) _ fun n y d2 H2 ⟨⟨ks, hd⟩, pp⟩ e2 i2 => by
    subst hd
    have ix := e2.top
    cases ix with
    | @tup b xs _ hx hb ha =>
    have hk := keys_all ha
    subst hk
    have z := e2.z (p, .dT []) List.mem_cons_self
    refine ⟨z.1, b, ks, rfl, hb, ?_⟩
    have e3 := (e2.pop1).zput (o := .dT []) (o' := .dT [(ks, y)]) (fun h => h)
    exact k _ _ _ _ pp e3.zpop (.dct e3.zmv.2 upd_same)
/-! ### errors of the text's own -/
/-- an own error class without __init__, below ValueError -/
structure ExcT (K : PySem.W.Frag) (mg : Str → Option Value) (x : Str) (C : Addr) : Prop where
  gC : mg x = some (.ref C)
  xC : PySem.W.excIn K C [.type "ValueError", .type "Exception", .type "BaseException", .type "object"] "ValueError.__new__" = true
  kC : PySem.W.keepIn K (.ref C) = true
  bC : PySem.W.subIn K (.ref C) (.type "BaseException") = some true
  tC : PySem.W.typeIn K (.ref C) = some (.type "type")
theorem ExcT.mk' {X : Cx} {x m : Str} {C : Addr} {j : Nat} {p p2 pos : Pos} (T : ExcT X.K X.mg x C) (hg : Gl X x) (hdb : (x == ("__debug__" : Str)) = false := by decide) :
    PMk X (.Call (.Name x p) [.Constant (.str m) j p2] [] pos) (fun _ H Q => Q (.ref C) none H) := pmk_own PySem.F.excBase_ValueError T.xC T.gC T.kC (raises_own T.bC T.tC) hg hdb

/-! ### calls with keywords -/
/-- the values in the def's order -/
def gPerm {α : Type} (z : α) (perm : List Nat) (us ws : List α) : List α := perm.map fun i => (us ++ ws).getD i z
theorem perm_all {X : AP} {H : Hp} {vs : List L2.V} {ds : List D} (h : IsAll X H vs ds) : ∀ (perm : List Nat), IsAll X H (perm.map fun i => vs.getD i .non) (perm.map fun i => ds.getD i .non)
  | [] => .nil
  | i :: r => by
    refine .cons ?_ (perm_all h r)
    show Is X H (vs.getD i .non) (ds.getD i .non)
    rw [List.getD_eq_getElem?_getD, List.getD_eq_getElem?_getD]
    cases q : vs[i]? with
    | none =>
      have : ds[i]? = none := by rw [List.getElem?_eq_none_iff] at q ⊢; rw [← h.len]; exact q
      rw [this]; exact .non
    | some v =>
      obtain ⟨d, h1, h2⟩ := h.get q
      rw [h1]; exact h2
theorem perm_vals {vs : List L2.V} {us : List Value} (r : Vals vs us) : ∀ (perm : List Nat), Vals (perm.map fun i => vs.getD i .non) (perm.map fun i => us.getD i Value.none)
  | [] => .nil
  | i :: p => by
    refine .cons ?_ (perm_vals r p)
    show L2.RelV (vs.getD i .non) (us.getD i Value.none)
    rw [List.getD_eq_getElem?_getD, List.getD_eq_getElem?_getD]
    cases q : vs[i]? with
    | none => rw [r.none_of q]; rfl
    | some v =>
      obtain ⟨u, h1, h2⟩ := r.get q
      rw [h1]; exact h2
/-- f(e, .., k = v, ..) binds so -/
structure KwB (K : PySem.W.Frag) (fd : FuncData) (ps : List Str) (n : Nat) (ks : List Str) (perm : List Nat) : Prop where
  to : ∀ (s : Shared) (us ws : List Value), K.In s.heap → us.length = n → ws.length = ks.length → BindsTo s fd ⟨us, ks.zip ws⟩ (ps.zip (gPerm Value.none perm us ws))
def tCalK (n m : Nat) (sp : Sp) (perm : List Nat) (E : XK) (t tk : TA) : TE := fun σ H Q => t σ H fun vs H1 => tk σ H1 fun zs H2 => vs.length = n ∧ zs.length = m ∧ sp (gPerm L2.V.non perm vs zs) H2 Q E
/-- a def with a way of calling it by keywords -/
structure CalK (P : Program) (w : World) (K : PySem.W.Frag) (mg : Str → Option Value) (base : Heap) (k : Nat) (x : Str) (ps : List Str) (n : Nat) (ks : List Str) (perm : List Nat) (sp : Sp) : Prop where
  ex : ∃ (f : Addr) (fd : FuncData), FnOk P w K mg base (L2.CX P w) k f fd ps sp ∧ mg x = some (.ref f) ∧ PySem.W.keepIn K (.ref f) = true ∧ KwB K fd ps n ks perm
section
variable {X : Cx} {k n : Nat} {x : Str} {ps ks : List Str} {perm : List Nat} {sp : Sp} {E : XK} {p pos : Pos} {e : Expr} {es : List Expr} {kws : List Keyword} {t tk : TA}
theorem run_calK {f : Addr} {fd : FuncData} {pins : List (Addr × Obj)} {σ : L2.St} {H : Hp} {s : Shared} {Q : VK} {us ws : List Value} {vs zs : List L2.V} (F : FnOk X.prog X.w X.K X.mg X.base (L2.CX X.prog X.w) k f fd ps sp) (hr : Room k X.A) (hb : KwB X.K fd ps n ks perm) (hx : Passes (L2.CX X.prog X.w) X E)
    (I : L2.Inv X pins σ H s) (r : Vals vs us) (rz : Vals zs ws) (h1 : vs.length = n) (h2 : zs.length = ks.length) (h : sp (gPerm L2.V.non perm vs zs) H Q E) : wpAny (model X.prog X.w) X.A (call (.ref f) us (ks.zip ws)) (EP X pins σ Q) X.xe s := by
  have rr : Vals (gPerm L2.V.non perm vs zs) (gPerm Value.none perm us ws) := perm_vals (r.append rz) perm
  refine wpAny_call (codeAny_mono (F.run X.A X.stack s H ⟨us, ks.zip ws⟩ _ _ Q E hr I.env0 (hb.to s us ws I.kIn (by rw [← r.length]; exact h1) (by rw [← rz.length]; exact h2)) rr h) fun o s' hq => ?_)
  cases o with
  | error e => exact hx pins σ H s e s' I hq
  | ok fl =>
    cases fl with
    | ret u => exact I.after hq
    | next => exact False.elim hq
    | brk => exact False.elim hq
    | cont => exact False.elim hq
theorem pe_calK (C : CalK X.prog X.w X.K X.mg X.base k x ps n ks perm sp) (hr : Room k X.A) (hx : Passes (L2.CX X.prog X.w) X E) (hg : Gl X x) (ha : PA X (e :: es) t) (hkw : PK X kws tk)
    (hall : (backToKw pos (keywordEach kws X.env)).all (·.1.isSome) = true := by rfl) (hks : (backToKw pos (keywordEach kws X.env)).filterMap (·.1) = ks := by rfl) (hdb : (x == ("__debug__" : Str)) = false := by decide)
    (he : starEach (e :: es) X.env = (false, eval e X.env) :: starEach es X.env := by rfl) (hpl : ((backTo pos (starEach (e :: es) X.env)).any (·.1) || (backToKw pos (keywordEach kws X.env)).any (·.1.isNone)) = false := by rfl) :
    PE X (.Call (.Name x p) (e :: es) kws pos) (tCalK n ks.length sp perm E t tk) := by
  obtain ⟨f, fd, F, hm, hk, hb⟩ := C.ex
  refine ⟨fun pins s σ H Q I h => wpAny_Call_Name_kw (ld_glob I hg hm ?_ hdb)⟩
  refine PySem.W.callWith_KW (h₀ := X.base) I.ok.mod.kin hk hall (thn (ha.run pos pins s σ H _ I h) fun us s1 ⟨vs, H1, I1, r, q⟩ => ?_) hpl he
  refine thn (hkw.run pos pins s1 σ H1 _ I1 q) fun ws s2 ⟨zs, H2, I2, rz, l1, l2, q2⟩ => ⟨I2.kIn, ?_⟩
  rw [hks]
  exact run_calK F hr hb hx I2 r rz l1 l2 q2
theorem pe_calK0 (C : CalK X.prog X.w X.K X.mg X.base k x ps 0 ks perm sp) (hr : Room k X.A) (hx : Passes (L2.CX X.prog X.w) X E) (hg : Gl X x) (hkw : PK X kws tk)
    (hall : (backToKw pos (keywordEach kws X.env)).all (·.1.isSome) = true := by rfl) (hks : (backToKw pos (keywordEach kws X.env)).filterMap (·.1) = ks := by rfl) (hdb : (x == ("__debug__" : Str)) = false := by decide)
    (hpl : ((backTo pos (starEach [] X.env)).any (·.1) || (backToKw pos (keywordEach kws X.env)).any (·.1.isNone)) = false := by rfl) :
    PE X (.Call (.Name x p) [] kws pos) (tCalK 0 ks.length sp perm E tNil tk) := by
  obtain ⟨f, fd, F, hm, hk, hb⟩ := C.ex
  refine ⟨fun pins s σ H Q I h => wpAny_Call_Name_kw (ld_glob I hg hm ?_ hdb)⟩
  refine PySem.W.callWith_KW0 (h₀ := X.base) I.ok.mod.kin hk hall ?_ hpl
  refine thn (hkw.run pos pins s σ H _ I h) fun ws s2 ⟨zs, H2, I2, rz, l1, l2, q2⟩ => ⟨I2.kIn, ?_⟩
  rw [hks]
  exact run_calK (us := []) (vs := []) F hr hb hx I2 .nil rz rfl l2 q2
end
/-- a def called with keywords -/
theorem Cal.kw {P : Program} {w : World} {K : PySem.W.Frag} {mg : Str → Option Value} {base : Heap} {k : Nat} {x : Str} {st : Stmt} {ps : List Str} {sp : Sp} (C : Cal P w K mg base k x st ps sp) (n : Nat) (ks : List Str) (perm : List Nat)
    (h : ∀ (kV doc pm : Value) (an : Option Addr) (cdv ct : Value) (us ws : List Value), us.length = n → ws.length = ks.length → bindArgs (PySem.W.fnOf x x (defArgs st) (defBody st) (defScope st) .none kV doc pm an cdv ct) ⟨us, ks.zip ws⟩ = pure (ps.zip (gPerm Value.none perm us ws))) : CalK P w K mg base k x ps n ks perm sp := by
  obtain ⟨f, fd, F, hm, hk, hb, hF⟩ := C.ex
  obtain ⟨oc, od, kV, doc, pm, an, cdv, ct, osl, rfl, lk, _⟩ := hF.ex
  exact ⟨f, _, F, hm, hk, ⟨fun s us ws _ h1 h2 => .of_eq (h kV doc pm an cdv ct us ws h1 h2)⟩⟩
section
variable {W : Wd} {n : Nat} {ρ : Rho} {q m : Nat} {V : AP} {G : Nat → Hp → Prop} {κ : Nat → Nat → Nat} {pre : Nat → List D → Prop} {post : Nat → List D → Nat → Out → Prop} {E : XK} {P : Nat → D → Prop} {tas tks : TA} {perm : List Nat}
theorem de_calK (F : Fit V G κ W) (hE : W.E = E) (h : DA tas W n ρ fun n ds => DA tks W n ρ fun n es => ds.length = q ∧ es.length = m ∧ pre n (gPerm D.non perm ds es) ∧ (∀ n' C ns l, post n (gPerm D.non perm ds es) n' (.exc C ns l) → W.EP (κ n n') C ns l) ∧ ∀ n' b d, post n (gPerm D.non perm ds es) n' (.ret b d) → P (κ n n') d) :
    DE (tCalK q m (Prm perm.length V G pre post) perm E tas tks) W n ρ P := fun Z T σ H e Q k =>
  h Z T σ H e _ fun n vs ds H1 p e1 i1 => p Z (zipT vs ds ++ T) σ H1 (e1.pushAll i1) _ fun n zs es H2 ⟨h1, h2, hp, hx, hq⟩ e2 i2 =>
    ⟨by rw [i1.len]; exact h1, by rw [i2.len]; exact h2, call_prm F e2.popAll (perm_all ((e2.topAll i1.len).append i2) perm) (by simp [gPerm]) hp (fun n' => hq n' false) (fun n' => hq n' true) k (exc_out F hE e2.popAll hx)⟩
end
end HD

namespace HD
open PySem PySem.Spec PyProof.Rows L2
/-! ### what a def gives, by a function -/
abbrev PD (m : Nat) (pre : List D → Prop) (f : List D → Out) : Sp := Prm m V0 G0 (fun _ ds => pre ds) (fun _ ds _ o => o = f ds)
/-- a def that may use up to c turns of what G counts, and raises nothing -/
abbrev PL (m : Nat) (V : AP) (G : Nat → Hp → Prop) (c : Nat) (pre : List D → Prop) (R : List D → Bool → D → Prop) : Sp := Prm m V G (fun n ds => c ≤ n ∧ pre ds) (fun n ds n' o => n ≤ n' + c ∧ ∃ b d, o = .ret b d ∧ R ds b d)
def is_int : D → Bool
  | .int _ => true
  | .bl _ => true
  | _ => false
def is_bool : D → Bool
  | .bl _ => true
  | _ => false
def is_tuple : D → Bool
  | .tup _ => true
  | _ => false
def is_list : D → Bool
  | .lst _ => true
  | _ => false
def is_str : D → Bool
  | .str _ => true
  | _ => false
def is_dict : D → Bool
  | .dic _ _ => true
  | .dct => true
  | _ => false
section
variable {W : Wd} {n : Nat} {Z : ZL} {T : TL} {ρ : Rho} {σ : L2.St} {H : Hp} {P : Nat → D → Prop} {K : PySem.W.Frag} {d d1 d2 : D} {q m c : Nat} {V : AP} {G : Nat → Hp → Prop} {pre : List D → Prop} {f : List D → Out} {E : XK} {tas tks : TA} {perm : List Nat}
theorem de_det (h : DA tas W n ρ fun n ds => ds.length = m ∧ pre ds ∧ ∃ b d, f ds = .ret b d ∧ P n d) : DE (tCall (PD m pre f) [] E tas) W n ρ P :=
  de_call fit0 (h.imp fun n ds ⟨h1, h2, b, d, h3, h4⟩ => ⟨h1, h2, fun _ C ns l q => (by rw [h3] at q; cases q), fun _ b' d' q => by rw [h3] at q; cases q; exact h4⟩)
theorem df_det (h : DA tas W n ρ fun n ds => ds.length = m ∧ pre ds ∧ ∃ d, f ds = .ret true d ∧ P n d) : DF (tCall (PD m pre f) [] E tas) W n ρ P :=
  df_call fit0 (h.imp fun n ds ⟨h1, h2, d, h3, h4⟩ => ⟨h1, h2, fun _ C ns l q => (by rw [h3] at q; cases q), fun _ d' q => (by rw [h3] at q; cases q), fun _ d' q => by rw [h3] at q; cases q; exact h4⟩)
/-- what comes out: a value or an error that the caller lets out -/
def Outs (EP : Addr → List Str → List D → Prop) (P : D → Prop) : Out → Prop
  | .ret _ d => P d
  | .exc C ns l => EP C ns l
theorem de_detE (hE : W.E = E) (h : DA tas W n ρ fun n ds => ds.length = m ∧ pre ds ∧ Outs (W.EP n) (P n) (f ds)) : DE (tCall (PD m pre f) [] E tas) W n ρ P :=
  de_callE fit0 hE (h.imp fun n ds ⟨h1, h2, h3⟩ => ⟨h1, h2, fun _ C ns l q => by rw [← q] at h3; exact h3, fun _ b d q => by rw [← q] at h3; exact h3⟩)
theorem df_detE (hE : W.E = E) (h : DA tas W n ρ fun n ds => ds.length = m ∧ pre ds ∧ (∀ d, f ds ≠ .ret false d) ∧ Outs (W.EP n) (P n) (f ds)) : DF (tCall (PD m pre f) [] E tas) W n ρ P :=
  df_callE fit0 hE (h.imp fun n ds ⟨h1, h2, h0, h3⟩ => ⟨h1, h2, fun _ C ns l q => by rw [← q] at h3; exact h3, fun _ d q => h0 d q.symm, fun _ d q => by rw [← q] at h3; exact h3⟩)
theorem de_detK (hE : W.E = E) (h : DA tas W n ρ fun n ds => DA tks W n ρ fun n es => ds.length = q ∧ es.length = m ∧ pre (gPerm D.non perm ds es) ∧ Outs (W.EP n) (P n) (f (gPerm D.non perm ds es))) : DE (tCalK q m (PD perm.length pre f) perm E tas tks) W n ρ P :=
  de_calK fit0 hE (h.imp fun n ds h => h.imp fun n es ⟨h1, h2, h3, h4⟩ => ⟨h1, h2, h3, fun _ C ns l q => by rw [← q] at h4; exact h4, fun _ b d q => by rw [← q] at h4; exact h4⟩)
theorem de_law {R : List D → Bool → D → Prop} (F : Fit V G (fun _ n' => n') W) (h : DA tas W n ρ fun n ds => ds.length = m ∧ c ≤ n ∧ pre ds ∧ ∀ n' b d, n ≤ n' + c → R ds b d → P n' d) : DE (tCall (PL m V G c pre R) [] E tas) W n ρ P :=
  de_call F (h.imp fun n ds ⟨h1, h2, h3, h4⟩ => ⟨h1, ⟨h2, h3⟩, fun n' C ns l ⟨_, b, d, q, _⟩ => (by cases q), fun n' b' d' ⟨h5, b, d, q, r⟩ => by cases q; exact h4 n' b' d' h5 r⟩)
theorem df_law {R : List D → Bool → D → Prop} (F : Fit V G (fun _ n' => n') W) (h : DA tas W n ρ fun n ds => ds.length = m ∧ c ≤ n ∧ pre ds ∧ (∀ d, ¬ R ds false d) ∧ ∀ n' d, n ≤ n' + c → R ds true d → P n' d) : DF (tCall (PL m V G c pre R) [] E tas) W n ρ P :=
  df_call F (h.imp fun n ds ⟨h1, h2, h3, h0, h4⟩ => ⟨h1, ⟨h2, h3⟩, fun n' C ns l ⟨_, b, d, q, _⟩ => (by cases q), fun n' d' ⟨h5, b, d, q, r⟩ => (by cases q; exact h0 _ r), fun n' d' ⟨h5, b, d, q, r⟩ => by cases q; exact h4 n' d' h5 r⟩)
/-! ### isinstance of data and of kept errors -/
def rIsX0 (K : PySem.W.Frag) : List L2.V → Hp → VK → Prop := fun xs H Q => ∃ (a Dc : Addr) (c : L2.V) (cv : Value) (b : Bool), xs = [.ref a, c] ∧ H a = some (excH a Dc none) ∧ ExcC K Dc ∧ (∀ u, RelV c u → u = cv) ∧ PySem.W.kitOne K (.ref Dc) cv = some b ∧ Q (.bl b) H
def rIsiU (K : PySem.W.Frag) : List L2.V → Hp → VK → Prop := fun xs H Q => rIsi K xs H Q ∨ rIsX0 K xs H Q
theorem call_isiU {X : Cx} : CallR X (.builtin "isinstance") (rIsiU X.K) := call_isi.or call_isX0
theorem dc_orl {r r' : List L2.V → Hp → VK → Prop} {ds : List D} (h : DC r W n ρ ds P) : DC (fun xs H Q => r xs H Q ∨ r' xs H Q) W n ρ ds P := fun Z T σ H vs e i Q k => .inl (h Z T σ H vs e i Q k)
theorem u_isi {m c : String} {b : Bool} (e : d.tn = some m) (hb : kitB m c = some b) (p : P n (.bl b)) : DC (rIsiU K) W n ρ [d, .ty c] P := dc_orl (b_isi e hb p)
theorem u_is_int (hd : d.tn.isSome = true) (p : P n (.bl (is_int d))) : DC (rIsiU K) W n ρ [d, .ty "int"] P := by
  cases d <;> first | exact absurd hd Bool.false_ne_true | exact u_isi (b := true) rfl (by decide +kernel) p | exact u_isi (b := false) rfl (by decide +kernel) p
theorem u_is_bool (hd : d.tn.isSome = true) (p : P n (.bl (is_bool d))) : DC (rIsiU K) W n ρ [d, .ty "bool"] P := by
  cases d <;> first | exact absurd hd Bool.false_ne_true | exact u_isi (b := true) rfl (by decide +kernel) p | exact u_isi (b := false) rfl (by decide +kernel) p
theorem u_is_tuple (hd : d.tn.isSome = true) (p : P n (.bl (is_tuple d))) : DC (rIsiU K) W n ρ [d, .ty "tuple"] P := by
  cases d <;> first | exact absurd hd Bool.false_ne_true | exact u_isi (b := true) rfl (by decide +kernel) p | exact u_isi (b := false) rfl (by decide +kernel) p
theorem u_is_list (hd : d.tn.isSome = true) (p : P n (.bl (is_list d))) : DC (rIsiU K) W n ρ [d, .ty "list"] P := by
  cases d <;> first | exact absurd hd Bool.false_ne_true | exact u_isi (b := true) rfl (by decide +kernel) p | exact u_isi (b := false) rfl (by decide +kernel) p
theorem u_is_str (hd : d.tn.isSome = true) (p : P n (.bl (is_str d))) : DC (rIsiU K) W n ρ [d, .ty "str"] P := by
  cases d <;> first | exact absurd hd Bool.false_ne_true | exact u_isi (b := true) rfl (by decide +kernel) p | exact u_isi (b := false) rfl (by decide +kernel) p
theorem u_is_dict (hd : d.tn.isSome = true) (p : P n (.bl (is_dict d))) : DC (rIsiU K) W n ρ [d, .ty "dict"] P := by
  cases d <;> first | exact absurd hd Bool.false_ne_true | exact u_isi (b := true) rfl (by decide +kernel) p | exact u_isi (b := false) rfl (by decide +kernel) p
theorem u_is_lt (hd : d.tn.isSome = true) (p : P n (.bl (is_list d || is_tuple d))) : DC (rIsiT K) W n ρ [d, .tup [.ty "list", .ty "tuple"]] P := by
  cases d <;> first | exact absurd hd Bool.false_ne_true | exact b_isiT2 (b1 := true) (b2 := true) rfl (by decide +kernel) (by decide +kernel) p | exact b_isiT2 (b1 := true) (b2 := false) rfl (by decide +kernel) (by decide +kernel) p | exact b_isiT2 (b1 := false) (b2 := true) rfl (by decide +kernel) (by decide +kernel) p | exact b_isiT2 (b1 := false) (b2 := false) rfl (by decide +kernel) (by decide +kernel) p
theorem u_isiC {m : String} {C : Addr} {b : Bool} (e : d.tn = some m) (hb : PySem.W.kitOne K (.type m) (.ref C) = some b) (p : P n (.bl b)) : DC (rIsiU K) W n ρ [d, .raw C] P := dc_orl (b_isiC e hb p)
theorem u_isiI {C : Addr} {ns : List Str} {l : List D} {c : D} {cv : Value} {b : Bool} (I : InsK K C) (hc : (∃ m, c = .ty m ∧ cv = .type m) ∨ ∃ D, c = .raw D ∧ cv = .ref D) (hb : PySem.W.kitOne K (.ref C) cv = some b) (p : P n (.bl b)) : DC (rIsiU K) W n ρ [.ins C ns l, c] P := dc_orl (b_isiI I hc hb p)
theorem u_isiX {C Dd : Addr} {b : Bool} (I : ExcC K C) (hb : PySem.W.kitOne K (.ref C) (.ref Dd) = some b) (p : P n (.bl b)) : DC (rIsiU K) W n ρ [.exc C [] [], .raw Dd] P := fun Z T σ H vs ev ia Q k => by
  obtain ⟨v1, v2, rfl, i1, i2⟩ := ws2 ia
  cases isw_raw i2
  rcases i1 with i1 | ⟨_, _, _, _, i1⟩
  · cases i1 with
    | exc0 hx ha => exact .inr ⟨_, C, .ref Dd, .ref Dd, b, rfl, ha, I, fun u r => r, hb, k _ _ _ H p ev (.bl _)⟩
    | exc hne => exact absurd rfl hne
  · cases i1
/-! ### known answers -/
theorem bT {A B : Prop} (h : A) : (true = true → A) ∧ (true = false → B) := ⟨fun _ => h, (fun z => nomatch z)⟩
theorem bF {A B : Prop} (h : B) : (false = true → A) ∧ (false = false → B) := ⟨(fun z => nomatch z), fun _ => h⟩
/-! ### equality of plain things -/
theorem r_eqI {i j : Int} (p : P n (.bl (decide (i = j)))) : DR (rEqD K) W n ρ (.int i) (.int j) P := dr_eq rfl rfl rfl rfl (by
  have : PyData.eqv (.int i) (.int j) = decide (i = j) := by
    show (i == j) = _
    exact Bool.beq_eq_decide_eq i j
  rw [this]; exact p)
theorem r_neI {i j : Int} (p : P n (.bl (!decide (i = j)))) : DR (rNeD K) W n ρ (.int i) (.int j) P := dr_ne rfl rfl rfl rfl (by
  have : PyData.eqv (.int i) (.int j) = decide (i = j) := by
    show (i == j) = _
    exact Bool.beq_eq_decide_eq i j
  rw [this]; exact p)
end
end HD

namespace HD
open PySem PySem.Spec PyProof.Rows L2
theorem szl {n : Nat} (h : n ≤ 100000) : n ≤ sizeLine := Nat.le_trans h (by decide)
theorem szlt {n : Nat} (h : n < 100000) : n < sizeLine := Nat.lt_of_lt_of_le h (by decide)
theorem in_self {S : List Nat} : ∀ i, i ∈ S → i ∈ S := fun _ h => h
/-! ### comprehensions by a function, by a relation -/
def noOwnB (ρ : Rho) (vs : List Nat) : Bool := vs.all fun i => match ρ[i]? with
  | some (some (true, _)) => false
  | _ => true
theorem noOwn_by {ρ : Rho} {vs : List Nat} (h : noOwnB ρ vs = true) : NoOwn ρ vs := fun i d hi q => by
  have := List.all_eq_true.mp h i hi
  rw [q] at this
  cases this
/-- item by item -/
inductive Each (R : D → D → Prop) : List D → List D → Prop
  | nil : Each R [] []
  | cons {d y : D} {ds ys : List D} : R d y → Each R ds ys → Each R (d :: ds) (y :: ys)
theorem Each.snoc {R : D → D → Prop} {d y : D} : ∀ {ds ys : List D}, Each R ds ys → R d y → Each R (ds ++ [d]) (ys ++ [y])
  | _, _, .nil, r => .cons r .nil
  | _, _, .cons h t, r => .cons h (t.snoc r)
theorem Each.len {R : D → D → Prop} : ∀ {ds ys : List D}, Each R ds ys → ys.length = ds.length
  | _, _, .nil => rfl
  | _, _, .cons _ t => by rw [List.length_cons, List.length_cons, t.len]
theorem Each.map {R : D → D → Prop} {f : D → D} (hf : ∀ d y, R d y → y = f d) : ∀ {ds ys : List D}, Each R ds ys → ys = ds.map f
  | _, _, .nil => rfl
  | _, _, .cons h t => by rw [List.map_cons, hf _ _ h, t.map hf]
theorem take_snoc {α : Type} : ∀ {l : List α} {i : Nat} {x : α}, l[i]? = some x → l.take (i + 1) = l.take i ++ [x]
  | [], i, x, h => by simp at h
  | a :: l, 0, x, h => by
    have e : a = x := Option.some.inj h
    subst e
    simp
  | a :: l, i + 1, x, h => by
    have ih := take_snoc (l := l) (i := i) (x := x) h
    rw [List.take_succ_cons, List.take_succ_cons, ih]
    rfl
section
variable {W : Wd} {n : Nat} {ρ : Rho} {K : PySem.W.Frag} {P : Nat → D → Prop} {wi : TI} {g : TG} {S vs : List Nat} {tt : TT} {te : TE}
theorem df_lc_cost (c : Nat) (R : D → D → Prop) (hno : NoOwn ρ vs) (h : DI wi W n ρ fun n ds => ds.length ≤ sizeLine ∧ c * ds.length ≤ n ∧ (∀ n' d, d ∈ ds → c ≤ n' → DG g S d W (wipeR ρ vs) fun ρ2 => DE te W n' ρ2 fun n'' y => n' ≤ n'' + c ∧ R d y) ∧ ∀ n' ys, n ≤ n' + c * ds.length → Each R ds ys → P n' (.lst ys))
    (hS : ∀ i, i ∈ S → i ∈ vs) : DF (tLc wi g tYes te vs) W n ρ P :=
  df_lc hno hS fun Z T σ H e Q k => h Z T σ H e Q fun n J ds T0 H' ⟨h1, hc, h2, h3⟩ e' ok => k n J ds T0 H' ⟨fun i n' acc => i ≤ ds.length ∧ n ≤ n' + c * i ∧ Each R (ds.take i) acc, ⟨Nat.zero_le _, by omega, .nil⟩, fun i n' d acc hd ⟨_, hm, hI⟩ m Z T σ H v e i0 Q k2 => by
    have hi : i < ds.length := (List.getElem?_eq_some_iff.mp hd).1
    have hcc : c * (i + 1) ≤ c * ds.length := Nat.mul_le_mul_left c hi
    rw [Nat.mul_succ] at hcc
    exact h2 n' d (List.mem_of_getElem? hd) (by omega) m Z T σ H v e i0 Q fun ρ' σ' p e2 ag =>
      k2 ρ' σ' (dt_yes ⟨fun _ => p.imp fun n'' y ⟨hq, r⟩ => by
        have l := hI.len
        rw [List.length_take] at l
        refine ⟨by omega, hi, by rw [Nat.mul_succ]; omega, ?_⟩
        rw [take_snoc hd]
        exact hI.snoc r, fun z => nomatch z⟩) e2 ag, fun n' acc ⟨_, hm, hI⟩ => h3 n' acc hm (by rw [List.take_length] at hI; exact hI)⟩ e' ok
theorem df_lc_each (R : D → D → Prop) (hno : NoOwn ρ vs) (h : DI wi W n ρ fun _ ds => ds.length ≤ sizeLine ∧ (∀ n d, d ∈ ds → DG g S d W (wipeR ρ vs) fun ρ2 => DE te W n ρ2 fun _ y => R d y) ∧ ∀ n ys, Each R ds ys → P n (.lst ys))
    (hS : ∀ i, i ∈ S → i ∈ vs) : DF (tLc wi g tYes te vs) W n ρ P :=
  df_lc hno hS fun Z T σ H e Q k => h Z T σ H e Q fun n J ds T0 H' ⟨h1, h2, h3⟩ e' ok => k n J ds T0 H' ⟨fun i _ acc => i ≤ ds.length ∧ Each R (ds.take i) acc, ⟨Nat.zero_le _, .nil⟩, fun i n d acc hd ⟨_, hI⟩ m Z T σ H v e i0 Q k2 => h2 n d (List.mem_of_getElem? hd) m Z T σ H v e i0 Q fun ρ' σ' p e2 ag =>
      k2 ρ' σ' (dt_yes ⟨fun _ => p.imp fun _ y r => by
        have hi : i < ds.length := (List.getElem?_eq_some_iff.mp hd).1
        have l := hI.len
        rw [List.length_take] at l
        refine ⟨by omega, hi, ?_⟩
        rw [take_snoc hd]
        exact hI.snoc r, fun z => nomatch z⟩) e2 ag, fun _ acc ⟨_, hI⟩ => h3 _ acc (by rw [List.take_length] at hI; exact hI)⟩ e' ok
theorem df_lc_map (f : D → D) (hno : NoOwn ρ vs) (h : DI wi W n ρ fun n ds => ds.length ≤ sizeLine ∧ (∀ n d, d ∈ ds → DG g S d W (wipeR ρ vs) fun ρ2 => DE te W n ρ2 fun n y => y = f d) ∧ ∀ n, P n (.lst (ds.map f))) (hS : ∀ i, i ∈ S → i ∈ vs) : DF (tLc wi g tYes te vs) W n ρ P :=
  df_lc_each (fun d y => y = f d) hno (fun Z T σ H e Q k => h Z T σ H e Q fun n J ds T0 H' ⟨h1, h2, h3⟩ e' ok => k n J ds T0 H' ⟨h1, h2, fun n ys q => by rw [q.map fun _ _ h => h]; exact h3 n⟩ e' ok) hS
/-- with a test -/
theorem df_lc_filter (p : D → Bool) (f : D → D) (hno : NoOwn ρ vs) (h : DI wi W n ρ fun n ds => ds.length ≤ sizeLine ∧ (∀ n d, d ∈ ds → DG g S d W (wipeR ρ vs) fun ρ2 => DT tt W n ρ2 fun n b => b = p d ∧ (b = true → DE te W n ρ2 fun n y => y = f d)) ∧ ∀ n, P n (.lst ((ds.filter p).map f)))
    (hS : ∀ i, i ∈ S → i ∈ vs) : DF (tLc wi g tt te vs) W n ρ P :=
  df_lc hno hS fun Z T σ H e Q k => h Z T σ H e Q fun n J ds T0 H' ⟨h1, h2, h3⟩ e' ok => k n J ds T0 H' ⟨fun i _ acc => i ≤ ds.length ∧ acc = ((ds.take i).filter p).map f, ⟨Nat.zero_le _, rfl⟩, fun i n d acc hd ⟨_, hI⟩ m Z T σ H v e i0 Q k2 => h2 n d (List.mem_of_getElem? hd) m Z T σ H v e i0 Q fun ρ' σ' q e2 ag =>
      k2 ρ' σ' (q.imp fun _ b ⟨hb, hq⟩ => by
        have hi : i < ds.length := (List.getElem?_eq_some_iff.mp hd).1
        subst hI
        have hl : (((ds.take i).filter p).map f).length ≤ i := by
          rw [List.length_map]
          exact Nat.le_trans (List.length_filter_le _ _) (by rw [List.length_take]; omega)
        refine ⟨fun hb' => (hq hb').imp fun _ y r => ⟨by omega, hi, ?_⟩, fun hb' => ⟨hi, ?_⟩⟩
        · rw [take_snoc hd, List.filter_append, List.map_append, r]
          have : p d = true := by rw [← hb]; exact hb'
          simp [this]
        · rw [take_snoc hd, List.filter_append, List.map_append]
          have : p d = false := by rw [← hb]; exact hb'
          simp [this]) e2 ag, fun _ acc ⟨_, hI⟩ => by
        rw [List.take_length] at hI
        subst hI
        exact h3 _⟩ e' ok
theorem b_allM {ds : List D} {g : D → Bool} (p : P n (.bl (ds.all g))) : DC (rAll K) W n ρ [.lst (ds.map fun d => .bl (g d))] P := by
  have e : (ds.map fun d => D.bl (g d)) = (ds.map g).map D.bl := by rw [List.map_map]; rfl
  rw [e]
  refine b_all ?_
  rw [List.all_map]
  exact p
theorem b_anyM {ds : List D} {g : D → Bool} (p : P n (.bl (ds.any g))) : DC (rAny K) W n ρ [.lst (ds.map fun d => .bl (g d))] P := by
  have e : (ds.map fun d => D.bl (g d)) = (ds.map g).map D.bl := by rw [List.map_map]; rfl
  rw [e]
  refine b_any ?_
  rw [List.any_map]
  exact p
end
end HD
namespace HD
open PySem PySem.Spec PyProof.Rows L2
section
variable {W : Wd} {n : Nat} {ρ : Rho} {N : Nat → Rho → Prop} {R : Nat → Bool → D → Prop} {B C : Nat → Rho → Prop} {E : XK}
theorem ds_raise' {cls : Addr} (hE : W.E = E) (h : W.EP n cls [] []) : DS (fun _ _ H => E (.ref cls) none H) W n ρ N R B C := ds_raise h hE
end
/-! ### sizes of whole numbers -/
theorem fdiv_le {x s : Int} (h : 0 < s) : (x.fdiv s).natAbs ≤ x.natAbs := by
  rw [Int.fdiv_eq_ediv_of_nonneg _ (Int.le_of_lt h)]
  have h1 := Int.mul_ediv_add_emod x s
  have h2 := Int.emod_nonneg x (Int.ne_of_gt h)
  have h3 := Int.emod_lt_of_pos x h
  rcases Int.lt_or_le x 0 with hx | hx
  · have h4 : x / s < 0 := Int.ediv_neg_of_neg_of_pos hx h
    have h5 : x ≤ x / s := by
      have := Int.mul_le_mul_of_nonneg_left (show x / s + 1 ≤ 0 by omega) (show 0 ≤ s - 1 by omega)
      rw [Int.mul_zero, Int.sub_mul, Int.mul_add, Int.one_mul, Int.mul_one] at this
      omega
    omega
  · have h4 : 0 ≤ x / s := Int.ediv_nonneg hx (Int.le_of_lt h)
    have h5 : x / s ≤ x := Int.ediv_le_self _ hx
    omega
theorem c_div {i j : Int} {b : Nat} (h : 0 < j) (hb : j.natAbs < 2 ^ b) (h0 : 0 < b := by decide) (h9 : b ≤ 9000 := by decide) : CDivN i j ∨ CDivW i j := .inr (wide_div h hb h0 h9)
theorem c_mul {i j : Int} {a b : Nat} (ha : i.natAbs < 2 ^ a) (hb : j.natAbs < 2 ^ b) (h0 : 0 < a := by decide) (h1 : 0 < b := by decide) (h : a + b ≤ 1000000 := by decide) : CMul i j ∨ CMulW i j := .inr (wide_mul ha hb h0 h1 h)
theorem c_small {i j : Int} (h : -(2 ^ 64) < j ∧ j < 2 ^ 64) : CMul i j ∨ CMulW i j := .inl (.inr h)
theorem c_smallL {i j : Int} (h : -(2 ^ 64) < i ∧ i < 2 ^ 64) : CMul i j ∨ CMulW i j := .inl (.inl h)
theorem c_divN {i j : Int} (h : j ≠ 0) (hb : j.natAbs < 1073741824) : CDivN i j ∨ CDivW i j := .inl ⟨h, hb⟩
theorem pow_lt {i : Int} {a b : Nat} (h : i.natAbs < 2 ^ a) (hab : a ≤ b) : i.natAbs < 2 ^ b := Nat.lt_of_lt_of_le h (Nat.pow_le_pow_right (by decide) hab)
theorem sub_lt {i j : Int} {a : Nat} (h1 : i.natAbs < 2 ^ a) (h2 : j.natAbs < 2 ^ a) : (i - j).natAbs < 2 ^ (a + 1) := by
  rw [Nat.pow_succ]; omega
end HD

namespace HD
open PySem PySem.Spec PyProof.Rows L2

/-! ### the state of a law's draws -/
def stK (g c : Addr) (left turn : Int) : List (Key × L2.V) := [(.inr "great", .ref g), (.inr "cells", .ref c), (.inr "left", .int left), (.inr "turn", .int turn)]
section
variable {g c : Addr} {l t l' t' : Int}
theorem ks_ne {a b : Str} (h : a ≠ b) : ¬ (Sum.inr a : Key) = .inr b := fun z => h (Sum.inr.inj z)
theorem st_great : valV (stK g c l t) (.inr "great") = some (.ref g) := valV_pos rfl
theorem st_cells : valV (stK g c l t) (.inr "cells") = some (.ref c) := (valV_neg (ks_ne (by decide))).trans (valV_pos rfl)
theorem st_left : valV (stK g c l t) (.inr "left") = some (.int l) := (valV_neg (ks_ne (by decide))).trans ((valV_neg (ks_ne (by decide))).trans (valV_pos rfl))
theorem st_turn : valV (stK g c l t) (.inr "turn") = some (.int t) := (valV_neg (ks_ne (by decide))).trans ((valV_neg (ks_ne (by decide))).trans ((valV_neg (ks_ne (by decide))).trans (valV_pos rfl)))
theorem put_left : putK (stK g c l t) (.inr "left") (.int l') = stK g c l' t := by
  have h1 : ¬ (Sum.inr "great" : Key) = .inr "left" := by decide
  have h2 : ¬ (Sum.inr "cells" : Key) = .inr "left" := by decide
  have h3 : ¬ (Sum.inr "turn" : Key) = .inr "left" := by decide
  unfold putK stK
  simp [h1, h2, h3]
theorem put_turn : putK (stK g c l t) (.inr "turn") (.int t') = stK g c l t' := by
  have h1 : ¬ (Sum.inr "great" : Key) = .inr "turn" := by decide
  have h2 : ¬ (Sum.inr "cells" : Key) = .inr "turn" := by decide
  have h3 : ¬ (Sum.inr "left" : Key) = .inr "turn" := by decide
  unfold putK stK
  simp [h1, h2, h3]
end
/-- the script's list: tracked, or never changed -/
def Scr (K : PySem.W.Frag) (tr : Prop) (H : Hp) (a : Addr) (xs : List L2.V) : Prop := (tr ∧ H a = some (.lst xs)) ∨ (¬ tr ∧ ((∃ o, H a = some (.frz o (.lst xs))) ∨ ∀ H' : Hp, SqL K H' a xs))
theorem Scr.sq {K : PySem.W.Frag} {tr : Prop} {H : Hp} {a : Addr} {xs : List L2.V} (h : Scr K tr H a xs) : SqL K H a xs := by
  rcases h with ⟨_, h⟩ | ⟨_, ⟨o, h⟩ | h⟩
  · exact .inl (.inl h)
  · exact .inl (.inr ⟨o, h⟩)
  · exact h H
theorem scr_of {K : PySem.W.Frag} {H : Hp} {a : Addr} {xs : List L2.V} (h : SqL K H a xs) : ∃ tr, Scr K tr H a xs := by
  rcases h with (h | ⟨o, h⟩) | h
  · exact ⟨True, .inl ⟨True.intro, h⟩⟩
  · exact ⟨False, .inr ⟨id, .inl ⟨o, h⟩⟩⟩
  · exact ⟨False, .inr ⟨id, .inr fun _ => .inr h⟩⟩
/-- a law's script, its state, its tables -/
structure LP (K : PySem.W.Frag) (Tt : List (Addr × Str)) where
  s : Addr
  g : Addr
  c : Addr
  a : Addr
  cells : List Int
  xs : List L2.V
  tr : Prop
def LP.V {K : PySem.W.Frag} {Tt : List (Addr × Str)} (L : LP K Tt) : AP := fun b => b = L.s ∨ b = L.g ∨ b = L.c ∨ (L.tr ∧ b = L.a) ∨ ∃ p ∈ Tt, p.1 = b
/-- n draws at the most are left -/
def StOk (H : Hp) (s g c : Addr) (cells : List Int) (n : Nat) : Prop := ∃ (gr : List Int) (left turn : Int), H s = some (.dK (stK g c left turn)) ∧ H g = some (.lst (gr.map .int)) ∧ H c = some (.lst (cells.map .int)) ∧ 0 ≤ left ∧ (∀ x ∈ gr, 0 ≤ x) ∧ 0 ≤ turn ∧ turn + (n : Int) ≤ 2 ^ 40
def LP.G {K : PySem.W.Frag} {Tt : List (Addr × Str)} (L : LP K Tt) : Nat → Hp → Prop := fun n H => StOk H L.s L.g L.c L.cells n ∧ Scr K L.tr H L.a L.xs ∧ LamX.Tabs Tt H ∧ L.g ≠ L.c ∧ (L.tr → L.a ≠ L.g)
theorem LP.stab {K : PySem.W.Frag} {Tt : List (Addr × Str)} (L : LP K Tt) : Stab L.V L.G := by
  constructor
  · rintro n H ⟨⟨gr, left, turn, h1, h2, h3, _⟩, hs, ht, _⟩ b hb
    rcases hb with rfl | rfl | rfl | ⟨tr, rfl⟩ | ⟨p, hp, rfl⟩
    · rw [h1]; exact fun z => nomatch z
    · rw [h2]; exact fun z => nomatch z
    · rw [h3]; exact fun z => nomatch z
    · rcases hs with ⟨_, h⟩ | ⟨h, _⟩
      · rw [h]; exact fun z => nomatch z
      · exact absurd tr h
    · obtain ⟨ps, h, _⟩ := ht p hp
      rw [h]; exact fun z => nomatch z
  · rintro n H H' k ⟨⟨gr, left, turn, h1, h2, h3, h4⟩, hs, ht, hn⟩
    refine ⟨⟨gr, left, turn, k _ _ h1 (.inl (.inl rfl)), k _ _ h2 (.inl (.inr (.inl rfl))), k _ _ h3 (.inl (.inr (.inr (.inl rfl)))), h4⟩, ?_, fun p hp => ?_, hn⟩
    · rcases hs with ⟨tr, h⟩ | ⟨tr, ⟨o, h⟩ | h⟩
      · exact .inl ⟨tr, k _ _ h (.inl (.inr (.inr (.inr (.inl ⟨tr, rfl⟩)))))⟩
      · exact .inr ⟨tr, .inl ⟨o, k _ _ h (.inr True.intro)⟩⟩
      · exact .inr ⟨tr, .inr h⟩
    · obtain ⟨ps, q1, q2, q3⟩ := ht p hp
      refine ⟨ps, k _ _ q1 (.inr True.intro), q2, fun pos cv hc => ?_⟩
      obtain ⟨c, e1, e2⟩ := q3 pos cv hc
      exact ⟨c, e1, k _ _ e2 (.inr True.intro)⟩
/-! ### promises of a law's functions -/
def spL (K : PySem.W.Frag) (Tt : List (Addr × Str)) (m c : Nat) (pre : LP K Tt → List D → Prop) (R : LP K Tt → List D → Bool → D → Prop) : Sp := fun vs H Q E => ∃ L : LP K Tt, PL m L.V L.G c (pre L) (R L) vs H Q E
theorem DS.impR {t : TS} {W : Wd} {n : Nat} {ρ : Rho} {N N' : Nat → Rho → Prop} {R R' : Nat → Bool → D → Prop} {B C : Nat → Rho → Prop} (h : DS t W n ρ N R B C) (k : ∀ n ρ, N n ρ → N' n ρ) (k2 : ∀ n b d, R n b d → R' n b d) : DS t W n ρ N' R' B C :=
  fun Z T σ H e De f => h Z T σ H e De ⟨fun n ρ σ H q => f.nx n ρ σ H (k n ρ q), fun n v d H q => f.rt n v d H (k2 n false d q), fun n a o d H q => f.rf n a o d H (k2 n true d q), f.bk, f.ct⟩
section
variable {P : Program} {w : World} {K : PySem.W.Frag} {Tt : List (Addr × Str)} {mg : Str → Option Value} {base : Heap} {k m c : Nat} {x : Str} {st : Stmt} {N ps : List Str} {pre : LP K Tt → List D → Prop} {R : LP K Tt → List D → Bool → D → Prop}
theorem Def.okL (Dd : Def K mg x st ps) (S : FnScope N ps (defScope st)) (hn : m = ps.length)
    (h : ∀ (f : Addr) (cdv : Value) (A : Around) (outer : List PySem.Env) (s : Shared) (H : Hp) (E : XK), Room k (A.deeper (envOfC x (defScope st) s.heap.objs.size f cdv)) →
      ∃ t, PSs (cxD P w K mg base N x st f cdv A outer s H E) (defBody st) t ∧ ∀ (L : LP K Tt) (W : Wd) (n : Nat) (ds : List D), W.V = L.V → W.G = L.G → W.E = E → ds.length = m → c ≤ n → pre L ds →
        DS t W n (startR N ds) (fun n' _ => n ≤ n' + c ∧ R L ds false .non) (fun n' b d => n ≤ n' + c ∧ R L ds b d) (fun _ _ => False) (fun _ _ => False)) : Cal P w K mg base (k + 1) x st ps (spL K Tt m c pre R) := by
  refine Dd.raw S (fun vs H Q E ⟨L, q⟩ => by rw [prm_len q, hn]) fun f cdv A outer s H vs Q E hr ⟨L, q⟩ => ?_
  obtain ⟨t, ht, hd⟩ := h f cdv A outer s H E hr
  exact ⟨t, ht, prm_body L.stab q fun W n ds w1 w2 w3 w4 hl ⟨hc, hp⟩ => (hd L W n ds w1 w2 w3 hl hc hp).impR (fun n' ρ ⟨a, b⟩ => ⟨a, _, _, rfl, b⟩) fun n' b d ⟨h1, h2⟩ => ⟨h1, _, _, rfl, h2⟩⟩
/-- from one promise another -/
theorem Cal.conv {sp sp' : Sp} (C : Cal P w K mg base k x st ps sp) (key : ∀ vs H Q E, sp' vs H Q E → sp vs H Q E) : Cal P w K mg base k x st ps sp' := by
  obtain ⟨f, fd, F, hm, hk, hb, hF⟩ := C.ex
  exact ⟨f, fd, ⟨fun vs H Q E q => F.len vs H Q E (key vs H Q E q), fun A outer s H args us vs Q E hr e0 hbt r q => F.run A outer s H args us vs Q E hr e0 hbt r (key vs H Q E q)⟩, hm, hk, hb, hF⟩
variable {W : Wd} {n : Nat} {ρ : Rho} {Q : Nat → D → Prop} {E : XK} {tas : TA}
theorem de_lawL (L : LP K Tt) (hV : W.V = L.V) (hG : W.G = L.G) (h : DA tas W n ρ fun n ds => ds.length = m ∧ c ≤ n ∧ pre L ds ∧ ∀ n' b d, n ≤ n' + c → R L ds b d → Q n' d) : DE (tCall (spL K Tt m c pre R) [] E tas) W n ρ Q := fun Z T σ H e q k =>
  h Z T σ H e _ fun n vs ds H' ⟨hl, hc, hp, hq⟩ e' i => by
    refine ⟨L, ?_⟩
    rw [List.append_nil]
    exact call_prm (fitW hV hG) e' i hl ⟨hc, hp⟩ (fun n' d ⟨h1, b, d', h2, h3⟩ => by cases h2; exact hq n' _ _ h1 h3) (fun n' d ⟨h1, b, d', h2, h3⟩ => by cases h2; exact hq n' _ _ h1 h3) k fun n' C ns l od _ ⟨_, _, _, p, _⟩ => by cases p
theorem df_lawL (L : LP K Tt) (hV : W.V = L.V) (hG : W.G = L.G) (h : DA tas W n ρ fun n ds => ds.length = m ∧ c ≤ n ∧ pre L ds ∧ (∀ d, ¬ R L ds false d) ∧ ∀ n' d, n ≤ n' + c → R L ds true d → Q n' d) : DF (tCall (spL K Tt m c pre R) [] E tas) W n ρ Q := fun Z T σ H e q k =>
  h Z T σ H e _ fun n vs ds H' ⟨hl, hc, hp, h0, hq⟩ e' i => by
    refine ⟨L, ?_⟩
    rw [List.append_nil]
    exact call_prmF (fitW hV hG) e' i hl ⟨hc, hp⟩ (fun n' d ⟨h1, b, d', h2, h3⟩ => by cases h2; exact h0 _ h3) (fun n' d ⟨h1, b, d', h2, h3⟩ => by cases h2; exact hq n' _ h1 h3) k fun n' C ns l od _ ⟨_, _, _, p, _⟩ => by cases p
end
/-! ### an environment of slots that are read -/
def Slots (X : AP) (H : Hp) : L2.St → Rho → Prop
  | [], [] => True
  | _ :: σ, none :: ρ => Slots X H σ ρ
  | some v :: σ, some (false, d) :: ρ => Is X H v d ∧ Slots X H σ ρ
  | _, _ => False
theorem Slots.len {X : AP} {H : Hp} : ∀ {σ : L2.St} {ρ : Rho}, Slots X H σ ρ → σ.length = ρ.length
  | [], [], _ => rfl
  | x :: σ, none :: ρ, h => by
    have h' : Slots X H σ ρ := by cases x <;> exact h
    simp [h'.len]
  | some v :: σ, some (false, d) :: ρ, h => by simp [h.2.len]
  | [], _ :: _, h => h.elim
  | _ :: _, [], h => by rename_i x _; cases x <;> exact h.elim
  | none :: _, some (b, _) :: _, h => by cases b <;> exact False.elim h
  | some _ :: _, some (true, _) :: _, h => h.elim
theorem Slots.no {X : AP} {H : Hp} : ∀ {σ : L2.St} {ρ : Rho}, Slots X H σ ρ → ∀ (i : Nat) (d : D), ρ[i]? ≠ some (some (true, d))
  | [], [], _, i, d => by simp
  | x :: σ, none :: ρ, h, 0, d => by simp
  | x :: σ, none :: ρ, h, i + 1, d => by
    have h' : Slots X H σ ρ := by cases x <;> exact h
    simpa using h'.no i d
  | some v :: σ, some (false, d') :: ρ, h, 0, d => by simp
  | some v :: σ, some (false, d') :: ρ, h, i + 1, d => by simpa using h.2.no i d
  | [], _ :: _, h, _, _ => h.elim
  | _ :: _, [], h, _, _ => by rename_i x _; cases x <;> exact h.elim
  | none :: _, some (b, _) :: _, h, _, _ => by cases b <;> exact False.elim h
  | some _ :: _, some (true, _) :: _, h, _, _ => h.elim
theorem Slots.sh {X : AP} {H : Hp} : ∀ {σ : L2.St} {ρ : Rho}, Slots X H σ ρ → ∀ (i : Nat) (d : D), ρ[i]? = some (some (false, d)) → ∃ v, σ[i]? = some (some v) ∧ Is X H v d
  | [], [], _, i, d, e => by simp at e
  | x :: σ, none :: ρ, h, 0, d, e => by simp at e
  | x :: σ, none :: ρ, h, i + 1, d, e => by
    have h' : Slots X H σ ρ := by cases x <;> exact h
    obtain ⟨v, q1, q2⟩ := h'.sh i d (by simpa using e)
    exact ⟨v, by simpa using q1, q2⟩
  | some v :: σ, some (false, d') :: ρ, h, 0, d, e => by
    simp at e
    subst e
    exact ⟨v, rfl, h.1⟩
  | some v :: σ, some (false, d') :: ρ, h, i + 1, d, e => by
    obtain ⟨v, q1, q2⟩ := h.2.sh i d (by simpa using e)
    exact ⟨v, by simpa using q1, q2⟩
  | [], _ :: _, h, _, _, _ => h.elim
  | _ :: _, [], h, _, _, _ => by rename_i x _ _; cases x <;> exact h.elim
  | none :: _, some (b, _) :: _, h, _, _, _ => by cases b <;> exact False.elim h
  | some _ :: _, some (true, _) :: _, h, _, _, _ => h.elim
theorem env_slots {W : Wd} {n : Nat} {σ : L2.St} {ρ : Rho} {H : Hp} (h : Slots W.X0 H σ ρ) (h0 : Frm W.V W.H0 H) (g : W.G n H) : Env W n [] [] ρ σ H := by
  have no : ∀ a, ¬ Own ρ σ a := fun a ⟨i, d, q, _⟩ => h.no i d q
  have m : Mv W.X0 H (XX W [] ρ σ) H := fun a o q hx => ⟨q, fun x => by
    rcases x with x | x | ⟨o, x⟩
    · exact hx x
    · exact no a x
    · cases x⟩
  refine ⟨h.len, fun i d q => ?_, fun i d q => absurd q (h.no i d), fun i j d e a q => absurd q (h.no i d), fun p hp => (nomatch hp), List.nodup_nil, fun p hp => (nomatch hp), h0, g⟩
  obtain ⟨v, q1, q2⟩ := h.sh i d q
  exact ⟨v, q1, q2.mv m⟩
/-- a world in which nothing changes -/
def Wq (H : Hp) (E : XK) : Wd where
  V := fun _ => False
  X0 := fun _ => False
  G := fun _ _ => True
  H0 := H
  E := E
  EP := fun _ _ _ _ => False
  vx := fun _ h => h
  xd := fun _ h => h.elim
  vd := fun _ _ _ _ h => h.elim
  stab := fun _ _ _ _ _ => True.intro
  hE := fun _ _ _ _ _ _ h => h.elim
/-- the world of a script that is read -/
def Wscr (K : PySem.W.Frag) (tr : Prop) (a : Addr) (xs : List L2.V) (H : Hp) (E : XK) (h : Scr K tr H a xs) : Wd where
  V := fun b => tr ∧ b = a
  X0 := fun b => tr ∧ b = a
  G := fun _ H => Scr K tr H a xs
  H0 := H
  E := E
  EP := fun _ _ _ _ => False
  vx := fun _ h => h
  xd := fun b ⟨t, e⟩ => by
    subst e
    rcases h with ⟨_, h⟩ | ⟨h, _⟩
    · rw [h]; exact fun z => nomatch z
    · exact absurd t h
  vd := fun _ H h b ⟨t, e⟩ => by
    subst e
    rcases h with ⟨_, h⟩ | ⟨h, _⟩
    · rw [h]; exact fun z => nomatch z
    · exact absurd t h
  stab := fun _ H H' k h => by
    rcases h with ⟨tr, h⟩ | ⟨tr, ⟨o, h⟩ | h⟩
    · exact .inl ⟨tr, k _ _ h (.inl ⟨tr, rfl⟩)⟩
    · exact .inr ⟨tr, .inl ⟨o, k _ _ h (.inr True.intro)⟩⟩
    · exact .inr ⟨tr, .inr h⟩
  hE := fun _ _ _ _ _ _ h => h.elim
theorem Scr.keep {K : PySem.W.Frag} {tr : Prop} {a : Addr} {xs : List L2.V} {H H' : Hp} (h : Scr K tr H a xs) (h' : Scr K tr H' a xs) (f : Frm (fun b => tr ∧ b = a) H H') : ∀ b o, H b = some o → H' b = some o := fun b o q => by
  by_cases hb : tr ∧ b = a
  · obtain ⟨t, rfl⟩ := hb
    rcases h with ⟨_, h⟩ | ⟨h, _⟩
    · rcases h' with ⟨_, h'⟩ | ⟨h', _⟩
      · rw [h] at q; rw [h']; exact q
      · exact absurd t h'
    · exact absurd t h
  · exact f b o q hb
/-- the script walked -/
theorem di_script {W : Wd} {n : Nat} {ρ : Rho} {K : PySem.W.Frag} {tl : TE} {P : Nat → List D → Prop} {a : Addr} {ns : List Int} (hs : ∀ n H, W.G n H → SqL K H a (ns.map .int)) (h : DE tl W n ρ fun n d => d = .raw a ∧ P n (ns.map .int)) : DI (iSeq K tl) W n ρ P := fun Z T σ H e Q k =>
  h Z T σ H e _ fun n v d H' ⟨hd, p⟩ e' i => by
    subst hd
    cases i
    refine ⟨a, rfl, .inl ⟨⟨_, hs n H' e'.g⟩, k n _ (ns.map .int) [] H' p e' fun n Z T ρ σ H hT e i => ?_⟩⟩
    have q := hs n H e.g
    have hl : (ns.map L2.V.int).length = (ns.map D.int).length := by rw [List.length_map, List.length_map]
    refine ⟨fun hi => ⟨⟨_, (ns.map L2.V.int)[i]'(by rw [hl]; exact hi), q, by simp⟩, fun x H' ⟨eh, y⟩ => ?_⟩, fun hi => ⟨_, q, by rw [hl]; exact hi⟩⟩
    subst eh
    have y1 := y _ q
    rw [List.getElem?_map] at y1
    obtain ⟨z, hz, rfl⟩ := Option.map_eq_some_iff.mp y1
    exact ⟨.int z, by rw [List.getElem?_map, hz]; rfl, e.push (.int z)⟩
theorem c_pow {i j : Int} (h : 0 ≤ j ∧ j ≤ 1000000 ∧ i.natAbs < 2 ^ 64 := by decide) : CPow i j := h
theorem each_ints : ∀ {ds ys : List D}, Each (fun _ y => ∃ z, y = D.int z) ds ys → ∃ zs : List Int, ys = zs.map D.int
  | _, _, .nil => ⟨[], rfl⟩
  | _, _, .cons ⟨z, h⟩ t => by
    obtain ⟨zs, e⟩ := each_ints t
    exact ⟨z :: zs, by rw [h, e]; rfl⟩
theorem merge_st {g c : Addr} : mergeK [] [((.inr "great" : Key), L2.V.ref g), (.inr "cells", .ref c), (.inr "left", .int 0), (.inr "turn", .int 0)] = stK g c 0 0 := by
  have h1 : ¬ (Sum.inr "great" : Key) = .inr "cells" := by decide
  have h2 : ¬ (Sum.inr "great" : Key) = .inr "left" := by decide
  have h3 : ¬ (Sum.inr "great" : Key) = .inr "turn" := by decide
  have h4 : ¬ (Sum.inr "cells" : Key) = .inr "left" := by decide
  have h5 : ¬ (Sum.inr "cells" : Key) = .inr "turn" := by decide
  have h6 : ¬ (Sum.inr "left" : Key) = .inr "turn" := by decide
  unfold mergeK stK
  simp [putK, h1, h2, h3, h4, h5, h6]
/-! ### promises of the draws -/
def spBegun (K : PySem.W.Frag) : Sp := fun vs H Q E => ∃ (a : Addr) (ns : List Int), vs = [.ref a] ∧ SqL K H a (ns.map .int) ∧ ns.length ≤ 1000 ∧ ∀ (s g c : Addr) (gr cells : List Int) (H' : Hp), (∀ x ∈ gr, 0 ≤ x) → H s = none → H g = none → H c = none → s ≠ g → s ≠ c → g ≠ c →
  H' s = some (.dK (stK g c 0 0)) → H' g = some (.lst (gr.map .int)) → H' c = some (.lst (cells.map .int)) → (∀ b o, H b = some o → H' b = some o) → Q (.ref s) H'
def spBlend : Sp := fun vs H Q E => ∃ (s g c : Addr) (cells : List Int) (left turn : Int), vs = [.ref s] ∧ H s = some (.dK (stK g c left turn)) ∧ H c = some (.lst (cells.map .int)) ∧ 0 ≤ turn ∧ turn < 2 ^ 40 ∧
  ∀ (v : Int) (H' : Hp), 0 ≤ v → H' s = some (.dK (stK g c left (turn + 1))) → (∀ b o, b ≠ s → H b = some o → H' b = some o) → Q (.int v) H'
/-- a draw below size -/
def drawPre {K : PySem.W.Frag} {Tt : List (Addr × Str)} (L : LP K Tt) (ds : List D) : Prop := ∃ size : Int, ds = [.raw L.s, .int size] ∧ 0 < size ∧ size.natAbs < 2 ^ 9000
def drawR {K : PySem.W.Frag} {Tt : List (Addr × Str)} (L : LP K Tt) (ds : List D) (b : Bool) (d : D) : Prop := ∃ k : Int, b = false ∧ d = .int k ∧ 0 ≤ k ∧ ∀ size, ds = [.raw L.s, .int size] → k < size
abbrev spDraw (K : PySem.W.Frag) (Tt : List (Addr × Str)) : Sp := spL K Tt 2 1 drawPre drawR
/-- the end of a draw -/
def tailTS (K : PySem.W.Frag) : TS := tSeq (tAsg (tOp rMod (tCB rInt1 (tCons (tOp (rIxU K) (tVar 0) (tC (.str "left"))) tNil)) (tVar 1)) (gName 2)) (tSeq (sDPut (tVar 0) (tC (.str "left")) (tOp rFdiv (tOp (rIxU K) (tVar 0) (tC (.str "left"))) (tVar 1))) (tRet (tVar 2)))
theorem draw_tail {K : PySem.W.Frag} {D : Ends} {s g c : Addr} {left turn size : Int} {H : Hp} (hst : H s = some (.dK (stK g c left turn))) (h0 : 0 < size) (hs : size.natAbs < 2 ^ 9000)
    (q : D.rt (.int (left.fmod size)) (upd H s (.dK (stK g c (left.fdiv size) turn)))) : tailTS K D [some (.ref s), some (.int size), none] H := by
  have g1 : DGet H s (.str "left") (some (.int left)) := .inl ⟨_, .inr "left", .inl hst, rfl, st_left.symm⟩
  refine ⟨_, rfl, .inr ⟨s, _, rfl, g1, .inl ⟨left, rfl, _, rfl, left, size, rfl, rfl, by omega, ?_⟩⟩⟩
  refine ⟨_, rfl, .inr ⟨s, _, rfl, g1, ⟨_, rfl, ⟨left, size, rfl, rfl, c_div h0 hs, ⟨_, rfl, ⟨s, _, rfl, .inl ⟨_, .inr "left", hst, rfl, (by show 4 < sizeLine; exact szlt (by decide)), rfl⟩, ⟨_, rfl, ?_⟩⟩⟩⟩⟩⟩⟩
  rw [put_left]
  exact q
theorem dp_ints {K : PySem.W.Frag} {H : Hp} : ∀ (xs : List Int), DpAll K H (xs.map L2.V.int) (xs.map PyData.int)
  | [] => .nil
  | x :: xs => .cons (.int x) (dp_ints xs)
abbrev ixS (K : PySem.W.Frag) (x : Str) : TE := tOp (rIxU K) (tVar 0) (tC (.str x))
/-- the beginning of a draw: nothing left -/
def headTS (K : PySem.W.Frag) (E : XK) : TS := tIfS (tTest (tOp (rEqD K) (ixS K "left") (tC (.int 0)))) (sDPut (tVar 0) (tC (.str "left")) (tIf (tTest (tOp (rNeD K) (ixS K "great") (tLst tNil))) (tBM K "list" rPopAt (ixS K "great") (tCons (tC (.int 0)) tNil)) (tCall spBlend [] E (tCons (tVar 0) tNil)))) tNext
theorem draw_head {K : PySem.W.Frag} {D : Ends} {E : XK} {s g c : Addr} {left turn size : Int} {gr cells : List Int} {H : Hp} (hst : H s = some (.dK (stK g c left turn))) (hg : H g = some (.lst (gr.map .int))) (hc : H c = some (.lst (cells.map .int))) (ngc : g ≠ c)
    (h0 : 0 ≤ left) (hgr : ∀ x ∈ gr, 0 ≤ x) (ht : 0 ≤ turn) (ht2 : turn < 2 ^ 40)
    (q : ∀ (left1 turn1 : Int) (gr1 : List Int) (H1 : Hp), H1 s = some (.dK (stK g c left1 turn1)) → H1 g = some (.lst (gr1.map .int)) → H1 c = some (.lst (cells.map .int)) → 0 ≤ left1 → (∀ x ∈ gr1, 0 ≤ x) → turn ≤ turn1 → turn1 ≤ turn + 1 → (∀ b o, b ≠ s → b ≠ g → H b = some o → H1 b = some o) →
      D.nx [some (.ref s), some (.int size), none] H1) : headTS K E D [some (.ref s), some (.int size), none] H := by
  have nsg : g ≠ s := fun z => by rw [z, hst] at hg; cases hg
  have nsc : c ≠ s := fun z => by rw [z, hst] at hc; cases hc
  refine ⟨_, rfl, .inr ⟨s, _, rfl, .inl ⟨_, .inr "left", .inl hst, rfl, st_left.symm⟩, ⟨.int left, .int 0, .int left, .int 0, rfl, rfl, ⟨_, rfl, ?_⟩⟩⟩⟩
  cases hb : PyData.eqv (.int left) (.int 0) with
  | false =>
    show D.nx _ _
    exact q left turn gr H hst hg hc h0 hgr (Int.le_refl _) (by omega) fun b o _ _ h => h
  | true =>
    rw [if_pos rfl]
    refine ⟨_, rfl, .inr ⟨s, _, rfl, .inl ⟨_, .inr "great", .inl hst, rfl, st_great.symm⟩, ⟨szl (by decide), fun p hp => ?_⟩⟩⟩
    have keep : ∀ b o, H b = some o → upd H p (.lst []) b = some o := fun b o h => by rw [upd_ne (ne_of_none h hp)]; exact h
    refine ⟨.list (gr.map .int), .list [], .lst (.inl (.inl (keep _ _ hg))) (dp_ints gr), .lst (.inl (.inl upd_same)) .nil, ?_, rfl, ⟨_, rfl, ?_⟩⟩
    · exact PySem.W.ke_shaped_ints gr
    cases gr with
    | nil =>
      have e : (!PyData.eqv (.list (([] : List Int).map .int)) (.list [])) = false := rfl
      rw [e]
      refine ⟨_, rfl, ?_⟩
      refine ⟨s, g, c, cells, left, turn, rfl, keep _ _ hst, keep _ _ hc, ht, ht2, fun v H' hv hs' hk => ?_⟩
      refine ⟨_, rfl, ⟨s, _, rfl, .inl ⟨_, .inr "left", hs', rfl, (by show 4 < sizeLine; exact szlt (by decide)), rfl⟩, ?_⟩⟩
      rw [put_left]
      refine q v (turn + 1) [] _ upd_same (by rw [upd_ne nsg]; exact hk _ _ nsg (keep _ _ hg)) (by rw [upd_ne nsc]; exact hk _ _ nsc (keep _ _ hc)) hv hgr (by omega) (Int.le_refl _) fun b o h1 _ h => ?_
      rw [upd_ne h1]
      exact hk b o h1 (keep b o h)
    | cons x r =>
      have e : (!PyData.eqv (.list ((x :: r : List Int).map .int)) (.list [])) = true := rfl
      rw [e]
      refine ⟨_, rfl, .inr ⟨s, _, rfl, .inl ⟨_, .inr "great", .inl (keep _ _ hst), rfl, st_great.symm⟩, ⟨.inl ⟨rfl, _, .inl (.inl (keep _ _ hg))⟩, ⟨g, _, 0, 0, .int x, rfl, rfl, keep _ _ hg, by decide, by decide, ?_, rfl, ?_⟩⟩⟩⟩
      · exact seqIndex_of (Int.le_refl 0) (by rw [List.length_map, List.length_cons]; omega)
      refine ⟨_, rfl, ⟨s, _, rfl, .inl ⟨_, .inr "left", (by rw [upd_ne (Ne.symm nsg)]; exact keep _ _ hst), rfl, (by show 4 < sizeLine; exact szlt (by decide)), rfl⟩, ?_⟩⟩
      rw [put_left]
      refine q x turn r _ upd_same (by rw [upd_ne nsg, upd_same]; rfl) (by rw [upd_ne nsc, upd_ne (Ne.symm ngc)]; exact keep _ _ hc) (hgr x List.mem_cons_self) (fun y hy => hgr y (List.mem_cons_of_mem _ hy)) (Int.le_refl _) (by omega) fun b o h1 h2 h => ?_
      rw [upd_ne h1, upd_ne h2]
      exact keep b o h
/-! ### one of several -/
def pickPre {K : PySem.W.Frag} {Tt : List (Addr × Str)} (L : LP K Tt) (ds : List D) : Prop := ∃ l, (ds = [.raw L.s, .lst l] ∨ ds = [.raw L.s, .tup l]) ∧ 0 < l.length ∧ l.length ≤ 100000
def pickR {K : PySem.W.Frag} {Tt : List (Addr × Str)} (L : LP K Tt) (ds : List D) (b : Bool) (d : D) : Prop := b = false ∧ ∀ l, (ds = [.raw L.s, .lst l] ∨ ds = [.raw L.s, .tup l]) → d ∈ l
abbrev spPick (K : PySem.W.Frag) (Tt : List (Addr × Str)) : Sp := spL K Tt 2 1 pickPre pickR
section
variable {K : PySem.W.Frag} {Tt : List (Addr × Str)} {W : Wd} {n : Nat} {ρ : Rho} {Q : Nat → D → Prop} {E : XK} {tas : TA}
theorem de_draw (L : LP K Tt) (hV : W.V = L.V) (hG : W.G = L.G) (h : DA tas W n ρ fun n ds => ∃ size : Int, ds = [.raw L.s, .int size] ∧ 0 < size ∧ size.natAbs < 2 ^ 9000 ∧ 1 ≤ n ∧ ∀ n' k, n ≤ n' + 1 → 0 ≤ k → k < size → Q n' (.int k)) : DE (tCall (spDraw K Tt) [] E tas) W n ρ Q :=
  de_lawL L hV hG (h.imp fun n ds ⟨size, e, h1, h2, h3, h4⟩ => ⟨by rw [e]; rfl, h3, ⟨size, e, h1, h2⟩, fun n' b d h5 ⟨k, _, h6, h7, h8⟩ => by rw [h6]; exact h4 n' k h5 h7 (h8 size e)⟩)
theorem de_pick (L : LP K Tt) (hV : W.V = L.V) (hG : W.G = L.G) (h : DA tas W n ρ fun n ds => ∃ l, (ds = [.raw L.s, .lst l] ∨ ds = [.raw L.s, .tup l]) ∧ 0 < l.length ∧ l.length ≤ 100000 ∧ 1 ≤ n ∧ ∀ n' d, n ≤ n' + 1 → d ∈ l → Q n' d) : DE (tCall (spPick K Tt) [] E tas) W n ρ Q :=
  de_lawL L hV hG (h.imp fun n ds ⟨l, e, h1, h2, h3, h4⟩ => ⟨by rcases e with e | e <;> (rw [e]; rfl), h3, ⟨l, e, h1, h2⟩, fun n' b d h5 ⟨_, h6⟩ => h4 n' d h5 (h6 l e)⟩)
end
theorem atI_mem {ds : List D} {k : Int} (h0 : 0 ≤ k) (h1 : k < ds.length) : ∃ d, atI ds k = some d ∧ d ∈ ds := by
  have hk : k.toNat < ds.length := by omega
  refine ⟨ds[k.toNat], ?_, List.getElem_mem hk⟩
  unfold atI ixN
  rw [if_pos h0, if_pos h1]
  exact List.getElem?_eq_getElem hk
theorem p9 {x : Int} (h : x.natAbs < 2 ^ 64) : x.natAbs < 2 ^ 9000 := pow_lt h (by decide)
theorem p92 {x : Int} (h : x.natAbs < 2 ^ 200) : x.natAbs < 2 ^ 9000 := pow_lt h (by decide)
section
variable {W : Wd} {n : Nat} {ρ : Rho} {K : PySem.W.Frag} {P : Nat → D → Prop} {q m : Nat} {pre : List D → Prop} {f : List D → Out} {E : XK} {tas tks : TA} {perm : List Nat}
/-- a call by keywords of which nothing is raised -/
theorem de_detK0 (h : DA tas W n ρ fun n ds => DA tks W n ρ fun n es => ds.length = q ∧ es.length = m ∧ pre (gPerm D.non perm ds es) ∧ ∃ b d, f (gPerm D.non perm ds es) = .ret b d ∧ P n d) : DE (tCalK q m (PD perm.length pre f) perm E tas tks) W n ρ P := fun Z T σ H e Q k =>
  h Z T σ H e _ fun n vs ds H1 p e1 i1 => p Z (zipT vs ds ++ T) σ H1 (e1.pushAll i1) _ fun n zs es H2 ⟨h1, h2, hp, b, d, hf, hq⟩ e2 i2 =>
    ⟨by rw [i1.len]; exact h1, by rw [i2.len]; exact h2, call_prm fit0 e2.popAll (perm_all ((e2.topAll i1.len).append i2) perm) (by simp [gPerm]) hp (fun _ d' z => by have z2 := z.trans hf; cases z2; exact hq) (fun _ d' z => by have z2 := z.trans hf; cases z2; exact hq) k fun _ C ns l od _ z => by have z2 := z.trans hf; cases z2⟩
theorem toPs_ints : ∀ ns : List Int, toPs (ns.map D.int) = some (ns.map PyData.int)
  | [] => rfl
  | i :: r => by
    rw [List.map_cons]
    unfold toPs
    rw [toPs_ints r]
    rfl
theorem toP_ints (ns : List Int) : D.toP (.lst (ns.map D.int)) = some (.list (ns.map PyData.int)) := by
  unfold D.toP
  rw [toPs_ints]
theorem r_eqNil {ns : List Int} (p : P n (.bl ns.isEmpty)) : DR (rEqD K) W n ρ (.lst (ns.map D.int)) (.lst []) P :=
  dr_eq (toP_ints ns) rfl (PySem.W.ke_shaped_ints ns) rfl (by cases ns <;> exact p)
end
section
variable {W : Wd} {n : Nat} {ρ : Rho} {K : PySem.W.Frag} {P : Nat → D → Prop} {wi : TI} {g : TG} {S vs : List Nat} {tt : TT} {te : TE}
/-- with a test; nothing drawn -/
theorem df_lc_filterN (p : D → Bool) (f : D → D) (hno : NoOwn ρ vs) (h : DI wi W n ρ fun n ds => ds.length ≤ sizeLine ∧ (∀ n' d, d ∈ ds → n ≤ n' → DG g S d W (wipeR ρ vs) fun ρ2 => DT tt W n' ρ2 fun n'' b => b = p d ∧ n ≤ n'' ∧ (b = true → DE te W n'' ρ2 fun n3 y => n ≤ n3 ∧ y = f d)) ∧ ∀ n', n ≤ n' → P n' (.lst ((ds.filter p).map f)))
    (hS : ∀ i, i ∈ S → i ∈ vs) : DF (tLc wi g tt te vs) W n ρ P :=
  df_lc hno hS fun Z T σ H e Q k => h Z T σ H e Q fun n J ds T0 H' ⟨h1, h2, h3⟩ e' ok => k n J ds T0 H' ⟨fun i n' acc => i ≤ ds.length ∧ n ≤ n' ∧ acc = ((ds.take i).filter p).map f, ⟨Nat.zero_le _, Nat.le_refl _, rfl⟩, fun i n' d acc hd ⟨_, hn, hI⟩ m Z T σ H v e i0 Q k2 => h2 n' d (List.mem_of_getElem? hd) hn m Z T σ H v e i0 Q fun ρ' σ' q e2 ag =>
      k2 ρ' σ' (q.imp fun n'' b ⟨hb, hn2, hq⟩ => by
        have hi : i < ds.length := (List.getElem?_eq_some_iff.mp hd).1
        subst hI
        have hl : (((ds.take i).filter p).map f).length ≤ i := by
          rw [List.length_map]
          exact Nat.le_trans (List.length_filter_le _ _) (by rw [List.length_take]; omega)
        refine ⟨fun hb' => (hq hb').imp fun n3 y ⟨hn3, r⟩ => ⟨by omega, hi, hn3, ?_⟩, fun hb' => ⟨hi, hn2, ?_⟩⟩
        · rw [take_snoc hd, List.filter_append, List.map_append, r]
          have : p d = true := by rw [← hb]; exact hb'
          simp [this]
        · rw [take_snoc hd, List.filter_append, List.map_append]
          have : p d = false := by rw [← hb]; exact hb'
          simp [this]) e2 ag, fun n' acc ⟨_, hn, hI⟩ => by
        rw [List.take_length] at hI
        subst hI
        exact h3 n' hn⟩ e' ok
end
theorem filter_none {ds : List D} {p : D → Bool} {α : Type} (f : D → α) : ((ds.filter fun d => !p d).map f).isEmpty = ds.all p := by
  induction ds with
  | nil => rfl
  | cons d r ih =>
    cases h : p d with
    | true => simp [List.filter_cons, h] at ih ⊢; exact ih
    | false => simp [List.filter_cons, h]
end HD

namespace HD
open PySem PySem.Spec PyProof.Rows L2

/-! ### a lambda made: nothing but the maker's table changes -/
def ExtP (P : Addr) (H H' : Hp) : Prop := ∀ b o, b ≠ P → H b = some o → H' b = some o
/-- the lambda's object -/
abbrev lamO (X : Cx) (params : Arguments) (body : Expr) (scope : Scope) (pm : Value) (c' : Addr) (ctv : Value) : Obj :=
  PySem.W.kla_obj "<lambda>" (X.env.qual ++ "<lambda>") params body scope (cloFrom X.env.cells scope.names []) pm c' ctv
section
variable {X : Cx} {pins : List (Addr × Obj)} {σ : L2.St} {H : Hp} {s : Shared}
theorem tabs_grown {T : List (Addr × Str)} {P c' : Addr} {nm : Str} {ps : Array Value} {pos : Pos} (hP : H P = some (.tbl ps)) (ok : TriplesOk ps.toList) (old : ∀ (p : Pos) (cv : Value), codeAmong p ps.toList = some cv → ∃ c, cv = .ref c ∧ H c = some (LamX.CodeO c nm))
    (only : ∀ p ∈ T, p.1 = P → p.2 = nm) (hT : LamX.Tabs T H) (new : H c' = none) : LamX.Tabs T (upd (upd H P (.tbl (ps ++ #[rawInt pos.line, rawInt pos.col, .ref c']))) c' (LamX.CodeO c' nm)) := by
  have stays : ∀ b nm', H b = some (LamX.CodeO b nm') → upd (upd H P (.tbl (ps ++ #[rawInt pos.line, rawInt pos.col, .ref c']))) c' (LamX.CodeO c' nm) b = some (LamX.CodeO b nm') := fun b nm' e => by
    have b1 : b ≠ c' := ne_of_none e new
    have b2 : b ≠ P := fun z => by
      rw [z, hP] at e
      exact LamX.codeO_ne ps (Option.some.inj e).symm
    rw [upd_ne b1, upd_ne b2]; exact e
  intro p hp
  by_cases h : p.1 = P
  · have h2 := only p hp h
    rw [h, h2]
    have e1 : (ps ++ #[rawInt pos.line, rawInt pos.col, Value.ref c']).toList = ps.toList ++ [rawInt pos.line, rawInt pos.col, .ref c'] := by simp
    refine ⟨ps ++ #[rawInt pos.line, rawInt pos.col, .ref c'], ?_, ?_, fun p' cv h3 => ?_⟩
    · rw [upd_ne (ne_of_none hP new), upd_same]
    · rw [e1]; exact PySem.TriplesOk_snoc _ _ _ _ ok
    · rw [e1] at h3
      cases LamX.among_app _ ok h3 with
      | inl z =>
        obtain ⟨c0, q1, q2⟩ := old p' cv z
        exact ⟨c0, q1, stays c0 nm q2⟩
      | inr z => exact ⟨c', z, upd_same⟩
  · obtain ⟨qs, q1, q2, q3⟩ := hT p hp
    refine ⟨qs, ?_, q2, fun p' cv h3 => ?_⟩
    · rw [upd_ne (ne_of_none q1 new), upd_ne h]; exact q1
    · obtain ⟨c0, q4, q5⟩ := q3 p' cv h3
      exact ⟨c0, q4, stays c0 p.2 q5⟩
theorem mk_lam {T : List (Addr × Str)} {c P : Addr} {params : Arguments} {body : Expr} {scope : Scope} {pos : Pos} {E Q : Value → Shared → Prop} (I : L2.Inv X pins σ H s) (B : LamX.TabB X.base X.mg c P) (co : X.env.code = .ref c) (mem : (P, X.env.qual ++ "<lambda>") ∈ T)
    (only : ∀ p ∈ T, p.1 = P → p.2 = X.env.qual ++ "<lambda>") (hT : LamX.Tabs T H) (nodef : defaultsOf params X.env = ([], [])) (cap : ∀ y ∈ scope.names, y.2 = .free → ∃ c, X.env.cells.lookup y.1 = some c)
    (k : ∀ (f c' : Addr) (pm ctv : Value) (H1 : Hp) (s' : Shared), L2.Inv X pins σ H1 s' → ExtP P H H1 → LamX.Tabs T H1 → s'.heap.get? f = some (lamO X params body scope pm c' ctv) → H1 f = none → f ∉ frs X.stack → H1 c' = some (LamX.CodeO c' (X.env.qual ++ "<lambda>")) → Q (.ref f) s') :
    wpAny (model X.prog X.w) X.A (eval (.Lambda params body scope pos) X.env) Q E s := by
  obtain ⟨ps, hP, ok, old⟩ := hT _ mem
  have bm : s.heap.BuiltinsAt X.mg P := B.bm.keeps I.bk
  have tb : s.heap.get? P = some { cls := .none, data := .fields ps } := I.hok P _ hP
  have ltP := Heap.lt_size tb
  have far : ∀ f, s.heap.objs.size ≤ f → f ∉ frs X.stack := fun f hf z => by
    cases List.mem_cons.mp (I.stkSub _ z) with
    | inl e =>
      have h1 := I.lt
      rw [← e] at h1
      exact absurd h1 (Nat.not_lt.mpr hf)
    | inr e => exact I.nofs hf e
  have hC := B.code.keeps I.bk
  have hG := I.mod.glob.keeps I.bk
  have clo := closure_ok cap
  refine PySem.W.kla_eval nodef ?_
  rcases hc : codeAmong pos ps.toList with _ | cv
  · refine PySem.W.kla_makeFunction (ps := ps) (P := P) (c := c) (mg := X.mg) clo I.ok.glob hG co hC tb ok hc B.gP bm ?_
    intro c' ctv h' tk keepH ge lt rec grown
    obtain ⟨_, oc, vs, t, e0, e1, e2, e3⟩ := rec
    cases e0
    have new : H c' = none := I.hok.fresh ge
    have sz : s.heap.objs.size ≤ h'.objs.size := by omega
    have J := LamX.inv_table (t' := tk) (c := c') (q := X.env.qual ++ "<lambda>") (more := #[rawInt pos.line, rawInt pos.col, .ref c']) (h' := h'.push (lamO X params body scope ((X.mg "__name__").getD .none) c' ctv)) I hP
      (fun b o n q => Heap.get?_push_of_some _ (keepH b o n q)) (Heap.get?_push_of_some _ grown) ge ⟨oc, vs, t, Heap.get?_push_of_some _ e1, e2, e3⟩
    refine k h'.objs.size c' _ ctv _ _ J (fun b o n q => ?_) (tabs_grown hP ok old only hT new) (Heap.get?_push_size _ rfl) ?_ (far _ sz) upd_same
    · rw [upd_ne (ne_of_none q new), upd_ne n]; exact q
    · have m1 : h'.objs.size ≠ c' := fun z => absurd lt (by rw [z]; exact Nat.lt_irrefl _)
      have m2 : h'.objs.size ≠ P := fun z => absurd (Nat.lt_of_lt_of_le ltP sz) (by rw [z]; exact Nat.lt_irrefl _)
      rw [upd_ne m1, upd_ne m2]
      exact I.hok.fresh sz
  · obtain ⟨c', rfl, hco⟩ := old pos cv hc
    refine PySem.W.kla_makeFunctionHit (ps := ps) (P := P) (c := c) (mg := X.mg) clo I.ok.glob hG co hC tb ok hc bm ?_
    intro ctv h' tk keepH sz
    have J : L2.Inv X pins σ H { s with heap := h'.push (lamO X params body scope ((X.mg "__name__").getD .none) c' ctv), toks := tk } := I.kept fun b o q => Heap.get?_push_of_some _ (keepH b o q)
    exact k h'.objs.size c' _ ctv H _ J (fun _ _ _ q => q) hT (Heap.get?_push_size _ rfl) (I.hok.fresh sz) (far _ sz) hco
end
/-- x(lambda: ..) -/
def tLam1 (T : List (Addr × Str)) (P : Addr) (TT : (XK → Hp → VK → Prop) → Hp → VK → Prop) (t : XK → TE) : TE := fun σ H Q => LamX.Tabs T H ∧ ∀ H1, ExtP P H H1 → LamX.Tabs T H1 → TT (fun E H' Q' => t E σ H' Q') H1 Q
/-- what the call x(lambda: ..) asks of the def x, told once -/
structure LamD (X : Cx) (T : List (Addr × Str)) (x a : Str) (c P : Addr) (TT : (XK → Hp → VK → Prop) → Hp → VK → Prop) : Prop where
  ex : ∃ (g : Addr) (pg : Arguments) (bg : List Stmt) (sg : Scope) (dV kV doc pm cdv ct oc : Value) (an od : Option Addr) (osl : Array (Option Value)) (Ng : List Str), X.mg x = some (.ref g) ∧ PySem.W.keepIn X.K (.ref g) = true ∧
    X.K.lookup g = some ⟨oc, od, .func (PySem.W.fnOf x x pg bg sg dV kV doc pm an cdv ct), osl⟩ ∧ PySem.W.codeIn X.K cdv x = true ∧ L2.Binds X.K (PySem.W.fnOf x x pg bg sg dV kV doc pm an cdv ct) [a] [] ∧ FnScope Ng [a] sg ∧ Ng[0]? = some a ∧ Vis sg a ∧
    LamX.GivesTo X Ng x sg g cdv bg a (X.env.qual ++ "<lambda>") TT
  TB : LamX.TabB X.base X.mg c P
  co : X.env.code = .ref c
  mem : (P, X.env.qual ++ "<lambda>") ∈ T
  only : ∀ p ∈ T, p.1 = P → p.2 = X.env.qual ++ "<lambda>"
theorem pe_lam1 {X : Cx} {T : List (Addr × Str)} {P c : Addr} {TT : (XK → Hp → VK → Prop) → Hp → VK → Prop} {x a : Str} {k : Nat} {params : Arguments} {body : Expr} {scope : Scope} {t : XK → TE} {p lpos pos : Pos} (M : LamD X T x a c P TT) (hg : Gl X x) (hr : Room (k + 2) X.A)
    (L : LamX.LamS X.env.scope scope) (nodef : defaultsOf params X.env = ([], [])) (bnd : ∀ (q : Str) (cl : List (Str × Addr)) (pm cv ctv : Value), bindArgs (PySem.W.kla_fn "<lambda>" q params body scope cl pm cv ctv) ⟨[], []⟩ = pure [])
    (hb : ∀ (A : Around) (outer : List PySem.Env) (s : Shared) (H : Hp) (E : XK) (f c' : Addr), Room k (A.deeper (LamX.lamEnv X scope s.heap.objs.size f c')) → PE (LamX.lamCx X A outer s H E scope f c') body (t E))
    (d1 : (x == ("__debug__" : Str)) = false := by decide) (d2 : (a == ("__debug__" : Str)) = false := by decide) (d3 : (a == ("__classdict__" : Str)) = false := by decide) : PE X (.Call (.Name x p) [.Lambda params body scope lpos] [] pos) (tLam1 T P TT t) := by
  obtain ⟨g, pg, bg, sg, dV, kV, doc, pm, cdv, ct, oc, an, od, osl, Ng, hm, hk, lk, hcg, hbd, Sg, n0, va, G⟩ := M.ex
  constructor
  intro pins s σ H Q I ⟨hT, h⟩
  refine wpAny_Call_Name_kw (ld_glob I hg hm ?_ d1)
  refine PySem.W.callWith_K (h₀ := X.base) I.ok.mod.kin hk ?_ (by rfl) (by rfl)
  show wpAny _ _ (spliced ((false, _) :: backTo pos (starEach [] X.env))) _ _ s
  refine Calls.spliced_cons (mk_lam I M.TB M.co M.mem M.only hT nodef (L.has I.ok) ?_)
  intro f c' pm' ctv H1 s' J ext T1 hf hfn hfr hco
  have run : codeAny (model X.prog X.w) X.A (.call (.ref g) ⟨[.ref f], []⟩) (CR C8.CX0 X.stack X.prog X.w H1 s' Q C8.E0) s' := by
    refine LamX.run_ofS (N := Ng) (us := [.ref f]) (vs := [.ref f]) (ps := [a]) lk hcg Sg hr J.env0 (hbd s' [.ref f] J.kIn rfl) (.cons rfl .nil) rfl ?_
    intro hr'
    obtain ⟨tt, htt, hq⟩ := G f c' s' H1 Q (fun E H' Q' => t E σ H' Q') (fun W pn xe E p1 p2 tk hW => LamX.pe_act (i := 0) J L hf hfn hfr (bnd _ _ _ _ _) tk hW hr' (fun A outer s H hr2 => hb A outer s H E f c' hr2) n0 va d2 d3) hco (h H1 ext T1)
    exact ⟨tt, htt.nox, hq⟩
  refine Calls.spliced_nil ⟨J.kIn, wpAny_call (codeAny_mono run ?_)⟩
  intro r s2 hq
  cases r with
  | error e => exact (show False from hq).elim
  | ok fl =>
    cases fl with
    | ret u => exact J.after hq
    | _ => exact False.elim hq
/-- caught: None, or the error -/
def TCaught (K : PySem.W.Frag) (CS : Addr) : (XK → Hp → VK → Prop) → Hp → VK → Prop := fun tl H Q =>
  tl (fun cls d H' => ∃ C : Addr, cls = .ref C ∧ PySem.W.exmOne K cls (.ref CS) = some true ∧ ∀ a, H' a = none → Q (.ref a) (upd H' a (excH a C d))) H fun _ H' => Q .non H'
/-- what is read only -/
def shR (ρ : Rho) : Rho := ρ.map fun s => match s with
  | some (true, _) => none
  | s => s
theorem shR_get {ρ : Rho} {i : Nat} {b : Bool} {d : D} (h : (shR ρ)[i]? = some (some (b, d))) : b = false ∧ ρ[i]? = some (some (false, d)) := by
  unfold shR at h
  rw [List.getElem?_map] at h
  obtain ⟨s, h1, h2⟩ := Option.map_eq_some_iff.mp h
  match s, h2 with
  | some (false, d'), h2 =>
    cases h2
    exact ⟨rfl, h1⟩
/-- the heap behind the making of a lambda -/
theorem LP.grown {K : PySem.W.Frag} {Tt : List (Addr × Str)} (L : LP K Tt) {n : Nat} {H H1 : Hp} {P : Addr} {q : Str} (mem : (P, q) ∈ Tt) (g : L.G n H) (x : ExtP P H H1) (t : LamX.Tabs Tt H1) : L.G n H1 := by
  obtain ⟨⟨gr, left, turn, h1, h2, h3, h4⟩, hs, ht, hn⟩ := g
  obtain ⟨ps, hP, _⟩ := ht _ mem
  have ne : ∀ b o, H b = some o → (∀ qs, o ≠ .tbl qs) → b ≠ P := fun b o e k z => by
    rw [z, hP] at e
    exact k ps (Option.some.inj e).symm
  refine ⟨⟨gr, left, turn, x _ _ (ne _ _ h1 fun _ z => nomatch z) h1, x _ _ (ne _ _ h2 fun _ z => nomatch z) h2, x _ _ (ne _ _ h3 fun _ z => nomatch z) h3, h4⟩, ?_, t, hn⟩
  rcases hs with ⟨tr, h⟩ | ⟨tr, ⟨o, h⟩ | h⟩
  · exact .inl ⟨tr, x _ _ (ne _ _ h fun _ z => nomatch z) h⟩
  · exact .inr ⟨tr, .inl ⟨o, x _ _ (ne _ _ h fun _ z => nomatch z) h⟩⟩
  · exact .inr ⟨tr, .inr h⟩
/-- the world of the lambda's body -/
def Wlam {W : Wd} {n : Nat} {Z : ZL} {T : TL} {ρ : Rho} {σ : L2.St} {H : Hp} (e : Env W n Z T ρ σ H) (Q : Nat → D → Prop) (K : PySem.W.Frag) (CS : Addr) (k : VK) (hk : RetK W Z T ρ σ Q k) : Wd where
  V := W.V
  X0 := XX W Z ρ σ
  G := W.G
  H0 := H
  E := fun cls d H' => ∃ C : Addr, cls = .ref C ∧ PySem.W.exmOne K cls (.ref CS) = some true ∧ ∀ a, H' a = none → k (.ref a) (upd H' a (excH a C d))
  EP := fun n C ns l => ns = [] ∧ l = [] ∧ PySem.W.exmOne K (.ref C) (.ref CS) = some true ∧ Q n (.exc C [] [])
  vx := fun a h => .inl (W.vx a h)
  xd := fun a h => e.xdom h
  vd := W.vd
  stab := W.stab
  hE := fun n' C ns l od H' ⟨h1, h2, ex, q⟩ fr g x => by
    refine ⟨C, rfl, ex, fun a ha => ?_⟩
    have h0 : od = none := by
      rcases x with ⟨_, _, x⟩ | ⟨_, _, x, _⟩
      · exact x
      · exact absurd h1 x
    subst h0
    have e2 := e.heap fr g
    exact hk n' _ _ _ q (e2.new ha) (.exc0 (fun x => e2.xdom x ha) upd_same)
theorem de_caught {K : PySem.W.Frag} {Tt : List (Addr × Str)} {W : Wd} {n : Nat} {ρ : Rho} {Q : Nat → D → Prop} {P CS : Addr} {q : Str} {te : XK → TE} (L : LP K Tt) (hV : W.V = L.V) (hG : W.G = L.G) (mem : (P, q) ∈ Tt)
    (h : ∀ (W' : Wd) (E' : XK), W'.V = L.V → W'.G = L.G → W'.E = E' → W'.EP = (fun n C ns l => ns = [] ∧ l = [] ∧ PySem.W.exmOne K (.ref C) (.ref CS) = some true ∧ Q n (.exc C [] [])) → DE (te E') W' n (shR ρ) fun n' _ => Q n' .non) :
    DE (tLam1 Tt P (TCaught K CS) te) W n ρ Q := fun Z T σ H e Qk k => by
  have g0 : L.G n H := by rw [← hG]; exact e.g
  refine ⟨g0.2.2.1, fun H1 ext T1 => ?_⟩
  have vP : W.V P := by rw [hV]; exact .inr (.inr (.inr (.inr ⟨_, mem, rfl⟩)))
  have e1 : Env W n Z T ρ σ H1 := e.heap (fun b o hb hv => ext b o (fun z => hv (by rw [z]; exact vP)) hb) (by rw [hG]; exact L.grown mem g0 ext T1)
  have m : ∀ b, XX (Wlam e1 Q K CS Qk k) [] (shR ρ) σ b → XX W Z ρ σ b := fun b x => by
    rcases x with x | ⟨i, d, x, _⟩ | ⟨o, x⟩
    · exact x
    · have := (shR_get x).1
      cases this
    · cases x
  have mv : Mv (XX W Z ρ σ) H1 (XX (Wlam e1 Q K CS Qk k) [] (shR ρ) σ) H1 := fun b o hb hx => ⟨hb, fun x => hx (m b x)⟩
  have e2 : Env (Wlam e1 Q K CS Qk k) n [] [] (shR ρ) σ H1 := by
    refine ⟨by unfold shR; rw [List.length_map]; exact e.len, fun i d x => ?_, fun i d x => ?_, fun i j d d' a x => ?_, fun p hp => (nomatch hp), List.nodup_nil, fun p hp => (nomatch hp), fun a o ha _ => ha, e1.g⟩
    · obtain ⟨v, h1, h2⟩ := e1.sh i d (shR_get x).2
      exact ⟨v, h1, h2.mv mv⟩
    · have := (shR_get x).1
      cases this
    · have := (shR_get x).1
      cases this
  exact h (Wlam e1 Q K CS Qk k) _ hV hG rfl rfl [] [] σ H1 e2 _ fun n' v d H' p e3 _ => k n' .non .non H' p (e1.heap e3.fr e3.g) .non
/-! ### defs whose code object is known (the makers of lambdas) -/
structure DefC (K : PySem.W.Frag) (mg : Str → Option Value) (x : Str) (st : Stmt) (ps : List Str) (c : Addr) : Prop where
  ex : ∃ (f : Addr) (oc : Value) (od : Option Addr) (kV doc pm : Value) (an : Option Addr) (ct : Value) (osl : Array (Option Value)), K.lookup f = some ⟨oc, od, .func (PySem.W.fnOf x x (defArgs st) (defBody st) (defScope st) .none kV doc pm an (.ref c) ct), osl⟩ ∧
    PySem.W.codeIn K (.ref c) x = true ∧ PySem.W.keepIn K (.ref f) = true ∧ mg x = some (.ref f) ∧ Binds K (PySem.W.fnOf x x (defArgs st) (defBody st) (defScope st) .none kV doc pm an (.ref c) ct) ps []
section
variable {P : Program} {w : World} {K : PySem.W.Frag} {Tt : List (Addr × Str)} {mg : Str → Option Value} {base : Heap} {k m c0 : Nat} {c : Addr} {x : Str} {st : Stmt} {N ps : List Str} {pre : LP K Tt → List D → Prop} {R : LP K Tt → List D → Bool → D → Prop}
theorem DefC.def (Dd : DefC K mg x st ps c) : Def K mg x st ps := by
  obtain ⟨f, oc, od, kV, doc, pm, an, ct, osl, lk, hc, hk, hm, hb⟩ := Dd.ex
  exact ⟨f, _, ⟨⟨oc, od, kV, doc, pm, an, .ref c, ct, osl, rfl, lk, hc⟩, hk⟩, hm, hb⟩
theorem DefC.raw {sp : Sp} (Dd : DefC K mg x st ps c) (S : FnScope N ps (defScope st)) (len : ∀ vs H Q E, sp vs H Q E → vs.length = ps.length)
    (h : ∀ (f : Addr) (A : Around) (outer : List PySem.Env) (s : Shared) (H : Hp) (vs : List L2.V) (Q : VK) (E : XK), Room k (A.deeper (envOfC x (defScope st) s.heap.objs.size f (.ref c))) → sp vs H Q E →
      ∃ t, PSs (cxD P w K mg base N x st f (.ref c) A outer s H E) (defBody st) t ∧ t { nx := fun _ H' => Q .non H', rt := Q } (L2.start N vs) H) : Cal P w K mg base (k + 1) x st ps sp := by
  obtain ⟨f, oc, od, kV, doc, pm, an, ct, osl, lk, hc, hk, hm, hb⟩ := Dd.ex
  exact ⟨f, _, fn_of lk hc S len fun A outer s H vs Q E hr q => h f A outer s H vs Q E hr q, hm, hk, hb, ⟨⟨oc, od, kV, doc, pm, an, .ref c, ct, osl, rfl, lk, hc⟩, hk⟩⟩
theorem DefC.okL (Dd : DefC K mg x st ps c) (S : FnScope N ps (defScope st)) (hn : m = ps.length)
    (h : ∀ (f : Addr) (A : Around) (outer : List PySem.Env) (s : Shared) (H : Hp) (E : XK), Room k (A.deeper (envOfC x (defScope st) s.heap.objs.size f (.ref c))) →
      ∃ t, PSs (cxD P w K mg base N x st f (.ref c) A outer s H E) (defBody st) t ∧ ∀ (L : LP K Tt) (W : Wd) (n : Nat) (ds : List D), W.V = L.V → W.G = L.G → W.E = E → ds.length = m → c0 ≤ n → pre L ds →
        DS t W n (startR N ds) (fun n' _ => n ≤ n' + c0 ∧ R L ds false .non) (fun n' b d => n ≤ n' + c0 ∧ R L ds b d) (fun _ _ => False) (fun _ _ => False)) : Cal P w K mg base (k + 1) x st ps (spL K Tt m c0 pre R) := by
  refine Dd.raw S (fun vs H Q E ⟨L, q⟩ => by rw [prm_len q, hn]) fun f A outer s H vs Q E hr ⟨L, q⟩ => ?_
  obtain ⟨t, ht, hd⟩ := h f A outer s H E hr
  exact ⟨t, ht, prm_body L.stab q fun W n ds w1 w2 w3 w4 hl ⟨hc, hp⟩ => (hd L W n ds w1 w2 w3 hl hc hp).impR (fun n' ρ ⟨a, b⟩ => ⟨a, _, _, rfl, b⟩) fun n' b d ⟨h1, h2⟩ => ⟨h1, _, _, rfl, h2⟩⟩
end
theorem LamD.of {X : Cx} {T : List (Addr × Str)} {x a : Str} {c P : Addr} {TT : (XK → Hp → VK → Prop) → Hp → VK → Prop} {st : Stmt} {Ng : List Str} (Dd : Def X.K X.mg x st [a]) (S : FnScope Ng [a] (defScope st)) (n0 : Ng[0]? = some a) (va : Vis (defScope st) a)
    (G : ∀ (g : Addr) (cdv : Value), LamX.GivesTo X Ng x (defScope st) g cdv (defBody st) a (X.env.qual ++ "<lambda>") TT) (TB : LamX.TabB X.base X.mg c P) (co : X.env.code = .ref c) (mem : (P, X.env.qual ++ "<lambda>") ∈ T) (only : ∀ p ∈ T, p.1 = P → p.2 = X.env.qual ++ "<lambda>") : LamD X T x a c P TT := by
  obtain ⟨f, fd, F, hm, hb⟩ := Dd.ex
  obtain ⟨oc, od, kV, doc, pm, an, cdv, ct, osl, rfl, lk, hc⟩ := F.ex
  exact ⟨⟨f, _, _, _, _, _, _, _, _, _, _, _, _, _, Ng, hm, F.kp, lk, hc, hb, S, n0, va, G f cdv⟩, TB, co, mem, only⟩
/-- in a lambda's body errors go out as the lambda's own -/
theorem passLam {X : Cx} {A : Around} {outer : List PySem.Env} {s : Shared} {H : Hp} {E : XK} {scope : Scope} {f c' : Addr} : Passes (L2.CX (LamX.lamCx X A outer s H E scope f c').prog (LamX.lamCx X A outer s H E scope f c').w) (LamX.lamCx X A outer s H E scope f c') E := passes_call (takes_of rfl rfl rfl rfl) fun _ _ _ _ h => h
/-! ### the law itself -/
def spLaw (K : PySem.W.Frag) (Tt : List (Addr × Str)) : Sp := fun vs H Q _ => ∃ (a : Addr) (ns : List Int), vs = [.ref a] ∧ SqL K H a (ns.map .int) ∧ ns.length ≤ 63 ∧ LamX.Tabs Tt H ∧ ∀ H', Q (.bl true) H'
theorem law_run {K : PySem.W.Frag} {Tt : List (Addr × Str)} {u : TS} {E : XK} {Q : VK} {H : Hp} {vs : List L2.V} {n0 n1 : Str} {N : List Str} (h : spLaw K Tt vs H Q E)
    (k : ∀ (L : LP K Tt) (W : Wd) (ns : List Int), W.V = L.V → W.G = L.G → W.E = E → ns.length ≤ 63 → (∀ n H, W.G n H → SqL K H L.a (ns.map .int)) →
      DS u W (2 ^ 30) (some (false, .raw L.a) :: some (false, .raw L.s) :: List.replicate N.length none) (fun _ _ => False) (fun _ _ d => d = .bl true) (fun _ _ => False) (fun _ _ => False)) :
    tSeq (tAsg (tCall (spBegun K) [] E (tCons (tVar 0) tNil)) (gName 1)) u { nx := fun _ H' => Q .non H', rt := Q } (L2.start (n0 :: n1 :: N) vs) H := by
  obtain ⟨a, ns, rfl, hsq, hl, hT, q⟩ := h
  obtain ⟨tr, hs⟩ := scr_of hsq
  refine ⟨_, rfl, ⟨a, ns, rfl, hsq, by omega, fun s g c gr cells H' hgr hs0 hg0 hc0 nsg nsc ngc h1 h2 h3 keep => ?_⟩⟩
  have hG : (LP.mk s g c a cells (ns.map .int) tr : LP K Tt).G (2 ^ 30) H' := by
    refine ⟨⟨gr, 0, 0, h1, h2, h3, Int.le_refl _, hgr, Int.le_refl _, by decide⟩, ?_, hT.ext keep, ngc, fun t z => ?_⟩
    · rcases hs with ⟨t, h⟩ | ⟨t, ⟨o, h⟩ | h⟩
      · exact .inl ⟨t, keep _ _ h⟩
      · exact .inr ⟨t, .inl ⟨o, keep _ _ h⟩⟩
      · exact .inr ⟨t, .inr h⟩
    · rcases hs with ⟨_, h⟩ | ⟨t', _⟩
      · have z : a = g := z
        rw [z, hg0] at h; cases h
      · exact t' t
  have st := (LP.mk s g c a cells (ns.map .int) tr : LP K Tt).stab
  obtain ⟨W, w1, w2, w3, w4, w5⟩ : ∃ W : Wd, W.V = (LP.mk s g c a cells (ns.map .int) tr : LP K Tt).V ∧ W.G = (LP.mk s g c a cells (ns.map .int) tr : LP K Tt).G ∧ W.E = E ∧ W.X0 = W.V ∧ W.H0 = H' :=
    ⟨{ V := (LP.mk s g c a cells (ns.map .int) tr : LP K Tt).V, X0 := (LP.mk s g c a cells (ns.map .int) tr : LP K Tt).V, G := (LP.mk s g c a cells (ns.map .int) tr : LP K Tt).G, H0 := H', E := E, EP := fun _ _ _ _ => False, vx := fun _ h => h, xd := fun b hb => st.vd _ _ hG b hb, vd := st.vd, stab := st.stab, hE := fun _ _ _ _ _ _ h => False.elim h }, rfl, rfl, rfl, rfl, rfl⟩
  have none_slots : ∀ (X : AP) (m : Nat), Slots X H' (List.replicate m none) (List.replicate m none) := fun X m => by
    induction m with
    | zero => exact True.intro
    | succ m ih => exact ih
  have e : Env W (2 ^ 30) [] [] (some (false, .raw a) :: some (false, .raw s) :: List.replicate N.length none) (some (.ref a) :: some (.ref s) :: List.replicate N.length none) H' :=
    env_slots ⟨.raw a, .raw s, none_slots _ _⟩ (fun b o hb _ => by rw [w5] at hb; exact hb) (by rw [w2]; exact hG)
  exact k ⟨s, g, c, a, cells, ns.map .int, tr⟩ W ns w1 w2 w3 hl (fun n H g => by rw [w2] at g; exact g.2.1.sq) [] [] _ H' e _ ⟨fun _ _ _ _ h => h.elim, fun n v d H2 hd _ _ i => (by rw [hd] at i; cases i; exact q H2), fun n a o d H2 hd _ _ _ _ ho => (by rw [hd] at ho; cases ho), fun _ _ _ _ h => h.elim, fun _ _ _ _ h => h.elim⟩
end HD

namespace HD
open PySem PySem.Spec PyProof.Rows L2
/-! ### from the head's facts -/
section
variable {K : PySem.W.Frag} {mg : Str → Option Value} {x : Str} {st : Stmt} {ps : List Str} {f : Addr} {fd : FuncData}
theorem fun_of (F : FunD K x x (defArgs st) (defBody st) (defScope st) [] [] f fd) : Fun K x x st f fd := by
  obtain ⟨oc, od, dV, kV, doc, pm, an, cdv, ct, osl, rfl, lk, hc, hD, _⟩ := F.ex
  rcases hD with ⟨_, rfl⟩ | ⟨h, _⟩
  · exact ⟨⟨oc, od, kV, doc, pm, an, cdv, ct, osl, rfl, lk, hc⟩, F.kp⟩
  · exact absurd rfl h
theorem def_of (F : FunD K x x (defArgs st) (defBody st) (defScope st) [] [] f fd) (hm : mg x = some (.ref f))
    (h : ∀ (kV doc pm : Value) (an : Option Addr) (cdv ct : Value) (us : List Value), us.length = ps.length → bindArgs (PySem.W.fnOf x x (defArgs st) (defBody st) (defScope st) .none kV doc pm an cdv ct) ⟨us, []⟩ = pure (ps.zip us)) : Def K mg x st ps := ⟨f, fd, fun_of F, hm, F.bindsN h⟩
theorem defC_of {p : Str × Option Str} (F : FunD K x x (defArgs st) (defBody st) (defScope st) [] [] (He.fAd K p) fd) (hm : mg x = some (.ref (He.fAd K p)))
    (h : ∀ (kV doc pm : Value) (an : Option Addr) (cdv ct : Value) (us : List Value), us.length = ps.length → bindArgs (PySem.W.fnOf x x (defArgs st) (defBody st) (defScope st) .none kV doc pm an cdv ct) ⟨us, []⟩ = pure (ps.zip us)) : DefC K mg x st ps (He.cT K p).1 := by
  have b := F.bindsN h
  obtain ⟨oc, od, dV, kV, doc, pm, an, cdv, ct, osl, rfl, lk, hc, hD, _⟩ := F.ex
  rcases hD with ⟨_, rfl⟩ | ⟨z, _⟩
  · obtain ⟨c, e⟩ := He.codeIn_ref hc
    subst e
    have ec : (He.cT K p).1 = c := He.codeOf_eq lk rfl
    rw [ec]
    exact ⟨_, oc, od, kV, doc, pm, an, ct, osl, lk, hc, F.kp, hm, b⟩
  · exact absurd rfl z
theorem Cal.fnok {P : Program} {w : World} {base : Heap} {k : Nat} {sp : Sp} (C : Cal P w K mg base k x st ps sp) (F : FunD K x x (defArgs st) (defBody st) (defScope st) [] [] f fd) (hm : mg x = some (.ref f)) : FnOk P w K mg base (L2.CX P w) k f fd ps sp := by
  obtain ⟨f', fd', G, hm', _, _, F'⟩ := C.ex
  rw [hm] at hm'
  cases hm'
  obtain ⟨oc, od, kV, doc, pm, an, cdv, ct, osl, e, lk, _⟩ := F'.ex
  obtain ⟨oc2, od2, dV2, kV2, doc2, pm2, an2, cdv2, ct2, osl2, e2, lk2, _⟩ := F.ex
  rw [lk] at lk2
  cases lk2
  exact G
end
/-- what isinstance asks of an error class, decided -/
theorem excC_of {K : PySem.W.Frag} {D : Addr} (h : excCB K D = true) : ExcC K D := by
  unfold excCB at h
  simp only [Bool.and_eq_true] at h
  obtain ⟨h1, h2, h3, h4, h5, h6, h7, h8⟩ := h
  exact ⟨He.eqO_ok h1, He.eqO_ok h2, of_decide_eq_true h3, h4, He.eqO_ok h5, He.eqO_ok h6, of_decide_eq_true h7, of_decide_eq_true h8⟩
theorem excT_of {K : PySem.W.Frag} {mg : Str → Option Value} {h : Heap} {x : Str} (X : K.In h) (G : h.Ns mainGlobals mg) (c1 : (He.Fa.glo x).ok K = true) (c2 : (He.Fa.exc x).ok K = true) : ExcT K mg x (He.ga K x) := by
  obtain ⟨h1, h2, h3, h4⟩ := He.exc_ok c2
  exact ⟨He.glo_ok X G c1, h1, h2, h3, h4⟩
end HD

namespace HD
open PySem PySem.Spec PyProof.Rows L2
/-! ### classes: C(..) as a promise on data -/
/-- __init__ called on a new instance; sp tells of C(..) -/
def spInit (C : Addr) (sp : Sp) : Sp := fun vs H Q E => ∃ (x dx : Addr) (vs' : List L2.V) (H1 : Hp) (Q' : VK), vs = .ref x :: vs' ∧ H1 x = none ∧ H1 dx = none ∧ dx ≠ x ∧ H = upd (upd H1 dx (.own x)) x (.ins C dx []) ∧ (∀ H2, Q' (.ref x) H2 → Q .non H2) ∧ sp vs' H1 Q' E
structure DefI (K : PySem.W.Frag) (mg : Str → Option Value) (x q : Str) (st : Stmt) (ps : List Str) (C : Addr) : Prop where
  ex : ∃ (f : Addr) (fd : FuncData), Fun K "__init__" q st f fd ∧ Mk K C f ∧ mg x = some (.ref C) ∧ Binds K fd ("self" :: ps) []
structure CalC (P : Program) (w : World) (K : PySem.W.Frag) (mg : Str → Option Value) (base : Heap) (k : Nat) (x q : Str) (st : Stmt) (ps : List Str) (C : Addr) (sp : Sp) : Prop where
  ex : ∃ (f : Addr) (fd : FuncData), FnOk P w K mg base (L2.CX P w) k f fd ("self" :: ps) (spInit C sp) ∧ Mk K C f ∧ mg x = some (.ref C) ∧ Binds K fd ("self" :: ps) [] ∧ Fun K "__init__" q st f fd
/-- within __init__: the new instance at x has the fields ns with the data l -/
def DSI (x dx C : Addr) (t : TS) (W : Wd) (n : Nat) (ρ : Rho) (ns : List Str) (l : List D) (P : Nat → Rho → List Str → List D → Prop) : Prop :=
  ∀ (T : TL) (σ : L2.St) (H : Hp) (fs : List (Str × L2.V)), Env W n [(x, .ins C dx fs)] T ρ σ H → fs.map (·.1) = ns → IsAll (XX W [(x, .ins C dx fs)] ρ σ) H (fs.map (·.2)) l →
    ∀ De : Ends, (∀ (n' : Nat) (ρ' : Rho) (σ' : L2.St) (H' : Hp) (fs' : List (Str × L2.V)) (ns' : List Str) (l' : List D), P n' ρ' ns' l' → Env W n' [(x, .ins C dx fs')] T ρ' σ' H' → fs'.map (·.1) = ns' → IsAll (XX W [(x, .ins C dx fs')] ρ' σ') H' (fs'.map (·.2)) l' → De.nx σ' H') → t De σ H
section
variable {x dx C : Addr} {W : Wd} {n : Nat} {ρ : Rho} {ns : List Str} {l : List D} {P : Nat → Rho → List Str → List D → Prop} {t u : TS} {te : TE} {f : Str} {K : PySem.W.Frag}
theorem putF_new {f : Str} {v : L2.V} : ∀ {fs : List (Str × L2.V)}, f ∉ fs.map (·.1) → putF f v fs = fs ++ [(f, v)]
  | [], _ => rfl
  | (g, y) :: r, h => by
    have h1 : g ≠ f := fun z => h (by rw [z]; exact List.mem_cons_self)
    have h2 : f ∉ r.map (·.1) := fun z => h (List.mem_cons_of_mem _ z)
    show (if g = f then (g, v) :: r else (g, y) :: putF f v r) = (g, y) :: (r ++ [(f, v)])
    rw [if_neg h1, putF_new h2]
theorem dsi_do (h : DS t W n ρ (fun n ρ' => DSI x dx C u W n ρ' ns l P) (fun _ _ _ => False) (fun _ _ => False) (fun _ _ => False)) : DSI x dx C (tSeq t u) W n ρ ns l P := fun T σ H fs e hk ha De k =>
  h [(x, .ins C dx fs)] (zipT (fs.map (·.2)) l ++ T) σ H (e.pushAll ha) _ ⟨fun n' ρ' σ' H' q e' => q T σ' H' fs e'.popAll hk (e'.topAll ha.len) De k, fun _ _ _ _ h => h.elim, fun _ _ _ _ _ h => h.elim, fun _ _ _ _ h => h.elim, fun _ _ _ _ h => h.elim⟩
theorem dsi_seq (h : DSI x dx C t W n ρ ns l fun n' ρ' ns' l' => DSI x dx C u W n' ρ' ns' l' P) : DSI x dx C (tSeq t u) W n ρ ns l P := fun T σ H fs e hk ha De k =>
  h T σ H fs e hk ha _ fun n' ρ' σ' H' fs' ns' l' q e' hk' ha' => q T σ' H' fs' e' hk' ha' De k
/-- self.f = e -/
theorem dsi_fld (h0 : ρ[0]? = some (some (false, .raw x))) (c : Cls K C) (na : NoAttr K C f) (hf : f ∉ ns) (hl : l.length < 900) (h : DE te W n ρ fun n' d => P n' ρ (ns ++ [f]) (l ++ [d])) : DSI x dx C (sFld K (tVar 0) te f) W n ρ ns l P := fun T σ H fs e hk ha De k =>
  h [(x, .ins C dx fs)] (zipT (fs.map (·.2)) l ++ T) σ H (e.pushAll ha) _ fun n' v d H' p e' iv => by
    obtain ⟨v0, s0, i0⟩ := e'.sh 0 _ h0
    cases i0
    have ha' := e'.topAll ha.len
    have hfs : fs.length = l.length := by have := ha.len; rw [List.length_map] at this; exact this
    have hz := (e'.z (x, .ins C dx fs) List.mem_cons_self).1
    refine ⟨.ref x, s0, x, C, dx, fs, rfl, hz, c, na, by omega, ?_⟩
    have hpf : putF f v fs = fs ++ [(f, v)] := putF_new (by rw [hk]; exact hf)
    have e2 : Env W n' [(x, .ins C dx fs)] (zipT (fs.map (·.2) ++ [v]) (l ++ [d]) ++ T) ρ σ H' := by
      have ee := (e'.popAll).pushAll (ha'.snoc iv)
      exact ee
    have e3 := e2.zput (o' := .ins C dx (fs ++ [(f, v)])) (by exact fun h => h)
    have hm : (fs ++ [(f, v)]).map (·.2) = fs.map (·.2) ++ [v] := by rw [List.map_append]; rfl
    have hl3 : (fs.map (·.2) ++ [v]).length = (l ++ [d]).length := (ha'.snoc iv).len
    rw [hpf]
    refine k n' ρ σ _ _ _ _ p e3.popAll (by rw [List.map_append, hk]; rfl) ?_
    rw [hm]
    exact e3.topAll hl3
end
section
variable {P : Program} {w : World} {K : PySem.W.Frag} {mg : Str → Option Value} {base : Heap} {k m : Nat} {x q : Str} {st : Stmt} {N ps : List Str} {C : Addr} {V : AP} {G : Nat → Hp → Prop} {pre : Nat → List D → Prop} {post : Nat → List D → Nat → Out → Prop}
theorem init_body {N : List Str} {vs : List L2.V} {H : Hp} {Q : VK} {E : XK} {t : TS} {n0 : Str} (S : Stab V G) (h : spInit C (Prm m V G pre post) vs H Q E)
    (k : ∀ (x dx : Addr) (W : Wd) (n : Nat) (ds : List D), W.V = V → W.G = G → W.E = E → W.EP = (fun n' C ns l => post n ds n' (.exc C ns l)) → ds.length = m → pre n ds →
      DSI x dx C t W n (some (false, .raw x) :: startR N ds) [] [] (fun n' _ ns l => post n ds n' (.ret true (.ins C ns l)))) :
    t { nx := fun _ H' => Q .non H', rt := Q } (L2.start (n0 :: N) vs) H := by
  obtain ⟨x, dx, vs', H1, Q', rfl, hx, hdx, hne, rfl, hQ, X, ds, n, hVX, hX, hG, hi, hl, hp, k1, k2, k3⟩ := h
  have W0 : ∃ W : Wd, W.V = V ∧ W.X0 = X ∧ W.G = G ∧ W.H0 = H1 ∧ W.E = E ∧ W.EP = (fun n' C ns l => post n ds n' (.exc C ns l)) := ⟨{ V := V, X0 := X, G := G, H0 := H1, E := E, EP := fun n' C ns l => post n ds n' (.exc C ns l), vx := hVX, xd := hX, vd := S.vd, stab := S.stab, hE := fun n' C ns l od H' p f g x => k3 n' C ns l od H' p f g x }, rfl, rfl, rfl, rfl, rfl, rfl⟩
  obtain ⟨W, w1, w2, w3, w4, w5, w6⟩ := W0
  have hlen := hi.len
  have gR : ∀ (i : Nat) (b : Bool) (d : D), (startR N ds)[i]? = some (some (b, d)) → b = false ∧ ds[i]? = some d := fun i b d q => by
    unfold startR at q
    rw [List.getElem?_append, List.length_map, List.getElem?_map] at q
    by_cases h : i < ds.length
    · rw [if_pos h] at q
      cases r : ds[i]? with
      | none => rw [r] at q; cases q
      | some d' => rw [r] at q; cases q; exact ⟨rfl, rfl⟩
    · rw [if_neg h, List.getElem?_replicate] at q
      split at q <;> cases q
  have no : ∀ (i : Nat) (d : D), ((some (false, D.raw x) : Option (Bool × D)) :: startR N ds)[i]? ≠ some (some (true, d)) := fun i d q => by
    cases i with
    | zero => cases q
    | succ i =>
      have := (gR i true d q).1
      cases this
  have noo : ∀ a, ¬ Own (some (false, .raw x) :: startR N ds) (L2.start (n0 :: N) (.ref x :: vs')) a := fun a ⟨i, d, q, _⟩ => no i d q
  have m : Mv X H1 (XX W [] (some (false, .raw x) :: startR N ds) (L2.start (n0 :: N) (.ref x :: vs'))) H1 := fun a o q hx => ⟨q, fun x => by
    rcases x with x | x | ⟨o, x⟩
    · rw [w2] at x; exact hx x
    · exact noo a x
    · cases x⟩
  have e : Env W n [] [] (some (false, .raw x) :: startR N ds) (L2.start (n0 :: N) (.ref x :: vs')) H1 := by
    refine ⟨?_, fun i d q => ?_, fun i d q => absurd q (no i d), fun i j d1 d2 a q1 => absurd q1 (no i d1), fun p hp => (nomatch hp), List.nodup_nil, fun p hp => (nomatch hp), fun a o h1 h2 => ?_, by rw [w3]; exact hG⟩
    · unfold L2.start startR
      simp [hlen]
    · cases i with
      | zero =>
        cases q
        exact ⟨.ref x, rfl, .raw x⟩
      | succ i =>
        obtain ⟨_, q⟩ := gR i false d q
        obtain ⟨v, h1, h2⟩ := hi.got q
        refine ⟨v, ?_, h2.mv m⟩
        have hlt : i < vs'.length := (List.getElem?_eq_some_iff.mp h1).1
        rw [start_get, if_pos (by simp; exact hlt), List.getElem?_cons_succ, h1]; rfl
    · rw [w4] at h1; exact h1
  have e1 := e.new (p := dx) (o := .own x) hdx
  have hx1 : (upd H1 dx (.own x)) x = none := by rw [upd_ne (Ne.symm hne)]; exact hx
  have e2 := e1.lay (p := x) (o := .ins C dx []) hx1
  refine k x dx W n ds w1 w3 w5 w6 hl hp [] _ _ [] e2 rfl .nil _ fun n' ρ' σ' H' fs' ns' l' p e' hk ha => hQ H' (k2 n' x (.ins C dx fs') (.ins C ns' l') H' p ?_ ?_ hx ?_ ?_)
  · have f := e'.fr
    rw [w1, w4] at f
    exact f
  · have g := e'.g
    rw [w3] at g
    exact g
  · exact (e'.z (x, .ins C dx fs') List.mem_cons_self).1
  · refine .ins hk (ha.mv (fun b o q hx => ⟨q, fun z => hx ?_⟩) _)
    rcases z with z | z
    · exact .inl (by rw [w2]; exact z)
    · exact .inr (.inr ⟨_, by rw [z]; exact List.mem_cons_self⟩)
theorem DefI.ok {n0 : Str} (Dd : DefI K mg x q st ps C) (S : FnScope (n0 :: N) ("self" :: ps) (defScope st)) (hn : m = ps.length) (ST : Stab V G)
    (h : ∀ (f : Addr) (cdv : Value) (A : Around) (outer : List PySem.Env) (s : Shared) (H : Hp) (E : XK), Room k (A.deeper (envOfC q (defScope st) s.heap.objs.size f cdv)) →
      ∃ t, PSs (cxD P w K mg base (n0 :: N) q st f cdv A outer s H E) (defBody st) t ∧ ∀ (x dx : Addr) (W : Wd) (n : Nat) (ds : List D), W.V = V → W.G = G → W.E = E → W.EP = (fun n' C ns l => post n ds n' (.exc C ns l)) → ds.length = m → pre n ds →
        DSI x dx C t W n (some (false, .raw x) :: startR N ds) [] [] (fun n' _ ns l => post n ds n' (.ret true (.ins C ns l)))) : CalC P w K mg base (k + 1) x q st ps C (Prm m V G pre post) := by
  obtain ⟨f, fd, F, M, hm, hb⟩ := Dd.ex
  refine ⟨f, fd, F.okX S (fun vs H Q E ⟨x, dx, vs', H1, Q', h, _, _, _, _, _, p⟩ => by rw [h, List.length_cons, prm_len p, hn]; rfl) fun cdv A outer s H vs Q E hr hq => ?_, M, hm, hb, F⟩
  obtain ⟨t, ht, hd⟩ := h f cdv A outer s H E hr
  exact ⟨t, ht, init_body ST hq hd⟩
end
section
variable {X : Cx} {k : Nat} {x q : Str} {st : Stmt} {ps : List Str} {C : Addr} {sp : Sp} {E : XK} {p pos : Pos} {e : Expr} {es : List Expr} {t : TA}
theorem PE.imp {X : Cx} {e : Expr} {t t' : TE} (h : PE X e t) (k : ∀ σ H Q, t' σ H Q → t σ H Q) : PE X e t' := ⟨fun pins s σ H Q I q => h.run pins s σ H Q I (k σ H Q q)⟩
/-- C(e, ..) -/
theorem pe_mk (Cc : CalC X.prog X.w X.K X.mg X.base k x q st ps C sp) (hr : Room (k + 1) X.A) (hx : Passes (L2.CX X.prog X.w) X E) (hg : Gl X x) (ha : PA X (e :: es) t) (hdb : (x == ("__debug__" : Str)) = false := by decide)
    (he : starEach (e :: es) X.env = (false, eval e X.env) :: starEach es X.env := by rfl) (hpl : (backTo pos (starEach es X.env)).any (·.1) = false := by rfl) : PE X (.Call (.Name x p) (e :: es) [] pos) (tCall sp [] E t) := by
  obtain ⟨f, fd, F, M, hm, hb, _⟩ := Cc.ex
  refine ⟨fun pins s σ H Q I h => ?_⟩
  refine wpAny_Call_Name_kw (ld_glob I hg hm ?_ hdb)
  refine PySem.W.callWith_K (h₀ := X.base) I.ok.mod.kin M.kp (thn (ha.run pos pins s σ H _ I h) fun us s1 ⟨vs, H1, I1, r, q⟩ => ⟨I1.kIn, ?_⟩) he hpl
  refine run_make M F hr hb .nil hx I1 r fun x dx h1 h2 h3 => ?_
  exact ⟨x, dx, vs ++ [], H1, Q, rfl, h1, h2, h3, rfl, fun H2 q => ⟨rfl, q⟩, q⟩
end
end HD

namespace HD
open PySem PySem.Spec PyProof.Rows L2
/-! ### slots forgotten at once -/
inductive Rfn : Rho → Rho → Prop
  | nil : Rfn [] []
  | keep {a : Option (Bool × D)} {r r' : Rho} : Rfn r r' → Rfn (a :: r) (a :: r')
  | skip {a : Option (Bool × D)} {r r' : Rho} : Rfn r r' → Rfn (a :: r) (none :: r')
theorem Rfn.len {r r' : Rho} (h : Rfn r r') : r'.length = r.length := by
  induction h with
  | nil => rfl
  | keep _ ih => simp [ih]
  | skip _ ih => simp [ih]
theorem Rfn.get {r r' : Rho} (h : Rfn r r') : ∀ (i : Nat) (s : Bool × D), r'[i]? = some (some s) → r[i]? = some (some s) := by
  induction h with
  | nil => intro i s e; simp at e
  | keep _ ih =>
    intro i s e
    cases i with
    | zero => simpa using e
    | succ i => simpa using ih i s (by simpa using e)
  | skip _ ih =>
    intro i s e
    cases i with
    | zero => simp at e
    | succ i => simpa using ih i s (by simpa using e)
theorem Rfn.refl : ∀ (r : Rho), Rfn r r
  | [] => .nil
  | _ :: r => .keep (Rfn.refl r)
section
variable {W : Wd} {n : Nat} {Z : ZL} {T : TL} {ρ ρ0 : Rho} {σ : L2.St} {H : Hp} {N N' : Nat → Rho → Prop} {R : Nat → Bool → D → Prop} {B C : Nat → Rho → Prop} {t u : TS} {te ta tb : TE} {tt : TT} {d : D} {K : PySem.W.Frag} {P : Nat → D → Prop}
theorem Env.rfn (e : Env W n Z T ρ σ H) (h : Rfn ρ ρ0) : Env W n Z T ρ0 σ H := by
  have own : ∀ a, Own ρ0 σ a → Own ρ σ a := fun a ⟨i, d, q1, q2⟩ => ⟨i, d, h.get i _ q1, q2⟩
  have m : Mv (XX W Z ρ σ) H (XX W Z ρ0 σ) H := fun a o q hx => ⟨q, fun x => hx (by
    rcases x with x | x | x
    · exact .inl x
    · exact .inr (.inl (own a x))
    · exact .inr (.inr x))⟩
  refine ⟨by rw [h.len]; exact e.len, fun i d q => ?_, fun i d q => ?_, fun i j d1 d2 a q1 q2 => e.inj i j d1 d2 a (h.get i _ q1) (h.get j _ q2), e.z, e.zn, fun p hp => (e.t p hp).mv m, e.fr, e.g⟩
  · obtain ⟨v, h1, h2⟩ := e.sh i d (h.get i _ q)
    exact ⟨v, h1, h2.mv m⟩
  · obtain ⟨a, o, h1, h2, h3, h4⟩ := e.ow i d (h.get i _ q)
    exact ⟨a, o, h1, h2, h3.mv m, h4⟩
theorem ds_rfn (h : Rfn ρ ρ0) (k : DS t W n ρ0 N R B C) : DS t W n ρ N R B C := fun Z T σ H e De f => k Z T σ H (e.rfn h) De f
theorem dgx {g : TG} {S : List Nat} {P : Rho → Prop} (h : DG g S d W ρ P) : ∃ S, DG g S d W ρ P := ⟨S, h⟩
theorem ds_asgx {g : TG} (h : DE te W n ρ fun n d => ∃ S, DG g S d W ρ (N n)) : DS (tAsg te g) W n ρ N R B C := fun Z T σ H e De f =>
  h Z T σ H e _ fun n v d H' p e' i => by
    obtain ⟨S, p⟩ := p
    exact p n Z T σ H' v e' i _ fun ρ' σ' q e2 _ => f.nx n ρ' σ' H' q e2
/-- a for, told by what is left of the items; LW tells the slots exactly -/
theorem ds_forR {wi : TI} {g : TG} {LW : List D → Nat → Rho → Prop} (h : DI wi W n ρ fun n ds => ∃ ρ0, Rfn ρ ρ0 ∧ LW ds n ρ0)
    (cons : ∀ d r n ρ', LW (d :: r) n ρ' → ∃ S, DG g S d W ρ' fun ρ2 => DS t W n ρ2 (fun n ρ3 => ∃ ρ4, Rfn ρ3 ρ4 ∧ LW r n ρ4) R N (fun n ρ3 => ∃ ρ4, Rfn ρ3 ρ4 ∧ LW r n ρ4)) (nil : ∀ n ρ', LW [] n ρ' → N n ρ') :
    DS (tFor wi g t) W n ρ N R B C := fun Z T σ H e De f =>
  h Z T σ H e _ fun n J ds T0 H' ⟨ρ0, r0, h0⟩ e' ok => by
    refine ⟨fun i m σ H => m = ds.length - i ∧ i ≤ ds.length ∧ ∃ n ρ', LW (ds.drop i) n ρ' ∧ Env W n Z (T0 ++ T) ρ' σ H, ⟨_, rfl, Nat.zero_le _, n, ρ0, h0, e'.rfn r0⟩, ?_⟩
    rintro i m σ' H2 ⟨rfl, hi, n, ρ', hI, e2⟩
    have o := ok n Z (T0 ++ T) ρ' σ' H2 (fun p hp => List.mem_append_left _ hp) e2 i
    by_cases hlt : i < ds.length
    · refine .inr ⟨(o.1 hlt).1, fun σ3 H3 => ∃ n ρ3, LW (ds.drop (i + 1)) n ρ3 ∧ Env W n Z (T0 ++ T) ρ3 σ3 H3, fun σ3 H3 ⟨n, ρ3, h3, e3⟩ => ⟨ds.length - (i + 1), by omega, rfl, hlt, n, ρ3, h3, e3⟩, fun x H3 y => ?_⟩
      obtain ⟨d, hd', e3⟩ := (o.1 hlt).2 x H3 y
      have hdr : ds.drop i = d :: ds.drop (i + 1) := by
        rw [List.drop_eq_getElem_cons hlt]
        rw [List.getElem?_eq_getElem hlt] at hd'
        rw [Option.some.inj hd']
      rw [hdr] at hI
      obtain ⟨S, hDG⟩ := cons d _ n ρ' hI
      refine hDG n Z (T0 ++ T) σ' H3 x e3.pop1 e3.top _ fun ρ4 σ4 p4 e4 _ => ?_
      exact p4 Z (T0 ++ T) σ4 H3 e4 _ ⟨fun n ρ5 σ5 H5 ⟨ρ6, r6, n5⟩ e5 => ⟨n, ρ6, n5, e5.rfn r6⟩, f.rt, f.rf, fun n ρ5 σ5 H5 n5 e5 => f.nx n ρ5 σ5 H5 n5 e5.popAll, fun n ρ5 σ5 H5 ⟨ρ6, r6, n5⟩ e5 => ⟨n, ρ6, n5, e5.rfn r6⟩⟩
    · have e1 : i = ds.length := by omega
      subst e1
      rw [List.drop_length] at hI
      exact .inl ⟨o.2 (Nat.le_refl _), f.nx n ρ' σ' H2 (nil n ρ' hI) e2.popAll⟩
theorem ds_whileR (LW : Nat → Nat → Rho → Prop) (m0 : Nat) (h0 : ∃ ρ0, Rfn ρ ρ0 ∧ LW m0 n ρ0) (hs : ∀ m n ρ', LW m n ρ' → DT tt W n ρ' fun n b => (b = true → DS t W n ρ' (fun n r => ∃ m', m' < m ∧ ∃ r0, Rfn r r0 ∧ LW m' n r0) R N (fun n r => ∃ m', m' < m ∧ ∃ r0, Rfn r r0 ∧ LW m' n r0)) ∧ (b = false → N n ρ')) :
    DS (tWhile tt t) W n ρ N R B C := fun Z T σ H e De f => by
  obtain ⟨ρ0, r0, h0⟩ := h0
  refine (ds_while (fun m n r => LW m n r) m0 h0 fun m n ρ' hI => (hs m n ρ' hI).imp fun n b p => ⟨fun hb => ?_, p.2⟩) Z T σ H (e.rfn r0) De f
  intro Z T σ H e De f
  exact p.1 hb Z T σ H e De ⟨fun n ρ σ H ⟨m', hm, r1, q1, q2⟩ e => f.nx n r1 σ H ⟨m', hm, q2⟩ (e.rfn q1), f.rt, f.rf, f.bk, fun n ρ σ H ⟨m', hm, r1, q1, q2⟩ e => f.ct n r1 σ H ⟨m', hm, q2⟩ (e.rfn q1)⟩
/-! ### two new objects at once -/
def oVs : HO → List L2.V
  | .lst xs => xs
  | .dK kvs => kvs.map (·.2)
  | .ins _ _ fs => fs.map (·.2)
  | _ => []
def dVs : D → List D
  | .lst l => l
  | .dic _ l => l
  | .ins _ _ l => l
  | _ => []
theorem Ob.all {X : AP} {o : HO} : Ob X H o d → IsAll X H (oVs o) (dVs d)
  | .lst h => h
  | .dic _ h => h
  | .ins _ h => h
theorem Ob.re {X X' : AP} {H' : Hp} {o : HO} : Ob X H o d → IsAll X' H' (oVs o) (dVs d) → Ob X' H' o d
  | .lst _, k => .lst k
  | .dic e _, k => .dic e k
  | .ins e _, k => .ins e k
/-- a, b = new, new -/
theorem ds_par_oo {i j : Nat} (h : DF ta W n ρ fun n d1 => DF tb W n ρ fun n d2 => N n ((ρ.set i (some (true, d1))).set j (some (true, d2)))) : DS (tPar i j (tCons ta (tCons tb tNil))) W n ρ N R B C := fun Z T σ H e De f =>
  h Z T σ H e _ fun n a o d1 H1 p1 e1 ho => p1 ((a, o) :: Z) (zipT (oVs o) (dVs d1) ++ T) σ H1 (e1.pushAll ho.all) _ fun n b o2 d2 H2 p2 e2 ho2 => by
    have hl := ho.all.len
    have i1 := e2.topAll hl
    have hoo : Ob (XX W ((b, o2) :: (a, o) :: Z) ρ σ) H2 o d1 := ho.re i1
    -- first b, then a
    have sw : Env W n ((a, o) :: (b, o2) :: Z) T ρ σ H2 := by
      have q := e2.popAll
      have mem : ∀ p, p ∈ (a, o) :: (b, o2) :: Z ↔ p ∈ (b, o2) :: (a, o) :: Z := fun p => by simp only [List.mem_cons]; constructor <;> (rintro (h | h | h) <;> simp_all)
      have xx : ∀ c, XX W ((a, o) :: (b, o2) :: Z) ρ σ c → XX W ((b, o2) :: (a, o) :: Z) ρ σ c := fun c x => by
        rcases x with x | x | ⟨u, x⟩
        · exact .inl x
        · exact .inr (.inl x)
        · exact .inr (.inr ⟨u, (mem _).mp x⟩)
      have m : Mv (XX W ((b, o2) :: (a, o) :: Z) ρ σ) H2 (XX W ((a, o) :: (b, o2) :: Z) ρ σ) H2 := fun c u q hx => ⟨q, fun x => hx (xx c x)⟩
      have nd := q.zn
      refine ⟨q.len, fun i d h => ?_, fun i d h => ?_, q.inj, fun p hp => q.z p ((mem p).mp hp), ?_, fun p hp => (q.t p hp).mv m, q.fr, q.g⟩
      · obtain ⟨v, h1, h2⟩ := q.sh i d h
        exact ⟨v, h1, h2.mv m⟩
      · obtain ⟨c, u, h1, h2, h3, h4, h5⟩ := q.ow i d h
        exact ⟨c, u, h1, h2, h3.mv m, h4, fun ⟨o', z⟩ => h5 ⟨o', (mem _).mp z⟩⟩
      · simp only [List.map_cons, List.nodup_cons, List.mem_cons, not_or] at nd ⊢
        exact ⟨⟨fun z => nd.1.1 z.symm, nd.2.1⟩, nd.1.2, nd.2.2⟩
    have mab : Mv (XX W ((b, o2) :: (a, o) :: Z) ρ σ) H2 (XX W ((a, o) :: (b, o2) :: Z) ρ σ) H2 := fun c u q hx => ⟨q, fun x => hx (by
      rcases x with x | x | ⟨u', x⟩
      · exact .inl x
      · exact .inr (.inl x)
      · refine .inr (.inr ⟨u', ?_⟩)
        simp only [List.mem_cons] at x ⊢
        rcases x with x | x | x <;> simp_all)⟩
    have sw2 : Env W n ((a, o) :: (b, o2) :: Z) (zipT (oVs o2) (dVs d2) ++ T) ρ σ H2 := sw.pushAll (ho2.all.mv mab _)
    have t1 := sw2.take (i := i) (hoo.mv mab)
    have t2 := t1.take (i := j) (ho2.re (t1.topAll ho2.all.len))
    exact ⟨.ref a, .ref b, rfl, f.nx _ _ _ _ p2 t2.popAll⟩
/-- a, b = new, e -/
theorem ds_par_os {i j : Nat} (h : DF ta W n ρ fun n d1 => DE tb W n ρ fun n d2 => N n ((ρ.set i (some (true, d1))).set j (some (false, d2)))) : DS (tPar i j (tCons ta (tCons tb tNil))) W n ρ N R B C := fun Z T σ H e De f =>
  h Z T σ H e _ fun n a o d1 H1 p1 e1 ho => p1 ((a, o) :: Z) (zipT (oVs o) (dVs d1) ++ T) σ H1 (e1.pushAll ho.all) _ fun n v d2 H2 p2 e2 iv => by
    have hl := ho.all.len
    have i1 := e2.topAll hl
    have hoo : Ob (XX W ((a, o) :: Z) ρ σ) H2 o d1 := ho.re i1
    have e3 : Env W n ((a, o) :: Z) ((v, d2) :: T) ρ σ H2 := (e2.popAll).push iv
    have t1 := e3.take (i := i) hoo
    have t2 := t1.set (i := j) t1.top
    exact ⟨.ref a, v, rfl, f.nx _ _ _ _ p2 t2.pop1⟩
/-- a, b = e, new -/
theorem ds_par_so {i j : Nat} (h : DE ta W n ρ fun n d1 => DF tb W n ρ fun n d2 => N n ((ρ.set i (some (false, d1))).set j (some (true, d2)))) : DS (tPar i j (tCons ta (tCons tb tNil))) W n ρ N R B C := fun Z T σ H e De f =>
  h Z T σ H e _ fun n v d1 H1 p1 e1 iv => p1 Z ((v, d1) :: T) σ H1 (e1.push iv) _ fun n a o d2 H2 p2 e2 ho => by
    -- the shared one first: it is not the pending object's
    have e3 : Env W n ((a, o) :: Z) (zipT (oVs o) (dVs d2) ++ ((v, d1) :: T)) ρ σ H2 := e2.pushAll ho.all
    have t1 := e3.set (i := i) (e3.popAll).top
    have hoo : Ob (XX W ((a, o) :: Z) (ρ.set i (some (false, d1))) (σ.set i (some v))) H2 o d2 := ho.re (t1.topAll ho.all.len)
    have t2 := t1.take (i := j) hoo
    exact ⟨v, .ref a, rfl, f.nx _ _ _ _ p2 (t2.popAll).pop1⟩
/-- a, b, c = e, new, new -/
theorem ds_par3_soo {i j l : Nat} {tc : TE} (hjl : l ≠ j) (h : DE ta W n ρ fun n d1 => DF tb W n ρ fun n d2 => DF tc W n ρ fun n d3 => N n (((ρ.set i (some (false, d1))).set j (some (true, d2))).set l (some (true, d3)))) : DS (tPar3 i j l (tCons ta (tCons tb (tCons tc tNil)))) W n ρ N R B C := fun Z T σ H e De f =>
  h Z T σ H e _ fun n v d1 H1 p1 e1 iv => p1 Z ((v, d1) :: T) σ H1 (e1.push iv) _ fun n a o d2 H2 p2 e2 ho => p2 ((a, o) :: Z) (zipT (oVs o) (dVs d2) ++ ((v, d1) :: T)) σ H2 (e2.pushAll ho.all) _ fun n b o2 d3 H3 p3 e3 ho2 => by
    have hl := ho.all.len
    have e4 : Env W n ((b, o2) :: (a, o) :: Z) (zipT (oVs o2) (dVs d3) ++ (zipT (oVs o) (dVs d2) ++ ((v, d1) :: T))) ρ σ H3 := e3.pushAll ho2.all
    have t1 := e4.set (i := i) (e4.popAll.popAll).top
    have t2 := t1.take (i := l) (ho2.re (t1.topAll ho2.all.len))
    have t3 := t2.take (i := j) (ho.re (t2.popAll.topAll hl))
    have q := (t3.popAll.popAll).pop1
    rw [List.set_comm _ _ hjl, List.set_comm _ _ hjl] at q
    exact ⟨v, .ref a, .ref b, rfl, f.nx _ _ _ _ p3 q⟩
/-! ### dicts -/
def keyIn (ks : List Key) (k : Key) : Bool := ks.any fun x => decide (x = k)
theorem keyIn_iff {ks : List Key} {k : Key} : keyIn ks k = true ↔ k ∈ ks := by
  unfold keyIn
  rw [List.any_eq_true]
  exact ⟨fun ⟨x, h1, h2⟩ => by rw [← of_decide_eq_true h2]; exact h1, fun h => ⟨k, h, decide_eq_true rfl⟩⟩
def putL : List Key → List D → Key → D → List D
  | k' :: ks, x :: l, k, d => (if k' = k then d else x) :: putL ks l k d
  | _, l, _, _ => l
def putD (ks : List Key) (l : List D) (k : Key) (d : D) : List Key × List D := if keyIn ks k = true then (ks, putL ks l k d) else (ks ++ [k], l ++ [d])
theorem putL_all {X : AP} {k : Key} {v : L2.V} (hv : Is X H v d) : ∀ {kvs : List (Key × L2.V)} {l : List D}, IsAll X H (kvs.map (·.2)) l → IsAll X H ((kvs.map fun kv => if kv.1 = k then (kv.1, v) else kv).map (·.2)) (putL (kvs.map (·.1)) l k d)
  | [], _, h => by
    cases h
    exact .nil
  | (k', w) :: kvs, _, .cons (d := x) (ds := l) h t => by
    have ih := putL_all (k := k) hv t
    by_cases q : k' = k
    · simp only [List.map_cons, putL, if_pos q]
      exact .cons hv ih
    · simp only [List.map_cons, putL, if_neg q]
      exact .cons h ih
theorem keys_same {k : Key} {v : L2.V} : ∀ {kvs : List (Key × L2.V)}, (kvs.map fun kv => if kv.1 = k then (kv.1, v) else kv).map (·.1) = kvs.map (·.1)
  | [] => rfl
  | (k', w) :: kvs => by
    have ih := keys_same (k := k) (v := v) (kvs := kvs)
    by_cases q : k' = k
    · simp only [List.map_cons, if_pos q, ih]
    · simp only [List.map_cons, if_neg q, ih]
theorem any_keys {k : Key} : ∀ {kvs : List (Key × L2.V)}, (kvs.any fun kv => decide (kv.1 = k)) = keyIn (kvs.map (·.1)) k
  | [] => rfl
  | (k', w) :: kvs => by
    show (decide (k' = k) || _) = (decide (k' = k) || _)
    rw [any_keys]; rfl
theorem put_all {X : AP} {k : Key} {v : L2.V} (hv : Is X H v d) {kvs : List (Key × L2.V)} {l : List D} (h : IsAll X H (kvs.map (·.2)) l) : (putK kvs k v).map (·.1) = (putD (kvs.map (·.1)) l k d).1 ∧ IsAll X H ((putK kvs k v).map (·.2)) (putD (kvs.map (·.1)) l k d).2 := by
  unfold putK putD
  rw [any_keys]
  by_cases q : keyIn (kvs.map (·.1)) k = true
  · rw [if_pos q, if_pos q]
    exact ⟨keys_same, putL_all hv h⟩
  · rw [if_neg q, if_neg q, List.map_append, List.map_append]
    exact ⟨rfl, h.append (.cons hv .nil)⟩
theorem own_dic {i : Nat} {ks : List Key} {ds : List D} (e : Env W n Z T ρ σ H) (h : ρ[i]? = some (some (true, .dic ks ds))) : ∃ a kvs, σ[i]? = some (some (.ref a)) ∧ H a = some (.dK kvs) ∧ kvs.map (·.1) = ks ∧ IsAll (XX W Z ρ σ) H (kvs.map (·.2)) ds := by
  obtain ⟨a, o, h1, h2, h3, _⟩ := e.ow i _ h
  cases h3 with
  | dic e q => exact ⟨a, _, h1, h2, e, q⟩
/-- d[k] = e, d a slot's own -/
theorem ds_dput {i : Nat} {ks : List Key} {ds : List D} {ty tv : TE} (h : ρ[i]? = some (some (true, .dic ks ds))) (k : DE tv W n ρ fun n d1 => DE ty W n ρ fun n d2 => ∃ key, d2 = kD key ∧ ks.length < sizeLine ∧ N n (ρ.set i (some (true, .dic (putD ks ds key d1).1 (putD ks ds key d1).2)))) :
    DS (sDPut (tVar i) ty tv) W n ρ N R B C := fun Z T σ H e De f =>
  k Z T σ H e _ fun n v d1 H1 p1 e1 iv => by
    obtain ⟨a, kvs, s1, h1, hk, ha⟩ := own_dic e1 h
    refine ⟨.ref a, s1, p1 Z ((v, d1) :: T) σ H1 (e1.push iv) _ fun n y d2 H2 ⟨key, ed, hl, q⟩ e2 iy => ?_⟩
    subst ed
    have ey := isw_kD (.inl iy)
    subst ey
    obtain ⟨a', kvs2, s2, h2, hk2, ha2⟩ := own_dic e2 h
    rw [s1] at s2; cases s2
    subst hk2
    have pp := put_all (k := key) e2.top ha2
    have hlen : kvs2.length < sizeLine := by rw [List.length_map] at hl; exact hl
    exact ⟨a, _, rfl, DPut.k h2 hlen, f.nx _ _ _ _ q ((e2.put h s1 (.dic pp.1 pp.2)).pop1)⟩
theorem valV_some : ∀ {kvs : List (Key × L2.V)} {k : Key}, (valV kvs k).isSome = keyIn (kvs.map (·.1)) k
  | [], k => by simp [valV, keyIn]
  | (k', v) :: r, k => by
    by_cases h : k' = k
    · subst h
      rw [valV_pos rfl]; simp [keyIn]
    · rw [valV_neg h, valV_some]
      simp [keyIn, h]
theorem r_inDic {ks : List Key} {ds : List D} {k : Key} {d1 : D} (e1 : d1 = kD k) (p : P n (.bl (keyIn ks k))) : DR (rInU K) W n ρ d1 (.dic ks ds) P := dr_orr (dr_orr (dr_orr fun Z T σ H v1 v2 e i1 i2 Q q => by
  subst e1
  obtain ⟨a, kvs, rfl, ha, hk, h1⟩ := isw_dic i2
  subst hk
  have ev := isw_kD i1
  subst ev
  refine ⟨a, _, rfl, DGet.k ha, ?_⟩
  rw [valV_some]
  exact q _ _ _ H p e (.bl _)))
theorem r_notInDic {ks : List Key} {ds : List D} {k : Key} {d1 : D} (e1 : d1 = kD k) (p : P n (.bl (!keyIn ks k))) : DR (rNotInU K) W n ρ d1 (.dic ks ds) P := dr_orr (dr_orr (dr_orr fun Z T σ H v1 v2 e i1 i2 Q q => by
  subst e1
  obtain ⟨a, kvs, rfl, ha, hk, h1⟩ := isw_dic i2
  subst hk
  have ev := isw_kD i1
  subst ev
  refine ⟨a, _, rfl, DGet.k ha, ?_⟩
  rw [valV_some]
  exact q _ _ _ H p e (.bl _)))
/-- {k: v} -/
theorem df_disp1 {tk tv : TE} (h : DE tk W n ρ fun n d1 => DE tv W n ρ fun n d2 => ∃ k, d1 = kD k ∧ P n (.dic [k] [d2])) : DF (tDisp [(tk, tv)]) W n ρ P := fun Z T σ H e Q q p hp =>
  h ((p, .dK []) :: Z) T σ _ (e.lay hp) _ fun n x d1 H1 q1 e1 i1 => q1 _ ((x, d1) :: T) σ H1 (e1.push i1) _ fun n y d2 H2 ⟨k, ed, pp⟩ e2 i2 => by
    subst ed
    have ex := isw_kD (.inl e2.top)
    subst ex
    have z := e2.z (p, .dK []) List.mem_cons_self
    refine ⟨z.1, [(k, y)], rfl, Nat.le_of_ble_eq_true rfl, ?_⟩
    have e3 := ((e2.pop1).push i2).zput (o' := .dK [(k, y)]) (by exact fun h => h)
    exact q _ _ _ _ _ pp e3.pop1 (.dic rfl (.cons e3.top .nil))
/-! ### defs told by a relation -/
abbrev PR (m : Nat) (pre : List D → Prop) (R : List D → Out → Prop) : Sp := Prm m V0 G0 (fun _ ds => pre ds) (fun _ ds _ o => R ds o)
theorem de_rel {m : Nat} {pre : List D → Prop} {R : List D → Out → Prop} {E : XK} {tas : TA} (h : DA tas W n ρ fun n ds => ds.length = m ∧ pre ds ∧ ∀ o, R ds o → ∃ b d, o = .ret b d ∧ P n d) : DE (tCall (PR m pre R) [] E tas) W n ρ P :=
  de_call fit0 (h.imp fun n ds ⟨h1, h2, h3⟩ => ⟨h1, h2, fun _ C ns l q => (by obtain ⟨_, _, e, _⟩ := h3 _ q; cases e), fun _ b d q => by obtain ⟨_, _, e, p⟩ := h3 _ q; cases e; exact p⟩)
theorem df_rel {m : Nat} {pre : List D → Prop} {R : List D → Out → Prop} {E : XK} {tas : TA} (h : DA tas W n ρ fun n ds => ds.length = m ∧ pre ds ∧ ∀ o, R ds o → ∃ d, o = .ret true d ∧ P n d) : DF (tCall (PR m pre R) [] E tas) W n ρ P :=
  df_call fit0 (h.imp fun n ds ⟨h1, h2, h3⟩ => ⟨h1, h2, fun _ C ns l q => (by obtain ⟨_, e, _⟩ := h3 _ q; cases e), fun _ d q => (by obtain ⟨_, e, p⟩ := h3 _ q; cases e), fun _ d q => by obtain ⟨_, e, p⟩ := h3 _ q; cases e; exact p⟩)
theorem de_relE {m : Nat} {pre : List D → Prop} {R : List D → Out → Prop} {E : XK} {tas : TA} (hE : W.E = E) (h : DA tas W n ρ fun n ds => ds.length = m ∧ pre ds ∧ ∀ o, R ds o → Outs (W.EP n) (P n) o) : DE (tCall (PR m pre R) [] E tas) W n ρ P :=
  de_callE fit0 hE (h.imp fun n ds ⟨h1, h2, h3⟩ => ⟨h1, h2, fun _ C ns l q => h3 _ q, fun _ b d q => h3 _ q⟩)
theorem de_relK {m q : Nat} {pre : List D → Prop} {R : List D → Out → Prop} {E : XK} {tas tks : TA} {perm : List Nat} (hE : W.E = E) (h : DA tas W n ρ fun n ds => DA tks W n ρ fun n es => ds.length = q ∧ es.length = m ∧ pre (gPerm D.non perm ds es) ∧ ∀ o, R (gPerm D.non perm ds es) o → Outs (W.EP n) (P n) o) : DE (tCalK q m (PR perm.length pre R) perm E tas tks) W n ρ P :=
  de_calK fit0 hE (h.imp fun n ds h => h.imp fun n es ⟨h1, h2, h3, h4⟩ => ⟨h1, h2, h3, fun _ C ns l q => h4 _ q, fun _ b d q => h4 _ q⟩)
end
theorem detG {m : Nat} {ds : List D} {pre : Prop} {o : Out} {Q : D → Prop} {b : Bool} {d : D} (h0 : ds.length = m) (h1 : pre) (h2 : o = .ret b d) (q : Q d) : ds.length = m ∧ pre ∧ ∃ b d, o = .ret b d ∧ Q d := ⟨h0, h1, b, d, h2, q⟩
theorem detK {m k : Nat} {ds es : List D} {pre : Prop} {o : Out} {Q : D → Prop} {b : Bool} {d : D} (h0 : ds.length = m) (h00 : es.length = k) (h1 : pre) (h2 : o = .ret b d) (q : Q d) : ds.length = m ∧ es.length = k ∧ pre ∧ ∃ b d, o = .ret b d ∧ Q d := ⟨h0, h00, h1, b, d, h2, q⟩
theorem each_all {R : D → Prop} : ∀ {ds ys : List D}, Each (fun _ y => R y) ds ys → ∀ y ∈ ys, R y
  | _, _, .nil, _, h => nomatch h
  | _, _, .cons r t, y, h => (List.mem_cons.mp h).elim (fun e => by rw [e]; exact r) (each_all t y)
/-! ### defs that are never called -/
abbrev spNever (m : Nat) : Sp := fun vs _ _ _ => vs.length = m ∧ False
theorem never_ok {P : Program} {w : World} {K : PySem.W.Frag} {mg : Str → Option Value} {base : Heap} {x : Str} {st : Stmt} {ps : List Str} {m : Nat} (Dd : Def K mg x st ps) {k : Nat} : Cal P w K mg base k x st ps (spNever m) := by
  obtain ⟨f, fd, F, hm, hb⟩ := Dd.ex
  exact ⟨f, fd, ⟨fun _ _ _ _ h => h.2.elim, fun _ _ _ _ _ _ _ _ _ _ _ _ _ h => h.2.elim⟩, hm, F.kp, hb, F⟩
/-! ### a class' facts -/
structure ClsT (K : PySem.W.Frag) (C : Addr) (fs : List Str) : Prop where
  I : InsK K C
  na : ∀ f ∈ fs, NoAttr K C f
  self : PySem.W.kitOne K (.ref C) (.ref C) = some true
  no : ∀ m ∈ ["NoneType", "bool", "int", "str", "list", "tuple", "dict"], PySem.W.kitOne K (.type m) (.ref C) = some false ∧ PySem.W.kitOne K (.ref C) (.type m) = some false
theorem clsT_of {K : PySem.W.Frag} {C : Addr} {fs : List Str} (h : clsB K C fs = true) : ClsT K C fs := by
  unfold clsB at h
  simp only [Bool.and_eq_true] at h
  obtain ⟨h1, h2, h3, h4, h5, h6, h7, h8, h9, h10, h11⟩ := h
  refine ⟨⟨⟨h1, h2, h3, He.eqO_ok h4⟩, He.eqO_ok h5, He.eqO_ok h6, of_decide_eq_true h7, of_decide_eq_true h8⟩, fun f hf => He.eqO_ok (List.all_eq_true.mp h9 f hf), of_decide_eq_true h10, fun m hm => ?_⟩
  have := List.all_eq_true.mp h11 m hm
  simp only [Bool.and_eq_true] at this
  exact ⟨of_decide_eq_true this.1, of_decide_eq_true this.2⟩
def isC (C : Addr) : D → Bool
  | .ins C' _ _ => decide (C' = C)
  | _ => false
theorem tn_mem : ∀ {d : D} {m : String}, d.tn = some m → m ∈ ["NoneType", "bool", "int", "str", "list", "tuple", "dict"] := fun {d m} h => by
  cases d <;> (cases h; try decide)
section
variable {W : Wd} {n : Nat} {ρ : Rho} {K : PySem.W.Frag} {C : Addr} {fs : List Str} {d : D} {P : Nat → D → Prop}
/-- plain, or of the class C -/
def pc (C : Addr) (d : D) : Prop := d.tn.isSome = true ∨ ∃ ns l, d = .ins C ns l
theorem u_isC (T : ClsT K C fs) (hd : pc C d) (p : P n (.bl (isC C d))) : DC (rIsiU K) W n ρ [d, .raw C] P := by
  rcases hd with hd | ⟨ns, l, rfl⟩
  · obtain ⟨m, e⟩ := Option.isSome_iff_exists.mp hd
    have : isC C d = false := by cases d <;> first | rfl | cases hd
    rw [this] at p
    exact u_isiC e (T.no m (tn_mem e)).1 p
  · have : isC C (.ins C ns l) = true := by simp [isC]
    rw [this] at p
    exact u_isiI T.I (.inr ⟨C, rfl, rfl⟩) T.self p
end
/-! ### a list that is empty or not -/
section
variable {W : Wd} {n : Nat} {ρ : Rho} {K : PySem.W.Frag} {P : Nat → D → Prop}
theorem r_neNil {ns : List Int} (p : P n (.bl (!ns.isEmpty))) : DR (rNeD K) W n ρ (.lst (ns.map D.int)) (.lst []) P :=
  dr_ne (toP_ints ns) rfl (PySem.W.ke_shaped_ints ns) rfl (by cases ns <;> exact p)
theorem r_neNilP {ds : List D} {ps : List PyData} (h : toPs ds = some ps) (hs : SeqAt.shaped (.list ps) = true) (p : P n (.bl (!ds.isEmpty))) : DR (rNeD K) W n ρ (.lst ds) (.lst []) P :=
  dr_ne (by unfold D.toP; rw [h]) rfl hs rfl (by
    have e : ps.isEmpty = ds.isEmpty := by
      cases ds with
      | nil => cases h; rfl
      | cons d r =>
        unfold toPs at h
        split at h <;> cases h
        rfl
    cases ps with
    | nil => rw [← e] at p; exact p
    | cons a r => rw [← e] at p; exact p)
theorem ne_last {α : Type} {l : List α} (h : (!l.isEmpty) = true) : ∃ r x, l = r ++ [x] := by
  cases l with
  | nil => cases h
  | cons a r => exact ⟨_, _, (List.dropLast_concat_getLast (l := a :: r) (by simp)).symm⟩
end
/-! ### rules told with the text's own K -/
section
variable {X : Cx} {K : PySem.W.Frag}
theorem kO {f : Value → Value → Sem Value} {r : PySem.W.Frag → R2} (h : OpR X f (r X.K)) (e : X.K = K) : OpR X f (r K) := e ▸ h
theorem kC {f : Value} {r : PySem.W.Frag → List L2.V → Hp → VK → Prop} (h : CallR X f (r X.K)) (e : X.K = K) : CallR X f (r K) := e ▸ h
theorem pg_tupK {es : List Expr} {k : Nat} {t : TGs} {n : Nat} {pos : Pos} (e : X.K = K) (hc : X.calm = true) (h : PGs X es t) (hn : (assignEach es X.env).length = n := by rfl) (hst : (assignEach es X.env).findIdx? (·.1) = none := by rfl) : PG X (.Tuple es k pos) (gTup K n t) := e ▸ pg_tup hc h hn hst
theorem kI {r : PySem.W.Frag → R2} (h : IxR X (r X.K)) (e : X.K = K) : IxR X (r K) := e ▸ h
theorem kS {r : PySem.W.Frag → L2.V → Option Int → Option Int → Hp → VK → Prop} (h : L2.SlR X (r X.K)) (e : X.K = K) : L2.SlR X (r K) := e ▸ h
theorem pe_fldK {e : Expr} {f : Str} {pos : Pos} {ta : TE} (hk : X.K = K) (he : PE X e ta) (hb : attributeBase e f X.env (eval e X.env) = eval e X.env) : PE X (.Attribute e f pos) (tFld K ta f) := hk ▸ pe_fld he hb
end
theorem fun_ofq {K : PySem.W.Frag} {x q : Str} {st : Stmt} {f : Addr} {fd : FuncData} (F : FunD K x q (defArgs st) (defBody st) (defScope st) [] [] f fd) : Fun K x q st f fd := by
  obtain ⟨oc, od, dV, kV, doc, pm, an, cdv, ct, osl, rfl, lk, hc, hD, _⟩ := F.ex
  rcases hD with ⟨_, rfl⟩ | ⟨h, _⟩
  · exact ⟨⟨oc, od, kV, doc, pm, an, cdv, ct, osl, rfl, lk, hc⟩, F.kp⟩
  · exact absurd rfl h
theorem defi_of {K : PySem.W.Frag} {mg : Str → Option Value} {x q : Str} {st : Stmt} {ps : List Str} {C f : Addr} {fd : FuncData} (F : FunD K "__init__" q (defArgs st) (defBody st) (defScope st) [] [] f fd) (M : Mk K C f) (hm : mg x = some (.ref C))
    (h : ∀ (kV doc pm : Value) (an : Option Addr) (cdv ct : Value) (us : List Value), us.length = (("self" : Str) :: ps).length → bindArgs (PySem.W.fnOf "__init__" q (defArgs st) (defBody st) (defScope st) .none kV doc pm an cdv ct) ⟨us, []⟩ = pure ((("self" : Str) :: ps).zip us)) : DefI K mg x q st ps C := ⟨f, fd, fun_ofq F, M, hm, F.bindsN h⟩
end HD

namespace HD
open PySem PySem.Spec PyProof.Rows L2
/-! ### equality of data made of whole numbers, None, texts -/
mutual
def pd : Nat → D → Bool
  | _, .non => true
  | _, .int _ => true
  | _, .str x => (PyData.str x).canLay0
  | k + 1, .lst l => pds k l
  | k + 1, .tup l => pds k l
  | _, _ => false
def pds : Nat → List D → Bool
  | _, [] => true
  | k, d :: r => pd k d && pds k r
end
mutual
theorem pd_p : ∀ (d : D) (k : Nat), pd k d = true → ∃ p, d.toP = some p ∧ p.canLay0 = true ∧ p.depth ≤ k
  | .non, k, _ => ⟨.none, rfl, rfl, Nat.zero_le _⟩
  | .int i, k, _ => ⟨.int i, rfl, rfl, Nat.zero_le _⟩
  | .str x, k, h => ⟨.str x, rfl, by simpa [pd] using h, Nat.zero_le _⟩
  | .lst l, 0, h => by simp [pd] at h
  | .lst l, k + 1, h => by
    obtain ⟨ps, e, h1, h2⟩ := pds_p l k (by simpa [pd] using h)
    refine ⟨.list ps, by unfold D.toP; rw [e], h1, ?_⟩
    show PyData.depthAll ps + 1 ≤ k + 1
    omega
  | .tup l, 0, h => by simp [pd] at h
  | .tup l, k + 1, h => by
    obtain ⟨ps, e, h1, h2⟩ := pds_p l k (by simpa [pd] using h)
    refine ⟨.tuple ps, by unfold D.toP; rw [e], h1, ?_⟩
    show PyData.depthAll ps + 1 ≤ k + 1
    omega
  | .bl b, k, h => by cases k <;> simp [pd] at h
  | .ty _, k, h => by cases k <;> simp [pd] at h
  | .raw _, k, h => by cases k <;> simp [pd] at h
  | .dic _ _, k, h => by cases k <;> simp [pd] at h
  | .ins _ _ _, k, h => by cases k <;> simp [pd] at h
  | .exc _ _ _, k, h => by cases k <;> simp [pd] at h
  | .dct, k, h => by cases k <;> simp [pd] at h
theorem pds_p : ∀ (l : List D) (k : Nat), pds k l = true → ∃ ps, toPs l = some ps ∧ PyData.canLayAll0 ps = true ∧ PyData.depthAll ps ≤ k
  | [], k, _ => ⟨[], rfl, rfl, Nat.zero_le _⟩
  | d :: r, k, h => by
    have h' : pd k d = true ∧ pds k r = true := by simpa [pds] using h
    obtain ⟨p, e1, c1, d1⟩ := pd_p d k h'.1
    obtain ⟨ps, e2, c2, d2⟩ := pds_p r k h'.2
    refine ⟨p :: ps, by unfold toPs; rw [e1, e2], ?_, ?_⟩
    · show (p.canLay0 && PyData.canLayAll0 ps) = true
      rw [c1, c2]; rfl
    · show max p.depth (PyData.depthAll ps) ≤ k
      omega
end
theorem pd_sh {d : D} {p : PyData} (h : pd 60 d = true) (e : d.toP = some p) : SeqAt.shaped p = true := by
  obtain ⟨p', e', c, dp⟩ := pd_p d 60 h
  rw [e] at e'; cases e'
  show (p.canLay0 && decide (p.depth ≤ 64)) = true
  rw [c, decide_eq_true (by omega)]; rfl
theorem pd_shL {l : List D} {ps : List PyData} (h : pds 60 l = true) (e : toPs l = some ps) : SeqAt.shaped (.list ps) = true ∧ SeqAt.shaped (.tuple ps) = true := by
  obtain ⟨p', e', c, dp⟩ := pds_p l 60 h
  rw [e] at e'; cases e'
  constructor
  · show (PyData.canLayAll0 ps && decide (PyData.depthAll ps + 1 ≤ 64)) = true
    rw [c, decide_eq_true (by omega)]; rfl
  · show (PyData.canLayAll0 ps && decide (PyData.depthAll ps + 1 ≤ 64)) = true
    rw [c, decide_eq_true (by omega)]; rfl
mutual
theorem eqv_pd : ∀ (d1 d2 : D) (k k2 : Nat) (p1 p2 : PyData), pd k d1 = true → pd k2 d2 = true → d1.toP = some p1 → d2.toP = some p2 → (PyData.eqv p1 p2 = true ↔ d1 = d2)
  | .non, d2, k, k2, p1, p2, h1, h2, e1, e2 => by
    cases e1
    cases d2
    case non => cases e2; simp [PyData.eqv]
    case int => cases e2; simp [PyData.eqv]
    case str => cases e2; simp [PyData.eqv]
    case lst l => unfold D.toP at e2; split at e2 <;> cases e2; simp [PyData.eqv]
    case tup l => unfold D.toP at e2; split at e2 <;> cases e2; simp [PyData.eqv]
    all_goals (cases k2 <;> simp [pd] at h2)
  | .int i, d2, k, k2, p1, p2, h1, h2, e1, e2 => by
    cases e1
    cases d2
    case non => cases e2; simp [PyData.eqv]
    case int => cases e2; simp [PyData.eqv]
    case str => cases e2; simp [PyData.eqv]
    case lst l => unfold D.toP at e2; split at e2 <;> cases e2; simp [PyData.eqv]
    case tup l => unfold D.toP at e2; split at e2 <;> cases e2; simp [PyData.eqv]
    all_goals (cases k2 <;> simp [pd] at h2)
  | .str x, d2, k, k2, p1, p2, h1, h2, e1, e2 => by
    cases e1
    cases d2
    case non => cases e2; simp [PyData.eqv]
    case int => cases e2; simp [PyData.eqv]
    case str => cases e2; simp [PyData.eqv]
    case lst l => unfold D.toP at e2; split at e2 <;> cases e2; simp [PyData.eqv]
    case tup l => unfold D.toP at e2; split at e2 <;> cases e2; simp [PyData.eqv]
    all_goals (cases k2 <;> simp [pd] at h2)
  | .lst l, d2, k, k2, p1, p2, h1, h2, e1, e2 => by
    cases k with
    | zero => simp [pd] at h1
    | succ k =>
    unfold D.toP at e1
    split at e1 <;> cases e1
    rename_i ps q1
    cases d2
    case non => cases e2; simp [PyData.eqv]
    case int => cases e2; simp [PyData.eqv]
    case str => cases e2; simp [PyData.eqv]
    case lst m =>
      cases k2 with
      | zero => simp [pd] at h2
      | succ k2 =>
      unfold D.toP at e2
      split at e2 <;> cases e2
      rename_i qs q2
      have := eqv_pds l m k k2 ps qs (by simpa [pd] using h1) (by simpa [pd] using h2) q1 q2
      show PyData.eqvAll ps qs = true ↔ _
      rw [this]
      exact ⟨fun h => by rw [h], fun h => by injection h⟩
    case tup m => unfold D.toP at e2; split at e2 <;> cases e2; simp [PyData.eqv]
    all_goals (cases k2 <;> simp [pd] at h2)
  | .tup l, d2, k, k2, p1, p2, h1, h2, e1, e2 => by
    cases k with
    | zero => simp [pd] at h1
    | succ k =>
    unfold D.toP at e1
    split at e1 <;> cases e1
    rename_i ps q1
    cases d2
    case non => cases e2; simp [PyData.eqv]
    case int => cases e2; simp [PyData.eqv]
    case str => cases e2; simp [PyData.eqv]
    case lst m => unfold D.toP at e2; split at e2 <;> cases e2; simp [PyData.eqv]
    case tup m =>
      cases k2 with
      | zero => simp [pd] at h2
      | succ k2 =>
      unfold D.toP at e2
      split at e2 <;> cases e2
      rename_i qs q2
      have := eqv_pds l m k k2 ps qs (by simpa [pd] using h1) (by simpa [pd] using h2) q1 q2
      show PyData.eqvAll ps qs = true ↔ _
      rw [this]
      exact ⟨fun h => by rw [h], fun h => by injection h⟩
    all_goals (cases k2 <;> simp [pd] at h2)
  | .bl b, d2, k, k2, p1, p2, h1, h2, e1, e2 => by cases k <;> simp [pd] at h1
  | .ty _, d2, k, k2, p1, p2, h1, h2, e1, e2 => by cases k <;> simp [pd] at h1
  | .raw _, d2, k, k2, p1, p2, h1, h2, e1, e2 => by cases k <;> simp [pd] at h1
  | .dic _ _, d2, k, k2, p1, p2, h1, h2, e1, e2 => by cases k <;> simp [pd] at h1
  | .ins _ _ _, d2, k, k2, p1, p2, h1, h2, e1, e2 => by cases k <;> simp [pd] at h1
  | .exc _ _ _, d2, k, k2, p1, p2, h1, h2, e1, e2 => by cases k <;> simp [pd] at h1
  | .dct, d2, k, k2, p1, p2, h1, h2, e1, e2 => by cases k <;> simp [pd] at h1
theorem eqv_pds : ∀ (l m : List D) (k k2 : Nat) (ps qs : List PyData), pds k l = true → pds k2 m = true → toPs l = some ps → toPs m = some qs → (PyData.eqvAll ps qs = true ↔ l = m)
  | [], [], k, k2, ps, qs, h1, h2, e1, e2 => by cases e1; cases e2; simp [PyData.eqvAll]
  | [], d :: m, k, k2, ps, qs, h1, h2, e1, e2 => by
    cases e1
    unfold toPs at e2
    split at e2 <;> cases e2
    simp [PyData.eqvAll]
  | d :: l, [], k, k2, ps, qs, h1, h2, e1, e2 => by
    cases e2
    unfold toPs at e1
    split at e1 <;> cases e1
    simp [PyData.eqvAll]
  | d :: l, d' :: m, k, k2, ps, qs, h1, h2, e1, e2 => by
    have h1' : pd k d = true ∧ pds k l = true := by simpa [pds] using h1
    have h2' : pd k2 d' = true ∧ pds k2 m = true := by simpa [pds] using h2
    obtain ⟨p, a1, _, _⟩ := pd_p d k h1'.1
    obtain ⟨pr, a2, _, _⟩ := pds_p l k h1'.2
    obtain ⟨q, b1, _, _⟩ := pd_p d' k2 h2'.1
    obtain ⟨qr, b2, _, _⟩ := pds_p m k2 h2'.2
    unfold toPs at e1 e2
    rw [a1, a2] at e1
    rw [b1, b2] at e2
    cases e1
    cases e2
    have r1 := eqv_pd d d' k k2 p q h1'.1 h2'.1 a1 b1
    have r2 := eqv_pds l m k k2 pr qr h1'.2 h2'.2 a2 b2
    show (PyData.eqv p q && PyData.eqvAll pr qr) = true ↔ _
    rw [Bool.and_eq_true, r1, r2]
    exact ⟨fun ⟨x, y⟩ => by rw [x, y], fun h => by injection h with x y; exact ⟨x, y⟩⟩
end
theorem any_pds : ∀ (l : List D) (d : D) (k k2 : Nat) (ps : List PyData) (p : PyData), pds k l = true → pd k2 d = true → toPs l = some ps → d.toP = some p → ((ps.any fun z => PyData.eqv z p) = true ↔ d ∈ l)
  | [], d, k, k2, ps, p, h1, h2, e1, e2 => by cases e1; simp
  | x :: l, d, k, k2, ps, p, h1, h2, e1, e2 => by
    have h1' : pd k x = true ∧ pds k l = true := by simpa [pds] using h1
    obtain ⟨q, a1, _, _⟩ := pd_p x k h1'.1
    obtain ⟨qs, a2, _, _⟩ := pds_p l k h1'.2
    unfold toPs at e1
    rw [a1, a2] at e1
    cases e1
    have r1 := eqv_pd x d k k2 q p h1'.1 h2 a1 e2
    have r2 := any_pds l d k k2 qs p h1'.2 h2 a2 e2
    rw [List.any_cons, Bool.or_eq_true, r1, r2, List.mem_cons]
    exact ⟨fun h => h.imp Eq.symm id, fun h => h.imp Eq.symm id⟩
section
variable {W : Wd} {n : Nat} {ρ : Rho} {K : PySem.W.Frag} {P : Nat → D → Prop} {d1 d2 : D} {ds : List D}
theorem r_eqP (h1 : pd 60 d1 = true) (h2 : pd 60 d2 = true) (p : ∀ b : Bool, (b = true ↔ d1 = d2) → P n (.bl b)) : DR (rEqD K) W n ρ d1 d2 P := by
  obtain ⟨p1, e1, _, _⟩ := pd_p d1 60 h1
  obtain ⟨p2, e2, _, _⟩ := pd_p d2 60 h2
  exact dr_eq e1 e2 (pd_sh h1 e1) (pd_sh h2 e2) (p _ (eqv_pd d1 d2 60 60 p1 p2 h1 h2 e1 e2))
theorem r_neP (h1 : pd 60 d1 = true) (h2 : pd 60 d2 = true) (p : ∀ b : Bool, (b = true ↔ d1 ≠ d2) → P n (.bl b)) : DR (rNeD K) W n ρ d1 d2 P := by
  obtain ⟨p1, e1, _, _⟩ := pd_p d1 60 h1
  obtain ⟨p2, e2, _, _⟩ := pd_p d2 60 h2
  refine dr_ne e1 e2 (pd_sh h1 e1) (pd_sh h2 e2) (p _ ?_)
  have := eqv_pd d1 d2 60 60 p1 p2 h1 h2 e1 e2
  cases q : PyData.eqv p1 p2
  · simp [q] at this ⊢; exact this
  · simp [q] at this ⊢; exact this
theorem r_inP (hd : d2 = .lst ds ∨ d2 = .tup ds) (h1 : pd 60 d1 = true) (h2 : pds 60 ds = true) (p : ∀ b : Bool, (b = true ↔ d1 ∈ ds) → P n (.bl b)) : DR (rInU K) W n ρ d1 d2 P := by
  obtain ⟨p1, e1, _, _⟩ := pd_p d1 60 h1
  obtain ⟨ps, e2, _, _⟩ := pds_p ds 60 h2
  have r := p _ (any_pds ds d1 60 60 ps p1 h2 h1 e2 e1)
  rcases hd with rfl | rfl
  · exact dr_orl (dr_inD e1 (by unfold D.toP; rw [e2]) (pd_sh h1 e1) (pd_shL h2 e2).1 r)
  · exact dr_orr (dr_orl fun Z T σ H v1 v2 e i1 i2 Q k => ⟨p1, ps, i1.dp e1, i2.dp (by unfold D.toP; rw [e2]), pd_sh h1 e1, (pd_shL h2 e2).2, k _ _ _ H r e (.bl _)⟩)
theorem r_ninP (hd : d2 = .lst ds ∨ d2 = .tup ds) (h1 : pd 60 d1 = true) (h2 : pds 60 ds = true) (p : ∀ b : Bool, (b = true ↔ d1 ∉ ds) → P n (.bl b)) : DR (rNotInU K) W n ρ d1 d2 P := by
  obtain ⟨p1, e1, _, _⟩ := pd_p d1 60 h1
  obtain ⟨ps, e2, _, _⟩ := pds_p ds 60 h2
  have r := p (!(ps.any fun z => PyData.eqv z p1)) (by rw [← any_pds ds d1 60 60 ps p1 h2 h1 e2 e1]; simp)
  rcases hd with rfl | rfl
  · exact dr_orl (dr_notInD e1 (by unfold D.toP; rw [e2]) (pd_sh h1 e1) (pd_shL h2 e2).1 r)
  · exact dr_orr (dr_orl fun Z T σ H v1 v2 e i1 i2 Q k => ⟨p1, ps, i1.dp e1, i2.dp (by unfold D.toP; rw [e2]), pd_sh h1 e1, (pd_shL h2 e2).2, k _ _ _ H r e (.bl _)⟩)
/-- texts -/
theorem r_eqS {a b : Str} {c : Bool} (h1 : (PyData.str a).canLay0 = true) (h2 : (PyData.str b).canLay0 = true) (hc : (a == b) = c) (p : P n (.bl c)) : DR (rEqD K) W n ρ (.str a) (.str b) P :=
  dr_eq rfl rfl (by show (_ && decide (0 ≤ 64)) = true; rw [h1]; rfl) (by show (_ && decide (0 ≤ 64)) = true; rw [h2]; rfl) (by show P n (.bl (a == b)); rw [hc]; exact p)
/-- a field of an instance -/
theorem de_fldC {ta : TE} {C : Addr} {fs : List Str} {f : Str} (T : ClsT K C fs) (hf : f ∈ fs) (h : DE ta W n ρ fun n d => ∃ ns l e, d = .ins C ns l ∧ (ns.zip l).lookup f = some e ∧ P n e) : DE (tFld K ta f) W n ρ P :=
  de_fld (h.imp fun n d ⟨ns, l, e, h1, h2, h3⟩ => ⟨C, ns, l, e, h1, T.I.cl, T.na f hf, h2, h3⟩)
end
theorem pds_map {α : Type} {f : α → D} {k : Nat} (h : ∀ a, pd k (f a) = true) : ∀ l : List α, pds k (l.map f) = true
  | [] => rfl
  | a :: r => by
    show (pd k (f a) && pds k (r.map f)) = true
    rw [h a, pds_map h r]; rfl
theorem pds_all {k : Nat} : ∀ {l : List D}, (∀ d ∈ l, pd k d = true) → pds k l = true
  | [], _ => rfl
  | d :: r, h => by
    show (pd k d && pds k r) = true
    rw [h d List.mem_cons_self, pds_all fun x hx => h x (List.mem_cons_of_mem _ hx)]; rfl
end HD

namespace HD
open PySem PySem.Spec PyProof.Rows L2
/-! ### houses, passes, walks: plain Lean -/
structure Door where
  near : Int
  first : Int
  far : Int
  second : Int
abbrev dDoor (d : Door) : D := .tup [.int d.near, .int d.first, .int d.far, .int d.second]
def Door.flip (d : Door) : Door := ⟨d.far, d.second, d.near, d.first⟩
theorem Door.flip_flip (d : Door) : d.flip.flip = d := rfl
abbrev Ps := Int × Int
abbrev dPs (p : Ps) : D := .tup [.int p.1, .int p.2]
def bk (p : Ps) : Ps := (p.1, 1 - p.2)
def psOk (dl : List Door) (p : Ps) : Prop := (0 ≤ p.1 ∧ p.1 < dl.length) ∧ (p.2 = 0 ∨ p.2 = 1)
/-- a pass: where from, leaving number, where to, arriving number -/
def gat (dl : List Door) (p : Ps) : Door := if p.2 = 0 then dl.getD p.1.toNat ⟨0, 1, 0, 1⟩ else (dl.getD p.1.toNat ⟨0, 1, 0, 1⟩).flip
theorem bk_bk (p : Ps) : bk (bk p) = p := by
  unfold bk
  ext
  · rfl
  · show 1 - (1 - p.2) = p.2; omega
theorem bk_ok {dl : List Door} {p : Ps} (h : psOk dl p) : psOk dl (bk p) := by
  unfold psOk bk at *
  dsimp only
  omega
theorem gat_bk {dl : List Door} {p : Ps} (h : psOk dl p) : gat dl (bk p) = (gat dl p).flip := by
  show (if (1 - p.2 : Int) = 0 then dl.getD p.1.toNat ⟨0, 1, 0, 1⟩ else (dl.getD p.1.toNat ⟨0, 1, 0, 1⟩).flip) = (if p.2 = 0 then dl.getD p.1.toNat ⟨0, 1, 0, 1⟩ else (dl.getD p.1.toNat ⟨0, 1, 0, 1⟩).flip).flip
  rcases h.2 with e | e
  · have h1 : ¬ ((1 - p.2 : Int) = 0) := by omega
    rw [if_neg h1, if_pos e]
  · have h1 : (1 - p.2 : Int) = 0 := by omega
    have h2 : ¬ p.2 = 0 := by omega
    rw [if_pos h1, if_neg h2]; rfl
theorem bk_inj {p q : Ps} (h : bk p = bk q) : p = q := by rw [← bk_bk p, h, bk_bk]
theorem dPs_inj {p q : Ps} (h : dPs p = dPs q) : p = q := by
  simp only [dPs, D.tup.injEq, List.cons.injEq, D.int.injEq, and_true] at h
  exact Prod.ext h.1 h.2
/-- all numbers of the doors are not 0 -/
def nzD (dl : List Door) : Prop := ∀ d ∈ dl, d.first ≠ 0 ∧ d.second ≠ 0
theorem gat_nz {dl : List Door} (h : nzD dl) (p : Ps) : (gat dl p).first ≠ 0 ∧ (gat dl p).second ≠ 0 := by
  have key : (dl.getD p.1.toNat ⟨0, 1, 0, 1⟩).first ≠ 0 ∧ (dl.getD p.1.toNat ⟨0, 1, 0, 1⟩).second ≠ 0 := by
    rw [List.getD_eq_getElem?_getD]
    cases e : dl[p.1.toNat]? with
    | none => exact ⟨by decide, by decide⟩
    | some d => exact h d (List.mem_of_getElem? e)
  unfold gat
  split
  · exact key
  · exact ⟨key.2, key.1⟩
structure Wk where
  room : Int
  pulls : List Int
  passes : List Ps
abbrev dWk (w : Wk) : D := .tup [.int w.room, .tup (w.pulls.map D.int), .tup (w.passes.map dPs)]
def chain (dl : List Door) : Int → List Ps → Prop
  | _, [] => True
  | r, p :: ps => psOk dl p ∧ (gat dl p).near = r ∧ chain dl (gat dl p).far ps
def endR (dl : List Door) : Int → List Ps → Int
  | r, [] => r
  | _, p :: ps => endR dl (gat dl p).far ps
structure WkOk (rooms : Int) (dl : List Door) (w : Wk) : Prop where
  r0 : 0 ≤ w.room
  r1 : w.room < rooms
  ch : chain dl w.room w.passes
  ln : w.pulls.length = w.passes.length + 1
theorem chain_app {dl : List Door} : ∀ {r : Int} {ps qs : List Ps}, chain dl r (ps ++ qs) ↔ chain dl r ps ∧ chain dl (endR dl r ps) qs
  | r, [], qs => ⟨fun h => ⟨True.intro, h⟩, fun h => h.2⟩
  | r, p :: ps, qs => by
    show (_ ∧ _ ∧ chain dl (gat dl p).far (ps ++ qs)) ↔ (_ ∧ _ ∧ chain dl (gat dl p).far ps) ∧ chain dl (endR dl (gat dl p).far ps) qs
    rw [chain_app (ps := ps)]
    exact ⟨fun ⟨a, b, c, d⟩ => ⟨⟨a, b, c⟩, d⟩, fun ⟨⟨a, b, c⟩, d⟩ => ⟨a, b, c, d⟩⟩
theorem endR_app {dl : List Door} : ∀ {r : Int} {ps qs : List Ps}, endR dl r (ps ++ qs) = endR dl (endR dl r ps) qs
  | r, [], qs => rfl
  | r, p :: ps, qs => endR_app (ps := ps)
theorem chain_all {dl : List Door} : ∀ {r : Int} {ps : List Ps}, chain dl r ps → ∀ p ∈ ps, psOk dl p
  | r, q :: ps, h, p, hp => by
    rcases List.mem_cons.mp hp with rfl | hp
    · exact h.1
    · exact chain_all h.2.2 p hp
/-! ### the plain form by a stack -/
/-- (pulls ahead of a pass, the pass), the last one first; then the last pulls -/
structure Stk where
  st : List (Int × Ps)
  y : Int
abbrev LF := Ps → Int
section
variable (lv ar : LF)
/-- no pass may be followed by its back with a multiple between; pulls ahead in their range -/
def red : List (Int × Ps) → Prop
  | [] => True
  | (r, p) :: t => 0 ≤ r ∧ r < (lv p).natAbs ∧ (match t with
    | [] => True
    | (_, q) :: _ => ¬ (p = bk q ∧ ar q ∣ r)) ∧ red t
def push (S : Stk) (p : Ps) : Stk := ⟨(S.y % (lv p).natAbs, p) :: S.st, (S.y - S.y % (lv p).natAbs) / lv p * ar p⟩
/-- go by a pass -/
def go (S : Stk) (p : Ps) : Stk := match S.st with
  | (r, q) :: t => if q = bk p ∧ lv p ∣ S.y then ⟨t, r + S.y / lv p * ar p⟩ else push lv ar S p
  | [] => push lv ar S p
def pull (S : Stk) (x : Int) : Stk := ⟨S.st, S.y + x⟩
def run : Stk → List (Ps × Int) → Stk
  | S, [] => S
  | S, (p, x) :: r => run (pull (go lv ar S p) x) r
end
/-- the numbers of a pass and its back -/
structure Nums (lv ar : LF) : Prop where
  nz : ∀ p, lv p ≠ 0
  nz2 : ∀ p, ar p ≠ 0
section
variable {lv ar : LF}
theorem red_tail {e : Int × Ps} {t : List (Int × Ps)} (h : red lv ar (e :: t)) : red lv ar t := by
  obtain ⟨r, p⟩ := e
  exact h.2.2.2
theorem pull_pull (S : Stk) (x y : Int) : pull (pull S x) y = pull S (x + y) := by
  unfold pull; rw [Int.add_assoc]
theorem pull_zero (S : Stk) : pull S 0 = S := by unfold pull; rw [Int.add_zero]
theorem push_red (N : Nums lv ar) {S : Stk} {p : Ps} (h : red lv ar S.st) (hn : ∀ r q t, S.st = (r, q) :: t → ¬ (p = bk q ∧ ar q ∣ S.y % (lv p).natAbs)) : red lv ar (push lv ar S p).st := by
  have hp := N.nz p
  refine ⟨Int.emod_nonneg _ (by omega), Int.emod_lt_of_pos _ (by omega), ?_, h⟩
  cases e : S.st with
  | nil => exact True.intro
  | cons a t =>
    obtain ⟨r, q⟩ := a
    exact hn r q t e
end
/-- lv and ar of a pass and its back go along, on the passes that are right -/
structure Flip (ok : Ps → Prop) (lv ar : LF) : Prop extends Nums lv ar where
  okb : ∀ p, ok p → ok (bk p)
  l : ∀ p, ok p → lv (bk p) = ar p
  a : ∀ p, ok p → ar (bk p) = lv p
def okS (ok : Ps → Prop) (S : Stk) : Prop := ∀ e ∈ S.st, ok e.2
section
variable {lv ar : LF} {ok : Ps → Prop}
theorem dvd_mod {b y : Int} (hb : b ≠ 0) : b ∣ y % (b.natAbs : Int) ↔ b ∣ y := by
  have h1 : b ∣ (b.natAbs : Int) := Int.dvd_natAbs.mpr (Int.dvd_refl b)
  have e := Int.emod_add_mul_ediv y (b.natAbs : Int)
  constructor
  · intro h
    rw [← e]
    exact Int.dvd_add h (Int.dvd_trans h1 (Int.dvd_mul_right _ _))
  · intro h
    have : y % (b.natAbs : Int) = y - (b.natAbs : Int) * (y / (b.natAbs : Int)) := by omega
    rw [this]
    exact Int.dvd_sub h (Int.dvd_trans h1 (Int.dvd_mul_right _ _))
theorem go_red (F : Flip ok lv ar) {S : Stk} {p : Ps} (hp : ok p) (hS : okS ok S) (h : red lv ar S.st) : red lv ar (go lv ar S p).st := by
  unfold go
  cases e : S.st with
  | nil =>
    refine push_red F.toNums h fun r q t e2 => ?_
    rw [e] at e2; cases e2
  | cons a t =>
    obtain ⟨r, q⟩ := a
    dsimp only
    split
    · rw [e] at h
      exact red_tail h
    · rename_i hc
      refine push_red F.toNums h fun r' q' t' e2 hx => hc ?_
      rw [e] at e2; cases e2
      obtain ⟨h1, h2⟩ := hx
      have hq : ok q := hS (r, q) (by rw [e]; exact List.mem_cons_self)
      refine ⟨by rw [h1, bk_bk], ?_⟩
      have h3 : ar q = lv p := by rw [h1, F.l q hq]
      rw [h3] at h2
      exact (dvd_mod (F.nz p)).mp h2
theorem go_ok (F : Flip ok lv ar) {S : Stk} {p : Ps} (hp : ok p) (hS : okS ok S) : okS ok (go lv ar S p) := by
  unfold go
  cases e : S.st with
  | nil =>
    intro x hx
    rcases List.mem_cons.mp hx with rfl | hx
    · exact hp
    · exact hS x hx
  | cons a t =>
    obtain ⟨r, q⟩ := a
    dsimp only
    split
    · intro x hx
      exact hS x (by rw [e]; exact List.mem_cons_of_mem _ hx)
    · intro x hx
      rcases List.mem_cons.mp hx with rfl | hx
      · exact hp
      · exact hS x hx
/-- a carrying over the pass -/
theorem go_carry (N : Nums lv ar) (S : Stk) (p : Ps) (q : Int) : go lv ar (pull S (lv p * q)) p = pull (go lv ar S p) (ar p * q) := by
  have hp := N.nz p
  have hd : lv p ∣ S.y + lv p * q ↔ lv p ∣ S.y := ⟨fun h => by
    have := Int.dvd_sub h (Int.dvd_mul_right (lv p) q)
    rwa [Int.add_sub_cancel] at this, fun h => Int.dvd_add h (Int.dvd_mul_right _ _)⟩
  have h1 : (S.y + lv p * q) % ((lv p).natAbs : Int) = S.y % ((lv p).natAbs : Int) := by
    have : ((lv p).natAbs : Int) ∣ lv p * q := Int.natAbs_dvd.mpr (Int.dvd_mul_right _ _)
    obtain ⟨k, hk⟩ := this
    rw [hk, Int.add_mul_emod_self_left]
  have hpush : push lv ar (pull S (lv p * q)) p = pull (push lv ar S p) (ar p * q) := by
    have e2 : (S.y + lv p * q - S.y % ((lv p).natAbs : Int)) / lv p = (S.y - S.y % ((lv p).natAbs : Int)) / lv p + q := by
      rw [show S.y + lv p * q - S.y % ((lv p).natAbs : Int) = (S.y - S.y % ((lv p).natAbs : Int)) + lv p * q by omega, Int.add_mul_ediv_left _ _ hp]
    show (⟨((S.y + lv p * q) % ((lv p).natAbs : Int), p) :: S.st, (S.y + lv p * q - (S.y + lv p * q) % ((lv p).natAbs : Int)) / lv p * ar p⟩ : Stk) = ⟨(S.y % ((lv p).natAbs : Int), p) :: S.st, (S.y - S.y % ((lv p).natAbs : Int)) / lv p * ar p + ar p * q⟩
    rw [h1, e2, Int.add_mul, Int.mul_comm q]
  unfold go
  show (match S.st with
    | (r, q') :: t => if q' = bk p ∧ lv p ∣ S.y + lv p * q then (⟨t, r + (S.y + lv p * q) / lv p * ar p⟩ : Stk) else push lv ar (pull S (lv p * q)) p
    | [] => push lv ar (pull S (lv p * q)) p) = _
  cases e : S.st with
  | nil => exact hpush
  | cons a t =>
    obtain ⟨r, q'⟩ := a
    dsimp only
    by_cases hc : q' = bk p ∧ lv p ∣ S.y
    · rw [if_pos ⟨hc.1, hd.mpr hc.2⟩, if_pos hc]
      unfold pull
      rw [Int.add_mul_ediv_left _ _ hp, Int.add_mul, Int.add_assoc, Int.mul_comm q]
    · rw [if_neg (fun h => hc ⟨h.1, hd.mp h.2⟩), if_neg hc]
      exact hpush
theorem ediv_mul_dvd {a b : Int} (h : b ∣ a) : a / b * b = a := Int.ediv_mul_cancel h
theorem sub_mod_dvd {b y : Int} : b ∣ y - y % (b.natAbs : Int) := by
  have h1 : b ∣ (b.natAbs : Int) := Int.dvd_natAbs.mpr (Int.dvd_refl b)
  have : y - y % (b.natAbs : Int) = (b.natAbs : Int) * (y / (b.natAbs : Int)) := by have := Int.emod_add_mul_ediv y (b.natAbs : Int); omega
  rw [this]
  exact Int.dvd_trans h1 (Int.dvd_mul_right _ _)
/-- a pass and its back -/
theorem go_back (F : Flip ok lv ar) {S : Stk} {p : Ps} (hp : ok p) (hS : okS ok S) (h : red lv ar S.st) : go lv ar (go lv ar S p) (bk p) = S := by
  have np := F.nz p
  have na := F.nz2 p
  have l' : lv (bk p) = ar p := F.l p hp
  have a' : ar (bk p) = lv p := F.a p hp
  have hpush : go lv ar (push lv ar S p) (bk p) = S := by
    unfold go push
    dsimp only
    have hd : lv (bk p) ∣ (S.y - S.y % ((lv p).natAbs : Int)) / lv p * ar p := by rw [l']; exact Int.dvd_mul_left _ _
    rw [if_pos ⟨(bk_bk p).symm, hd⟩, l', a', Int.mul_ediv_cancel _ na, ediv_mul_dvd sub_mod_dvd]
    cases S
    dsimp only
    congr 1
    omega
  cases e : S.st with
  | nil =>
    have : go lv ar S p = push lv ar S p := by unfold go; rw [e]
    rw [this]; exact hpush
  | cons a t =>
    obtain ⟨r, q⟩ := a
    by_cases hc : q = bk p ∧ lv p ∣ S.y
    · have e1 : go lv ar S p = ⟨t, r + S.y / lv p * ar p⟩ := by unfold go; rw [e]; dsimp only; rw [if_pos hc]
      rw [e1]
      rw [e] at h
      obtain ⟨h0, h1, h2, h3⟩ := h
      have hq := hc.1
      rw [hq, l'] at h1
      have hmod : (r + S.y / lv p * ar p) % ((ar p).natAbs : Int) = r := by
        have : ((ar p).natAbs : Int) ∣ S.y / lv p * ar p := Int.natAbs_dvd.mpr (Int.dvd_mul_left _ _)
        obtain ⟨k, hk⟩ := this
        rw [hk, Int.add_mul_emod_self_left]
        exact Int.emod_eq_of_lt h0 h1
      have hp2 : push lv ar ⟨t, r + S.y / lv p * ar p⟩ (bk p) = S := by
        unfold push
        dsimp only
        rw [l', a', hmod, show r + S.y / lv p * ar p - r = S.y / lv p * ar p by omega, Int.mul_ediv_cancel _ na, ediv_mul_dvd hc.2, ← hq]
        cases S
        dsimp only at e ⊢
        rw [e]
      unfold go
      cases t with
      | nil => exact hp2
      | cons b t' =>
        obtain ⟨r', q'⟩ := b
        dsimp only
        have : ¬ (q' = bk (bk p) ∧ lv (bk p) ∣ r + S.y / lv p * ar p) := fun ⟨x1, x2⟩ => h2 ⟨by rw [x1, bk_bk]; exact hq, by
          rw [x1, bk_bk]
          rw [l'] at x2
          have := Int.dvd_sub x2 (Int.dvd_mul_left (S.y / lv p) (ar p))
          rwa [Int.add_sub_cancel] at this⟩
        rw [if_neg this]
        exact hp2
    · have : go lv ar S p = push lv ar S p := by unfold go; rw [e]; dsimp only; rw [if_neg hc]
      rw [this]; exact hpush
theorem pull_red {S : Stk} (x : Int) (h : red lv ar S.st) : red lv ar (pull S x).st := h
theorem pull_ok {S : Stk} (x : Int) (h : okS ok S) : okS ok (pull S x) := h
theorem run_app : ∀ (l m : List (Ps × Int)) (S : Stk), run lv ar S (l ++ m) = run lv ar (run lv ar S l) m
  | [], m, S => rfl
  | (p, x) :: l, m, S => run_app l m _
theorem run_red (F : Flip ok lv ar) : ∀ (l : List (Ps × Int)) (S : Stk), (∀ e ∈ l, ok e.1) → okS ok S → red lv ar S.st → okS ok (run lv ar S l) ∧ red lv ar (run lv ar S l).st
  | [], S, _, h1, h2 => ⟨h1, h2⟩
  | (p, x) :: l, S, hl, h1, h2 => run_red F l _ (fun e he => hl e (List.mem_cons_of_mem _ he)) (pull_ok x (go_ok F (hl (p, x) List.mem_cons_self) h1)) (pull_red x (go_red F (hl (p, x) List.mem_cons_self) h1 h2))
/-- run, the last pulls changed -/
theorem run_carry (N : Nums lv ar) (S : Stk) (p : Ps) (x q : Int) (l : List (Ps × Int)) : run lv ar (pull S (lv p * q)) ((p, x) :: l) = run lv ar S ((p, x + ar p * q) :: l) := by
  show run lv ar (pull (go lv ar (pull S (lv p * q)) p) x) l = run lv ar (pull (go lv ar S p) (x + ar p * q)) l
  rw [go_carry N, pull_pull, Int.add_comm]
theorem run_cancel (F : Flip ok lv ar) {S : Stk} {p : Ps} (hp : ok p) (hS : okS ok S) (h : red lv ar S.st) (x : Int) (l : List (Ps × Int)) : run lv ar S ((p, 0) :: (bk p, x) :: l) = run lv ar (pull S x) l := by
  show run lv ar (pull (go lv ar (pull (go lv ar S p) 0) (bk p)) x) l = _
  rw [pull_zero, go_back F hp hS h]
end
/-! ### pulls and passes by turns -/
section
variable (lv ar : LF)
/-- pulls and passes by turns; the pulls one more -/
def runP : Stk → List Int → List Ps → Stk
  | S, x :: xs, p :: ps => runP (go lv ar (pull S x) p) xs ps
  | S, x :: _, [] => pull S x
  | S, [], _ => S
def S0 : Stk := ⟨[], 0⟩
/-- the stack as pulls and passes -/
def sPulls (S : Stk) : List Int := (S.st.map (·.1)).reverse ++ [S.y]
def sPasses (S : Stk) : List Ps := (S.st.map (·.2)).reverse
/-- THE plain form -/
def pf (w : Wk) : Wk := ⟨w.room, sPulls (runP lv ar S0 w.pulls w.passes), sPasses (runP lv ar S0 w.pulls w.passes)⟩
def carryL : Nat → Int → List Int → List Ps → List Int
  | 0, q, u :: v :: xs, p :: _ => (u - lv p * q) :: (v + ar p * q) :: xs
  | i + 1, q, x :: xs, _ :: ps => x :: carryL i q xs ps
  | _, _, xs, _ => xs
end
def cancP : Nat → List Int → List Int
  | 0, u :: _ :: v :: xs => (u + v) :: xs
  | i + 1, x :: xs => x :: cancP i xs
  | _, xs => xs
def cancS : Nat → List Ps → List Ps
  | 0, _ :: _ :: ps => ps
  | i + 1, p :: ps => p :: cancS i ps
  | _, ps => ps
section
variable {lv ar : LF} {ok : Ps → Prop}
theorem runP_pull : ∀ (ps : List Ps) (S : Stk) (c v : Int) (xs : List Int), runP lv ar S ((v + c) :: xs) ps = runP lv ar (pull S c) (v :: xs) ps
  | [], S, c, v, xs => by show pull S (v + c) = pull (pull S c) v; rw [pull_pull, Int.add_comm]
  | p :: ps, S, c, v, xs => by show runP lv ar (go lv ar (pull S (v + c)) p) xs ps = runP lv ar (go lv ar (pull (pull S c) v) p) xs ps; rw [pull_pull, Int.add_comm]
theorem runP_carry (N : Nums lv ar) : ∀ (i : Nat) (q : Int) (xs : List Int) (ps : List Ps) (S : Stk), runP lv ar S (carryL lv ar i q xs ps) ps = runP lv ar S xs ps
  | 0, q, u :: v :: xs, p :: ps, S => by
    show runP lv ar (go lv ar (pull S (u - lv p * q)) p) ((v + ar p * q) :: xs) ps = runP lv ar (go lv ar (pull S u) p) (v :: xs) ps
    have e : pull S (u - lv p * q) = pull (pull S u) (lv p * (-q)) := by rw [pull_pull, Int.mul_neg]; rfl
    rw [e, go_carry N, runP_pull, pull_pull, Int.mul_neg, Int.add_left_neg, pull_zero]
  | i + 1, q, x :: xs, p :: ps, S => by
    show runP lv ar (go lv ar (pull S x) p) (carryL lv ar i q xs ps) ps = _
    rw [runP_carry N i]; rfl
  | 0, _, [], _, _ => rfl
  | 0, _, [_], _, _ => rfl
  | 0, _, _ :: _ :: _, [], _ => rfl
  | _ + 1, _, [], _, _ => rfl
  | _ + 1, _, _ :: _, [], _ => rfl
/-- pass i + 1 is the back of pass i, 0 pulls between -/
def cancOk : Nat → List Int → List Ps → Prop
  | 0, _ :: z :: _ :: _, p :: q :: _ => z = 0 ∧ q = bk p
  | i + 1, _ :: xs, _ :: ps => cancOk i xs ps
  | _, _, _ => False
theorem runP_cancel (F : Flip ok lv ar) : ∀ (i : Nat) (xs : List Int) (ps : List Ps) (S : Stk), cancOk i xs ps → (∀ p ∈ ps, ok p) → okS ok S → red lv ar S.st → runP lv ar S (cancP i xs) (cancS i ps) = runP lv ar S xs ps
  | 0, u :: z :: v :: xs, p :: q :: ps, S, ⟨h1, h2⟩, hp, hS, hr => by
    subst h1 h2
    show runP lv ar S ((u + v) :: xs) ps = runP lv ar (go lv ar (pull (go lv ar (pull S u) p) 0) (bk p)) (v :: xs) ps
    rw [pull_zero, go_back F (hp p List.mem_cons_self) (pull_ok u hS) (pull_red u hr), ← runP_pull, Int.add_comm]
  | i + 1, x :: xs, p :: ps, S, h, hp, hS, hr => by
    show runP lv ar (go lv ar (pull S x) p) (cancP i xs) (cancS i ps) = _
    rw [runP_cancel F i xs ps _ h (fun q hq => hp q (List.mem_cons_of_mem _ hq)) (go_ok F (hp p List.mem_cons_self) (pull_ok x hS)) (go_red F (hp p List.mem_cons_self) (pull_ok x hS) (pull_red x hr))]
    rfl
  | 0, [], _, _, h, _, _, _ => h.elim
  | 0, [_], _, _, h, _, _, _ => h.elim
  | 0, [_, _], _, _, h, _, _, _ => h.elim
  | 0, _ :: _ :: _ :: _, [], _, h, _, _, _ => h.elim
  | 0, _ :: _ :: _ :: _, [_], _, h, _, _, _ => h.elim
  | _ + 1, [], _, _, h, _, _, _ => h.elim
  | _ + 1, _ :: _, [], _, h, _, _, _ => h.elim
theorem runP_red (F : Flip ok lv ar) : ∀ (ps : List Ps) (xs : List Int) (S : Stk), (∀ p ∈ ps, ok p) → okS ok S → red lv ar S.st → okS ok (runP lv ar S xs ps) ∧ red lv ar (runP lv ar S xs ps).st
  | [], [], S, _, h1, h2 => ⟨h1, h2⟩
  | [], _ :: _, S, _, h1, h2 => ⟨h1, h2⟩
  | _ :: _, [], S, _, h1, h2 => ⟨h1, h2⟩
  | p :: ps, x :: xs, S, hp, h1, h2 => runP_red F ps xs _ (fun q hq => hp q (List.mem_cons_of_mem _ hq)) (go_ok F (hp p List.mem_cons_self) (pull_ok x h1)) (go_red F (hp p List.mem_cons_self) (pull_ok x h1) (pull_red x h2))
/-- go on from a plain stack by what is plain behind it -/
theorem go_push (N : Nums lv ar) {t : List (Int × Ps)} {r : Int} {p : Ps} (F : Flip ok lv ar) (hp : ok p) (ht : ∀ e ∈ t, ok e.2) (h : red lv ar ((r, p) :: t)) : go lv ar ⟨t, r⟩ p = ⟨(r, p) :: t, 0⟩ := by
  obtain ⟨h0, h1, h2, h3⟩ := h
  have np := N.nz p
  have em : r % ((lv p).natAbs : Int) = r := Int.emod_eq_of_lt h0 h1
  have e : push lv ar ⟨t, r⟩ p = ⟨(r, p) :: t, 0⟩ := by
    unfold push
    dsimp only
    rw [em, Int.sub_self, Int.zero_ediv, Int.zero_mul]
  unfold go
  cases t with
  | nil => exact e
  | cons a t' =>
    obtain ⟨r', q⟩ := a
    dsimp only
    have : ¬ (q = bk p ∧ lv p ∣ r) := fun ⟨x1, x2⟩ => h2 ⟨by rw [x1, bk_bk], by
      have := F.a p hp
      rw [x1, this]; exact x2⟩
    rw [if_neg this]
    exact e
theorem runP_snoc : ∀ (ps : List Ps) (xs : List Int) (S : Stk) (p : Ps) (x : Int), xs.length = ps.length + 1 → runP lv ar S (xs ++ [x]) (ps ++ [p]) = pull (go lv ar (runP lv ar S xs ps) p) x
  | [], [u], S, p, x, _ => rfl
  | q :: ps, u :: xs, S, p, x, h => by
    show runP lv ar (go lv ar (pull S u) q) (xs ++ [x]) (ps ++ [p]) = pull (go lv ar (runP lv ar (go lv ar (pull S u) q) xs ps) p) x
    exact runP_snoc ps xs _ p x (by simpa using h)
  | [], [], S, p, x, h => by simp at h
  | [], _ :: _ :: _, S, p, x, h => by simp at h
  | _ :: _, [], S, p, x, h => by simp at h
/-- a plain stack told as pulls and passes leads to itself -/
theorem runP_plain (F : Flip ok lv ar) : ∀ (t : List (Int × Ps)) (y : Int), (∀ e ∈ t, ok e.2) → red lv ar t → runP lv ar S0 (sPulls ⟨t, y⟩) (sPasses ⟨t, y⟩) = ⟨t, y⟩
  | [], y, _, _ => by
    show pull S0 y = _
    unfold pull S0
    dsimp only
    rw [Int.zero_add]
  | (r, p) :: t, y, ho, h => by
    have ih := runP_plain F t r (fun e he => ho e (List.mem_cons_of_mem _ he)) (red_tail h)
    have e1 : sPulls ⟨(r, p) :: t, y⟩ = sPulls ⟨t, r⟩ ++ [y] := by simp [sPulls]
    have e2 : sPasses ⟨(r, p) :: t, y⟩ = sPasses ⟨t, r⟩ ++ [p] := by simp [sPasses]
    rw [e1, e2, runP_snoc _ _ _ _ _ (by simp [sPulls, sPasses]), ih, go_push F.toNums F (ho (r, p) List.mem_cons_self) (fun e he => ho e (List.mem_cons_of_mem _ he)) h]
    show (⟨(r, p) :: t, 0 + y⟩ : Stk) = _
    rw [Int.zero_add]
/-- pulls and passes as a stack -/
def stkOf (w : Wk) : Stk := ⟨(w.pulls.zip w.passes).reverse, w.pulls.getLastD 0⟩
theorem zip_fst : ∀ {xs : List Int} {ps : List Ps}, xs.length = ps.length + 1 → (xs.zip ps).map (·.1) = xs.dropLast
  | [x], [], _ => rfl
  | x :: y :: xs, p :: ps, h => by
    have ih := zip_fst (xs := y :: xs) (ps := ps) (by simpa using h)
    simp only [List.zip_cons_cons, List.map_cons, List.dropLast_cons₂]
    rw [ih]
  | [], _, h => by simp at h
  | [_], _ :: _, h => by simp at h
  | _ :: _ :: _, [], h => by simp at h
theorem zip_snd : ∀ {xs : List Int} {ps : List Ps}, xs.length = ps.length + 1 → (xs.zip ps).map (·.2) = ps
  | [x], [], _ => rfl
  | x :: y :: xs, p :: ps, h => by
    have ih := zip_snd (xs := y :: xs) (ps := ps) (by simpa using h)
    simp only [List.zip_cons_cons, List.map_cons]
    rw [ih]
  | [], _, h => by simp at h
  | [_], _ :: _, h => by simp at h
  | _ :: _ :: _, [], h => by simp at h
theorem getLastD_ne : ∀ (l : List Int) (h : l ≠ []), l.getLastD 0 = l.getLast h
  | [a], _ => rfl
  | a :: b :: r, _ => by
    have := getLastD_ne (b :: r) (by simp)
    rw [List.getLast_cons (by simp)]
    rw [← this]
    rfl
theorem stk_pulls {w : Wk} (h : w.pulls.length = w.passes.length + 1) : sPulls (stkOf w) = w.pulls := by
  have hne : w.pulls ≠ [] := fun e => by rw [e] at h; simp at h
  show (((w.pulls.zip w.passes).reverse).map (·.1)).reverse ++ [w.pulls.getLastD 0] = _
  rw [← List.map_reverse, List.reverse_reverse, zip_fst h]
  rw [getLastD_ne _ hne, List.dropLast_concat_getLast]
theorem stk_passes {w : Wk} (h : w.pulls.length = w.passes.length + 1) : sPasses (stkOf w) = w.passes := by
  show (((w.pulls.zip w.passes).reverse).map (·.2)).reverse = _
  rw [← List.map_reverse, List.reverse_reverse, zip_snd h]
/-- plain -/
def Plain (lv ar : LF) (w : Wk) : Prop := red lv ar (stkOf w).st
theorem stk_ok {w : Wk} (hp : ∀ p ∈ w.passes, ok p) (h : w.pulls.length = w.passes.length + 1) : okS ok (stkOf w) := fun e he => by
  have he' : e ∈ (w.pulls.zip w.passes).reverse := he
  rw [List.mem_reverse] at he'
  exact hp e.2 (List.of_mem_zip he').2
/-- a plain walk is its own plain form -/
theorem pf_plain (F : Flip ok lv ar) {w : Wk} (hp : ∀ p ∈ w.passes, ok p) (h : w.pulls.length = w.passes.length + 1) (hr : Plain lv ar w) : pf lv ar w = w := by
  have e := runP_plain F (stkOf w).st (stkOf w).y (stk_ok hp h) hr
  have e1 : (⟨(stkOf w).st, (stkOf w).y⟩ : Stk) = stkOf w := rfl
  rw [e1, stk_pulls h, stk_passes h] at e
  unfold pf
  rw [e, stk_pulls h, stk_passes h]
theorem s0_ok : okS ok S0 := fun e he => nomatch he
theorem s0_red : red lv ar S0.st := True.intro
theorem pf_len (w : Wk) : (pf lv ar w).pulls.length = (pf lv ar w).passes.length + 1 := by simp [pf, sPulls, sPasses]
theorem stkOf_toW {r : Int} (S : Stk) : stkOf ⟨r, sPulls S, sPasses S⟩ = S := by
  have hl : (sPulls S).length = (sPasses S).length + 1 := by simp [sPulls, sPasses]
  have e : ((sPulls S).zip (sPasses S)) = S.st.reverse := by
    unfold sPulls sPasses
    rw [← List.map_reverse, ← List.map_reverse]
    generalize S.st.reverse = l
    generalize S.y = y
    induction l with
    | nil => rfl
    | cons a r ih =>
      simp only [List.map_cons, List.cons_append, List.zip_cons_cons]
      rw [ih]
  unfold stkOf
  dsimp only
  rw [e, List.reverse_reverse]
  cases S
  unfold sPulls
  simp
/-- the plain form is plain -/
theorem plain_pf (F : Flip ok lv ar) {w : Wk} (hp : ∀ p ∈ w.passes, ok p) : Plain lv ar (pf lv ar w) := by
  unfold Plain pf
  rw [stkOf_toW]
  exact (runP_red F w.passes w.pulls S0 hp s0_ok s0_red).2
end
end HD

namespace HD
open PySem PySem.Spec PyProof.Rows L2
/-! ### promises told with typed arguments -/
class Enc (α : Type) where
  e : α → D
  inj : ∀ {a b : α}, e a = e b → a = b
instance : Enc D := ⟨id, fun h => h⟩
instance : Enc Int := ⟨D.int, fun h => by injection h⟩
instance : Enc Ps := ⟨dPs, dPs_inj⟩
theorem map_inj {α : Type} {f : α → D} (hf : ∀ a b, f a = f b → a = b) : ∀ {l m : List α}, l.map f = m.map f → l = m
  | [], [], _ => rfl
  | [], _ :: _, h => by cases h
  | _ :: _, [], h => by cases h
  | a :: l, b :: m, h => by
    simp only [List.map_cons, List.cons.injEq] at h
    rw [hf a b h.1, map_inj hf h.2]
theorem dWk_inj {w v : Wk} (h : dWk w = dWk v) : w = v := by
  simp only [dWk, D.tup.injEq, List.cons.injEq, D.int.injEq, and_true] at h
  obtain ⟨h1, h2, h3⟩ := h
  have e2 := map_inj (fun a b h => by injection h) h2
  have e3 := map_inj (fun a b h => dPs_inj h) h3
  cases w; cases v
  simp_all
instance : Enc Wk := ⟨dWk, dWk_inj⟩
theorem dDoor_inj {a b : Door} (h : dDoor a = dDoor b) : a = b := by
  cases a; cases b
  simp only [dDoor, D.tup.injEq, List.cons.injEq, D.int.injEq, and_true] at h
  obtain ⟨h1, h2, h3, h4⟩ := h
  subst h1 h2 h3 h4; rfl
theorem doors_inj {a b : List Door} (h : a.map dDoor = b.map dDoor) : a = b := map_inj (fun _ _ h => dDoor_inj h) h
/-- a tuple of doors -/
structure DL where
  l : List Door
instance : Enc DL := ⟨fun x => .tup (x.l.map dDoor), fun {a b} h => by
  injection h with h
  cases a; cases b
  congr 1
  exact doors_inj h⟩
/-- a tuple of whole numbers -/
structure NL where
  l : List Int
instance : Enc NL := ⟨fun x => .tup (x.l.map D.int), fun {a b} h => by
  injection h with h
  cases a; cases b
  congr 1
  exact map_inj (fun _ _ h => by injection h) h⟩
/-- a house of the class at C -/
structure Hs (C : Addr) where
  rooms : Int
  doors : List Door
def dHs {C : Addr} (h : Hs C) : D := .ins C ["rooms", "doors"] [.int h.rooms, .tup (h.doors.map dDoor)]
theorem dHs_inj {C : Addr} {a b : Hs C} (h : dHs a = dHs b) : a = b := by
  simp only [dHs, D.ins.injEq, List.cons.injEq, D.int.injEq, D.tup.injEq, and_true, true_and] at h
  cases a; cases b
  obtain ⟨h1, h2⟩ := h
  dsimp only at h1 h2
  rw [h1, doors_inj h2]
instance {C : Addr} : Enc (Hs C) := ⟨dHs, dHs_inj⟩
theorem enc_D (d : D) : Enc.e d = d := rfl
theorem enc_int (i : Int) : Enc.e i = D.int i := rfl
theorem enc_ps (p : Ps) : Enc.e p = dPs p := rfl
theorem enc_wk (w : Wk) : Enc.e w = dWk w := rfl
theorem enc_dl (x : DL) : Enc.e x = .tup (x.l.map dDoor) := rfl
theorem enc_nl (x : NL) : Enc.e x = .tup (x.l.map D.int) := rfl
theorem enc_hs {C : Addr} (h : Hs C) : Enc.e h = dHs h := rfl

section
variable {α0 : Type} [Enc α0] {pre : α0 → Prop} {out : α0 → Out}
abbrev PF1 (pre : α0 → Prop) (out : α0 → Out) : Sp := Prm 1 V0 G0 (fun _ ds => ∃ (a0 : α0), ds = [Enc.e a0] ∧ pre a0) (fun _ ds _ o => ∀ (a0 : α0), ds = [Enc.e a0] → o = out a0)
theorem pf1_post {o : Out} {a0 : α0} (h : o = out a0) : ∀ (a0' : α0), [Enc.e a0] = [Enc.e a0'] → o = out a0' := fun a0' q => by
  simp only [List.cons.injEq, and_true] at q
  have q0 := q
  rw [h, Enc.inj q0]
variable {P : Program} {w : World} {K : PySem.W.Frag} {mg : Str → Option Value} {base : Heap} {k : Nat} {x : Str} {st : Stmt} {N ps : List Str}
theorem Def.okF1 (Dd : Def K mg x st ps) (S : FnScope N ps (defScope st)) (hn : 1 = ps.length)
    (h : ∀ (f : Addr) (cdv : Value) (A : Around) (outer : List PySem.Env) (s : Shared) (H : Hp) (E : XK), Room k (A.deeper (envOfC x (defScope st) s.heap.objs.size f cdv)) →
      ∃ t, PSs (cxD P w K mg base N x st f cdv A outer s H E) (defBody st) t ∧ ∀ (W : Wd) (n : Nat) (a0 : α0), W.V = V0 → W.G = G0 → W.E = E → (∀ n C ns l, Out.exc C ns l = out a0 → W.EP n C ns l) → pre a0 →
        DS t W n (startR N [Enc.e a0]) (fun _ _ => Out.ret false .non = out a0) (fun _ fr d => Out.ret fr d = out a0) (fun _ _ => False) (fun _ _ => False)) : Cal P w K mg base (k + 1) x st ps (PF1 pre out) :=
  Dd.ok S hn stab0 fun f cdv A outer s H E hr => by
    obtain ⟨t, ht, hd⟩ := h f cdv A outer s H E hr
    refine ⟨t, ht, ?_⟩
    rintro W n ds hV hG hE hEP hl ⟨a0, rfl, hp⟩
    exact (hd W n a0 hV hG hE (fun n C ns l q => by rw [hEP]; exact pf1_post q) hp).impR (fun n ρ q => pf1_post q) fun n fr d q => pf1_post q
variable {W : Wd} {n q j : Nat} {ρ : Rho} {Q : Nat → D → Prop} {E : XK} {tas tks : TA} {perm : List Nat}
theorem de_pf1 (h : DA tas W n ρ fun n ds => ∃ (a0 : α0), ds = [Enc.e a0] ∧ pre a0 ∧ ∃ fr d, out a0 = .ret fr d ∧ Q n d) : DE (tCall (PF1 pre out) [] E tas) W n ρ Q :=
  de_call fit0 (h.imp fun n ds ⟨a0, h1, h2, fr, d, h3, h4⟩ => ⟨by rw [h1]; rfl, ⟨a0, h1, h2⟩, fun _ C ns l q => (by have q1 := q a0 h1; rw [h3] at q1; cases q1), fun _ b d q => by have q1 := q a0 h1; rw [h3] at q1; cases q1; exact h4⟩)
theorem df_pf1 (h : DA tas W n ρ fun n ds => ∃ (a0 : α0), ds = [Enc.e a0] ∧ pre a0 ∧ ∃ d, out a0 = .ret true d ∧ Q n d) : DF (tCall (PF1 pre out) [] E tas) W n ρ Q :=
  df_call fit0 (h.imp fun n ds ⟨a0, h1, h2, d, h3, h4⟩ => ⟨by rw [h1]; rfl, ⟨a0, h1, h2⟩, fun _ C ns l q => (by have q1 := q a0 h1; rw [h3] at q1; cases q1), fun _ d q => (by have q1 := q a0 h1; rw [h3] at q1; cases q1), fun _ d q => by have q1 := q a0 h1; rw [h3] at q1; cases q1; exact h4⟩)
theorem de_pf1E (hE : W.E = E) (h : DA tas W n ρ fun n ds => ∃ (a0 : α0), ds = [Enc.e a0] ∧ pre a0 ∧ Outs (W.EP n) (Q n) (out a0)) : DE (tCall (PF1 pre out) [] E tas) W n ρ Q :=
  de_callE fit0 hE (h.imp fun n ds ⟨a0, h1, h2, h3⟩ => ⟨by rw [h1]; rfl, ⟨a0, h1, h2⟩, fun _ C ns l q => (by have q1 := q a0 h1; rw [← q1] at h3; exact h3), fun _ b d q => by have q1 := q a0 h1; rw [← q1] at h3; exact h3⟩)
theorem de_pf1K (hE : W.E = E) (hpm : perm.length = 1) (h : DA tas W n ρ fun n ds => DA tks W n ρ fun n es => ds.length = q ∧ es.length = j ∧ ∃ (a0 : α0), gPerm D.non perm ds es = [Enc.e a0] ∧ pre a0 ∧ Outs (W.EP n) (Q n) (out a0)) : DE (tCalK q j (PF1 pre out) perm E tas tks) W n ρ Q := fun Z T σ H e Qk k =>
  h Z T σ H e _ fun n vs ds H1 p e1 i1 => p Z (zipT vs ds ++ T) σ H1 (e1.pushAll i1) _ fun n zs es H2 ⟨g1, g2, a0, h1, h2, h3⟩ e2 i2 =>
    ⟨by rw [i1.len]; exact g1, by rw [i2.len]; exact g2, call_prm fit0 e2.popAll (perm_all ((e2.topAll i1.len).append i2) perm) (by simp [gPerm, hpm]) ⟨a0, h1, h2⟩
      (fun _ d z => by have z2 := z a0 h1; rw [← z2] at h3; exact h3) (fun _ d z => by have z2 := z a0 h1; rw [← z2] at h3; exact h3) k (exc_out (ds := gPerm D.non perm ds es) (post := fun (_ : Nat) (ds : List D) (_ : Nat) (o : Out) => ∀ (a0 : α0), ds = [Enc.e a0] → o = out a0) fit0 hE e2.popAll fun _ C ns l z => by have z2 := z a0 h1; rw [← z2] at h3; exact h3)⟩
theorem pfG1 {ds : List D} {Q : D → Prop} {a0 : α0} {fr : Bool} {d : D} (h : ds = [Enc.e a0]) (h1 : pre a0) (h2 : out a0 = .ret fr d) (q : Q d) : ∃ (a0 : α0), ds = [Enc.e a0] ∧ pre a0 ∧ ∃ fr d, out a0 = .ret fr d ∧ Q d := ⟨a0, h, h1, fr, d, h2, q⟩
end
section
variable {α0 : Type} [Enc α0] {α1 : Type} [Enc α1] {pre : α0 → α1 → Prop} {out : α0 → α1 → Out}
abbrev PF2 (pre : α0 → α1 → Prop) (out : α0 → α1 → Out) : Sp := Prm 2 V0 G0 (fun _ ds => ∃ (a0 : α0) (a1 : α1), ds = [Enc.e a0, Enc.e a1] ∧ pre a0 a1) (fun _ ds _ o => ∀ (a0 : α0) (a1 : α1), ds = [Enc.e a0, Enc.e a1] → o = out a0 a1)
theorem pf2_post {o : Out} {a0 : α0} {a1 : α1} (h : o = out a0 a1) : ∀ (a0' : α0) (a1' : α1), [Enc.e a0, Enc.e a1] = [Enc.e a0', Enc.e a1'] → o = out a0' a1' := fun a0' a1' q => by
  simp only [List.cons.injEq, and_true] at q
  obtain ⟨q0, q1⟩ := q
  rw [h, Enc.inj q0, Enc.inj q1]
variable {P : Program} {w : World} {K : PySem.W.Frag} {mg : Str → Option Value} {base : Heap} {k : Nat} {x : Str} {st : Stmt} {N ps : List Str}
theorem Def.okF2 (Dd : Def K mg x st ps) (S : FnScope N ps (defScope st)) (hn : 2 = ps.length)
    (h : ∀ (f : Addr) (cdv : Value) (A : Around) (outer : List PySem.Env) (s : Shared) (H : Hp) (E : XK), Room k (A.deeper (envOfC x (defScope st) s.heap.objs.size f cdv)) →
      ∃ t, PSs (cxD P w K mg base N x st f cdv A outer s H E) (defBody st) t ∧ ∀ (W : Wd) (n : Nat) (a0 : α0) (a1 : α1), W.V = V0 → W.G = G0 → W.E = E → (∀ n C ns l, Out.exc C ns l = out a0 a1 → W.EP n C ns l) → pre a0 a1 →
        DS t W n (startR N [Enc.e a0, Enc.e a1]) (fun _ _ => Out.ret false .non = out a0 a1) (fun _ fr d => Out.ret fr d = out a0 a1) (fun _ _ => False) (fun _ _ => False)) : Cal P w K mg base (k + 1) x st ps (PF2 pre out) :=
  Dd.ok S hn stab0 fun f cdv A outer s H E hr => by
    obtain ⟨t, ht, hd⟩ := h f cdv A outer s H E hr
    refine ⟨t, ht, ?_⟩
    rintro W n ds hV hG hE hEP hl ⟨a0, a1, rfl, hp⟩
    exact (hd W n a0 a1 hV hG hE (fun n C ns l q => by rw [hEP]; exact pf2_post q) hp).impR (fun n ρ q => pf2_post q) fun n fr d q => pf2_post q
variable {W : Wd} {n q j : Nat} {ρ : Rho} {Q : Nat → D → Prop} {E : XK} {tas tks : TA} {perm : List Nat}
theorem de_pf2 (h : DA tas W n ρ fun n ds => ∃ (a0 : α0) (a1 : α1), ds = [Enc.e a0, Enc.e a1] ∧ pre a0 a1 ∧ ∃ fr d, out a0 a1 = .ret fr d ∧ Q n d) : DE (tCall (PF2 pre out) [] E tas) W n ρ Q :=
  de_call fit0 (h.imp fun n ds ⟨a0, a1, h1, h2, fr, d, h3, h4⟩ => ⟨by rw [h1]; rfl, ⟨a0, a1, h1, h2⟩, fun _ C ns l q => (by have q1 := q a0 a1 h1; rw [h3] at q1; cases q1), fun _ b d q => by have q1 := q a0 a1 h1; rw [h3] at q1; cases q1; exact h4⟩)
theorem df_pf2 (h : DA tas W n ρ fun n ds => ∃ (a0 : α0) (a1 : α1), ds = [Enc.e a0, Enc.e a1] ∧ pre a0 a1 ∧ ∃ d, out a0 a1 = .ret true d ∧ Q n d) : DF (tCall (PF2 pre out) [] E tas) W n ρ Q :=
  df_call fit0 (h.imp fun n ds ⟨a0, a1, h1, h2, d, h3, h4⟩ => ⟨by rw [h1]; rfl, ⟨a0, a1, h1, h2⟩, fun _ C ns l q => (by have q1 := q a0 a1 h1; rw [h3] at q1; cases q1), fun _ d q => (by have q1 := q a0 a1 h1; rw [h3] at q1; cases q1), fun _ d q => by have q1 := q a0 a1 h1; rw [h3] at q1; cases q1; exact h4⟩)
theorem de_pf2E (hE : W.E = E) (h : DA tas W n ρ fun n ds => ∃ (a0 : α0) (a1 : α1), ds = [Enc.e a0, Enc.e a1] ∧ pre a0 a1 ∧ Outs (W.EP n) (Q n) (out a0 a1)) : DE (tCall (PF2 pre out) [] E tas) W n ρ Q :=
  de_callE fit0 hE (h.imp fun n ds ⟨a0, a1, h1, h2, h3⟩ => ⟨by rw [h1]; rfl, ⟨a0, a1, h1, h2⟩, fun _ C ns l q => (by have q1 := q a0 a1 h1; rw [← q1] at h3; exact h3), fun _ b d q => by have q1 := q a0 a1 h1; rw [← q1] at h3; exact h3⟩)
theorem de_pf2K (hE : W.E = E) (hpm : perm.length = 2) (h : DA tas W n ρ fun n ds => DA tks W n ρ fun n es => ds.length = q ∧ es.length = j ∧ ∃ (a0 : α0) (a1 : α1), gPerm D.non perm ds es = [Enc.e a0, Enc.e a1] ∧ pre a0 a1 ∧ Outs (W.EP n) (Q n) (out a0 a1)) : DE (tCalK q j (PF2 pre out) perm E tas tks) W n ρ Q := fun Z T σ H e Qk k =>
  h Z T σ H e _ fun n vs ds H1 p e1 i1 => p Z (zipT vs ds ++ T) σ H1 (e1.pushAll i1) _ fun n zs es H2 ⟨g1, g2, a0, a1, h1, h2, h3⟩ e2 i2 =>
    ⟨by rw [i1.len]; exact g1, by rw [i2.len]; exact g2, call_prm fit0 e2.popAll (perm_all ((e2.topAll i1.len).append i2) perm) (by simp [gPerm, hpm]) ⟨a0, a1, h1, h2⟩
      (fun _ d z => by have z2 := z a0 a1 h1; rw [← z2] at h3; exact h3) (fun _ d z => by have z2 := z a0 a1 h1; rw [← z2] at h3; exact h3) k (exc_out (ds := gPerm D.non perm ds es) (post := fun (_ : Nat) (ds : List D) (_ : Nat) (o : Out) => ∀ (a0 : α0) (a1 : α1), ds = [Enc.e a0, Enc.e a1] → o = out a0 a1) fit0 hE e2.popAll fun _ C ns l z => by have z2 := z a0 a1 h1; rw [← z2] at h3; exact h3)⟩
theorem pfG2 {ds : List D} {Q : D → Prop} {a0 : α0} {a1 : α1} {fr : Bool} {d : D} (h : ds = [Enc.e a0, Enc.e a1]) (h1 : pre a0 a1) (h2 : out a0 a1 = .ret fr d) (q : Q d) : ∃ (a0 : α0) (a1 : α1), ds = [Enc.e a0, Enc.e a1] ∧ pre a0 a1 ∧ ∃ fr d, out a0 a1 = .ret fr d ∧ Q d := ⟨a0, a1, h, h1, fr, d, h2, q⟩
end
section
variable {α0 : Type} [Enc α0] {α1 : Type} [Enc α1] {α2 : Type} [Enc α2] {pre : α0 → α1 → α2 → Prop} {out : α0 → α1 → α2 → Out}
abbrev PF3 (pre : α0 → α1 → α2 → Prop) (out : α0 → α1 → α2 → Out) : Sp := Prm 3 V0 G0 (fun _ ds => ∃ (a0 : α0) (a1 : α1) (a2 : α2), ds = [Enc.e a0, Enc.e a1, Enc.e a2] ∧ pre a0 a1 a2) (fun _ ds _ o => ∀ (a0 : α0) (a1 : α1) (a2 : α2), ds = [Enc.e a0, Enc.e a1, Enc.e a2] → o = out a0 a1 a2)
theorem pf3_post {o : Out} {a0 : α0} {a1 : α1} {a2 : α2} (h : o = out a0 a1 a2) : ∀ (a0' : α0) (a1' : α1) (a2' : α2), [Enc.e a0, Enc.e a1, Enc.e a2] = [Enc.e a0', Enc.e a1', Enc.e a2'] → o = out a0' a1' a2' := fun a0' a1' a2' q => by
  simp only [List.cons.injEq, and_true] at q
  obtain ⟨q0, q1, q2⟩ := q
  rw [h, Enc.inj q0, Enc.inj q1, Enc.inj q2]
variable {P : Program} {w : World} {K : PySem.W.Frag} {mg : Str → Option Value} {base : Heap} {k : Nat} {x : Str} {st : Stmt} {N ps : List Str}
theorem Def.okF3 (Dd : Def K mg x st ps) (S : FnScope N ps (defScope st)) (hn : 3 = ps.length)
    (h : ∀ (f : Addr) (cdv : Value) (A : Around) (outer : List PySem.Env) (s : Shared) (H : Hp) (E : XK), Room k (A.deeper (envOfC x (defScope st) s.heap.objs.size f cdv)) →
      ∃ t, PSs (cxD P w K mg base N x st f cdv A outer s H E) (defBody st) t ∧ ∀ (W : Wd) (n : Nat) (a0 : α0) (a1 : α1) (a2 : α2), W.V = V0 → W.G = G0 → W.E = E → (∀ n C ns l, Out.exc C ns l = out a0 a1 a2 → W.EP n C ns l) → pre a0 a1 a2 →
        DS t W n (startR N [Enc.e a0, Enc.e a1, Enc.e a2]) (fun _ _ => Out.ret false .non = out a0 a1 a2) (fun _ fr d => Out.ret fr d = out a0 a1 a2) (fun _ _ => False) (fun _ _ => False)) : Cal P w K mg base (k + 1) x st ps (PF3 pre out) :=
  Dd.ok S hn stab0 fun f cdv A outer s H E hr => by
    obtain ⟨t, ht, hd⟩ := h f cdv A outer s H E hr
    refine ⟨t, ht, ?_⟩
    rintro W n ds hV hG hE hEP hl ⟨a0, a1, a2, rfl, hp⟩
    exact (hd W n a0 a1 a2 hV hG hE (fun n C ns l q => by rw [hEP]; exact pf3_post q) hp).impR (fun n ρ q => pf3_post q) fun n fr d q => pf3_post q
variable {W : Wd} {n q j : Nat} {ρ : Rho} {Q : Nat → D → Prop} {E : XK} {tas tks : TA} {perm : List Nat}
theorem de_pf3 (h : DA tas W n ρ fun n ds => ∃ (a0 : α0) (a1 : α1) (a2 : α2), ds = [Enc.e a0, Enc.e a1, Enc.e a2] ∧ pre a0 a1 a2 ∧ ∃ fr d, out a0 a1 a2 = .ret fr d ∧ Q n d) : DE (tCall (PF3 pre out) [] E tas) W n ρ Q :=
  de_call fit0 (h.imp fun n ds ⟨a0, a1, a2, h1, h2, fr, d, h3, h4⟩ => ⟨by rw [h1]; rfl, ⟨a0, a1, a2, h1, h2⟩, fun _ C ns l q => (by have q1 := q a0 a1 a2 h1; rw [h3] at q1; cases q1), fun _ b d q => by have q1 := q a0 a1 a2 h1; rw [h3] at q1; cases q1; exact h4⟩)
theorem df_pf3 (h : DA tas W n ρ fun n ds => ∃ (a0 : α0) (a1 : α1) (a2 : α2), ds = [Enc.e a0, Enc.e a1, Enc.e a2] ∧ pre a0 a1 a2 ∧ ∃ d, out a0 a1 a2 = .ret true d ∧ Q n d) : DF (tCall (PF3 pre out) [] E tas) W n ρ Q :=
  df_call fit0 (h.imp fun n ds ⟨a0, a1, a2, h1, h2, d, h3, h4⟩ => ⟨by rw [h1]; rfl, ⟨a0, a1, a2, h1, h2⟩, fun _ C ns l q => (by have q1 := q a0 a1 a2 h1; rw [h3] at q1; cases q1), fun _ d q => (by have q1 := q a0 a1 a2 h1; rw [h3] at q1; cases q1), fun _ d q => by have q1 := q a0 a1 a2 h1; rw [h3] at q1; cases q1; exact h4⟩)
theorem de_pf3E (hE : W.E = E) (h : DA tas W n ρ fun n ds => ∃ (a0 : α0) (a1 : α1) (a2 : α2), ds = [Enc.e a0, Enc.e a1, Enc.e a2] ∧ pre a0 a1 a2 ∧ Outs (W.EP n) (Q n) (out a0 a1 a2)) : DE (tCall (PF3 pre out) [] E tas) W n ρ Q :=
  de_callE fit0 hE (h.imp fun n ds ⟨a0, a1, a2, h1, h2, h3⟩ => ⟨by rw [h1]; rfl, ⟨a0, a1, a2, h1, h2⟩, fun _ C ns l q => (by have q1 := q a0 a1 a2 h1; rw [← q1] at h3; exact h3), fun _ b d q => by have q1 := q a0 a1 a2 h1; rw [← q1] at h3; exact h3⟩)
theorem de_pf3K (hE : W.E = E) (hpm : perm.length = 3) (h : DA tas W n ρ fun n ds => DA tks W n ρ fun n es => ds.length = q ∧ es.length = j ∧ ∃ (a0 : α0) (a1 : α1) (a2 : α2), gPerm D.non perm ds es = [Enc.e a0, Enc.e a1, Enc.e a2] ∧ pre a0 a1 a2 ∧ Outs (W.EP n) (Q n) (out a0 a1 a2)) : DE (tCalK q j (PF3 pre out) perm E tas tks) W n ρ Q := fun Z T σ H e Qk k =>
  h Z T σ H e _ fun n vs ds H1 p e1 i1 => p Z (zipT vs ds ++ T) σ H1 (e1.pushAll i1) _ fun n zs es H2 ⟨g1, g2, a0, a1, a2, h1, h2, h3⟩ e2 i2 =>
    ⟨by rw [i1.len]; exact g1, by rw [i2.len]; exact g2, call_prm fit0 e2.popAll (perm_all ((e2.topAll i1.len).append i2) perm) (by simp [gPerm, hpm]) ⟨a0, a1, a2, h1, h2⟩
      (fun _ d z => by have z2 := z a0 a1 a2 h1; rw [← z2] at h3; exact h3) (fun _ d z => by have z2 := z a0 a1 a2 h1; rw [← z2] at h3; exact h3) k (exc_out (ds := gPerm D.non perm ds es) (post := fun (_ : Nat) (ds : List D) (_ : Nat) (o : Out) => ∀ (a0 : α0) (a1 : α1) (a2 : α2), ds = [Enc.e a0, Enc.e a1, Enc.e a2] → o = out a0 a1 a2) fit0 hE e2.popAll fun _ C ns l z => by have z2 := z a0 a1 a2 h1; rw [← z2] at h3; exact h3)⟩
theorem pfG3 {ds : List D} {Q : D → Prop} {a0 : α0} {a1 : α1} {a2 : α2} {fr : Bool} {d : D} (h : ds = [Enc.e a0, Enc.e a1, Enc.e a2]) (h1 : pre a0 a1 a2) (h2 : out a0 a1 a2 = .ret fr d) (q : Q d) : ∃ (a0 : α0) (a1 : α1) (a2 : α2), ds = [Enc.e a0, Enc.e a1, Enc.e a2] ∧ pre a0 a1 a2 ∧ ∃ fr d, out a0 a1 a2 = .ret fr d ∧ Q d := ⟨a0, a1, a2, h, h1, fr, d, h2, q⟩
end
section
variable {α0 : Type} [Enc α0] {α1 : Type} [Enc α1] {α2 : Type} [Enc α2] {α3 : Type} [Enc α3] {pre : α0 → α1 → α2 → α3 → Prop} {out : α0 → α1 → α2 → α3 → Out}
abbrev PF4 (pre : α0 → α1 → α2 → α3 → Prop) (out : α0 → α1 → α2 → α3 → Out) : Sp := Prm 4 V0 G0 (fun _ ds => ∃ (a0 : α0) (a1 : α1) (a2 : α2) (a3 : α3), ds = [Enc.e a0, Enc.e a1, Enc.e a2, Enc.e a3] ∧ pre a0 a1 a2 a3) (fun _ ds _ o => ∀ (a0 : α0) (a1 : α1) (a2 : α2) (a3 : α3), ds = [Enc.e a0, Enc.e a1, Enc.e a2, Enc.e a3] → o = out a0 a1 a2 a3)
theorem pf4_post {o : Out} {a0 : α0} {a1 : α1} {a2 : α2} {a3 : α3} (h : o = out a0 a1 a2 a3) : ∀ (a0' : α0) (a1' : α1) (a2' : α2) (a3' : α3), [Enc.e a0, Enc.e a1, Enc.e a2, Enc.e a3] = [Enc.e a0', Enc.e a1', Enc.e a2', Enc.e a3'] → o = out a0' a1' a2' a3' := fun a0' a1' a2' a3' q => by
  simp only [List.cons.injEq, and_true] at q
  obtain ⟨q0, q1, q2, q3⟩ := q
  rw [h, Enc.inj q0, Enc.inj q1, Enc.inj q2, Enc.inj q3]
variable {P : Program} {w : World} {K : PySem.W.Frag} {mg : Str → Option Value} {base : Heap} {k : Nat} {x : Str} {st : Stmt} {N ps : List Str}
theorem Def.okF4 (Dd : Def K mg x st ps) (S : FnScope N ps (defScope st)) (hn : 4 = ps.length)
    (h : ∀ (f : Addr) (cdv : Value) (A : Around) (outer : List PySem.Env) (s : Shared) (H : Hp) (E : XK), Room k (A.deeper (envOfC x (defScope st) s.heap.objs.size f cdv)) →
      ∃ t, PSs (cxD P w K mg base N x st f cdv A outer s H E) (defBody st) t ∧ ∀ (W : Wd) (n : Nat) (a0 : α0) (a1 : α1) (a2 : α2) (a3 : α3), W.V = V0 → W.G = G0 → W.E = E → (∀ n C ns l, Out.exc C ns l = out a0 a1 a2 a3 → W.EP n C ns l) → pre a0 a1 a2 a3 →
        DS t W n (startR N [Enc.e a0, Enc.e a1, Enc.e a2, Enc.e a3]) (fun _ _ => Out.ret false .non = out a0 a1 a2 a3) (fun _ fr d => Out.ret fr d = out a0 a1 a2 a3) (fun _ _ => False) (fun _ _ => False)) : Cal P w K mg base (k + 1) x st ps (PF4 pre out) :=
  Dd.ok S hn stab0 fun f cdv A outer s H E hr => by
    obtain ⟨t, ht, hd⟩ := h f cdv A outer s H E hr
    refine ⟨t, ht, ?_⟩
    rintro W n ds hV hG hE hEP hl ⟨a0, a1, a2, a3, rfl, hp⟩
    exact (hd W n a0 a1 a2 a3 hV hG hE (fun n C ns l q => by rw [hEP]; exact pf4_post q) hp).impR (fun n ρ q => pf4_post q) fun n fr d q => pf4_post q
variable {W : Wd} {n q j : Nat} {ρ : Rho} {Q : Nat → D → Prop} {E : XK} {tas tks : TA} {perm : List Nat}
theorem de_pf4 (h : DA tas W n ρ fun n ds => ∃ (a0 : α0) (a1 : α1) (a2 : α2) (a3 : α3), ds = [Enc.e a0, Enc.e a1, Enc.e a2, Enc.e a3] ∧ pre a0 a1 a2 a3 ∧ ∃ fr d, out a0 a1 a2 a3 = .ret fr d ∧ Q n d) : DE (tCall (PF4 pre out) [] E tas) W n ρ Q :=
  de_call fit0 (h.imp fun n ds ⟨a0, a1, a2, a3, h1, h2, fr, d, h3, h4⟩ => ⟨by rw [h1]; rfl, ⟨a0, a1, a2, a3, h1, h2⟩, fun _ C ns l q => (by have q1 := q a0 a1 a2 a3 h1; rw [h3] at q1; cases q1), fun _ b d q => by have q1 := q a0 a1 a2 a3 h1; rw [h3] at q1; cases q1; exact h4⟩)
theorem df_pf4 (h : DA tas W n ρ fun n ds => ∃ (a0 : α0) (a1 : α1) (a2 : α2) (a3 : α3), ds = [Enc.e a0, Enc.e a1, Enc.e a2, Enc.e a3] ∧ pre a0 a1 a2 a3 ∧ ∃ d, out a0 a1 a2 a3 = .ret true d ∧ Q n d) : DF (tCall (PF4 pre out) [] E tas) W n ρ Q :=
  df_call fit0 (h.imp fun n ds ⟨a0, a1, a2, a3, h1, h2, d, h3, h4⟩ => ⟨by rw [h1]; rfl, ⟨a0, a1, a2, a3, h1, h2⟩, fun _ C ns l q => (by have q1 := q a0 a1 a2 a3 h1; rw [h3] at q1; cases q1), fun _ d q => (by have q1 := q a0 a1 a2 a3 h1; rw [h3] at q1; cases q1), fun _ d q => by have q1 := q a0 a1 a2 a3 h1; rw [h3] at q1; cases q1; exact h4⟩)
theorem de_pf4E (hE : W.E = E) (h : DA tas W n ρ fun n ds => ∃ (a0 : α0) (a1 : α1) (a2 : α2) (a3 : α3), ds = [Enc.e a0, Enc.e a1, Enc.e a2, Enc.e a3] ∧ pre a0 a1 a2 a3 ∧ Outs (W.EP n) (Q n) (out a0 a1 a2 a3)) : DE (tCall (PF4 pre out) [] E tas) W n ρ Q :=
  de_callE fit0 hE (h.imp fun n ds ⟨a0, a1, a2, a3, h1, h2, h3⟩ => ⟨by rw [h1]; rfl, ⟨a0, a1, a2, a3, h1, h2⟩, fun _ C ns l q => (by have q1 := q a0 a1 a2 a3 h1; rw [← q1] at h3; exact h3), fun _ b d q => by have q1 := q a0 a1 a2 a3 h1; rw [← q1] at h3; exact h3⟩)
theorem de_pf4K (hE : W.E = E) (hpm : perm.length = 4) (h : DA tas W n ρ fun n ds => DA tks W n ρ fun n es => ds.length = q ∧ es.length = j ∧ ∃ (a0 : α0) (a1 : α1) (a2 : α2) (a3 : α3), gPerm D.non perm ds es = [Enc.e a0, Enc.e a1, Enc.e a2, Enc.e a3] ∧ pre a0 a1 a2 a3 ∧ Outs (W.EP n) (Q n) (out a0 a1 a2 a3)) : DE (tCalK q j (PF4 pre out) perm E tas tks) W n ρ Q := fun Z T σ H e Qk k =>
  h Z T σ H e _ fun n vs ds H1 p e1 i1 => p Z (zipT vs ds ++ T) σ H1 (e1.pushAll i1) _ fun n zs es H2 ⟨g1, g2, a0, a1, a2, a3, h1, h2, h3⟩ e2 i2 =>
    ⟨by rw [i1.len]; exact g1, by rw [i2.len]; exact g2, call_prm fit0 e2.popAll (perm_all ((e2.topAll i1.len).append i2) perm) (by simp [gPerm, hpm]) ⟨a0, a1, a2, a3, h1, h2⟩
      (fun _ d z => by have z2 := z a0 a1 a2 a3 h1; rw [← z2] at h3; exact h3) (fun _ d z => by have z2 := z a0 a1 a2 a3 h1; rw [← z2] at h3; exact h3) k (exc_out (ds := gPerm D.non perm ds es) (post := fun (_ : Nat) (ds : List D) (_ : Nat) (o : Out) => ∀ (a0 : α0) (a1 : α1) (a2 : α2) (a3 : α3), ds = [Enc.e a0, Enc.e a1, Enc.e a2, Enc.e a3] → o = out a0 a1 a2 a3) fit0 hE e2.popAll fun _ C ns l z => by have z2 := z a0 a1 a2 a3 h1; rw [← z2] at h3; exact h3)⟩
theorem pfG4 {ds : List D} {Q : D → Prop} {a0 : α0} {a1 : α1} {a2 : α2} {a3 : α3} {fr : Bool} {d : D} (h : ds = [Enc.e a0, Enc.e a1, Enc.e a2, Enc.e a3]) (h1 : pre a0 a1 a2 a3) (h2 : out a0 a1 a2 a3 = .ret fr d) (q : Q d) : ∃ (a0 : α0) (a1 : α1) (a2 : α2) (a3 : α3), ds = [Enc.e a0, Enc.e a1, Enc.e a2, Enc.e a3] ∧ pre a0 a1 a2 a3 ∧ ∃ fr d, out a0 a1 a2 a3 = .ret fr d ∧ Q d := ⟨a0, a1, a2, a3, h, h1, fr, d, h2, q⟩
end
section
variable {α0 : Type} [Enc α0] {α1 : Type} [Enc α1] {α2 : Type} [Enc α2] {α3 : Type} [Enc α3] {α4 : Type} [Enc α4] {pre : α0 → α1 → α2 → α3 → α4 → Prop} {out : α0 → α1 → α2 → α3 → α4 → Out}
abbrev PF5 (pre : α0 → α1 → α2 → α3 → α4 → Prop) (out : α0 → α1 → α2 → α3 → α4 → Out) : Sp := Prm 5 V0 G0 (fun _ ds => ∃ (a0 : α0) (a1 : α1) (a2 : α2) (a3 : α3) (a4 : α4), ds = [Enc.e a0, Enc.e a1, Enc.e a2, Enc.e a3, Enc.e a4] ∧ pre a0 a1 a2 a3 a4) (fun _ ds _ o => ∀ (a0 : α0) (a1 : α1) (a2 : α2) (a3 : α3) (a4 : α4), ds = [Enc.e a0, Enc.e a1, Enc.e a2, Enc.e a3, Enc.e a4] → o = out a0 a1 a2 a3 a4)
theorem pf5_post {o : Out} {a0 : α0} {a1 : α1} {a2 : α2} {a3 : α3} {a4 : α4} (h : o = out a0 a1 a2 a3 a4) : ∀ (a0' : α0) (a1' : α1) (a2' : α2) (a3' : α3) (a4' : α4), [Enc.e a0, Enc.e a1, Enc.e a2, Enc.e a3, Enc.e a4] = [Enc.e a0', Enc.e a1', Enc.e a2', Enc.e a3', Enc.e a4'] → o = out a0' a1' a2' a3' a4' := fun a0' a1' a2' a3' a4' q => by
  simp only [List.cons.injEq, and_true] at q
  obtain ⟨q0, q1, q2, q3, q4⟩ := q
  rw [h, Enc.inj q0, Enc.inj q1, Enc.inj q2, Enc.inj q3, Enc.inj q4]
variable {P : Program} {w : World} {K : PySem.W.Frag} {mg : Str → Option Value} {base : Heap} {k : Nat} {x : Str} {st : Stmt} {N ps : List Str}
theorem Def.okF5 (Dd : Def K mg x st ps) (S : FnScope N ps (defScope st)) (hn : 5 = ps.length)
    (h : ∀ (f : Addr) (cdv : Value) (A : Around) (outer : List PySem.Env) (s : Shared) (H : Hp) (E : XK), Room k (A.deeper (envOfC x (defScope st) s.heap.objs.size f cdv)) →
      ∃ t, PSs (cxD P w K mg base N x st f cdv A outer s H E) (defBody st) t ∧ ∀ (W : Wd) (n : Nat) (a0 : α0) (a1 : α1) (a2 : α2) (a3 : α3) (a4 : α4), W.V = V0 → W.G = G0 → W.E = E → (∀ n C ns l, Out.exc C ns l = out a0 a1 a2 a3 a4 → W.EP n C ns l) → pre a0 a1 a2 a3 a4 →
        DS t W n (startR N [Enc.e a0, Enc.e a1, Enc.e a2, Enc.e a3, Enc.e a4]) (fun _ _ => Out.ret false .non = out a0 a1 a2 a3 a4) (fun _ fr d => Out.ret fr d = out a0 a1 a2 a3 a4) (fun _ _ => False) (fun _ _ => False)) : Cal P w K mg base (k + 1) x st ps (PF5 pre out) :=
  Dd.ok S hn stab0 fun f cdv A outer s H E hr => by
    obtain ⟨t, ht, hd⟩ := h f cdv A outer s H E hr
    refine ⟨t, ht, ?_⟩
    rintro W n ds hV hG hE hEP hl ⟨a0, a1, a2, a3, a4, rfl, hp⟩
    exact (hd W n a0 a1 a2 a3 a4 hV hG hE (fun n C ns l q => by rw [hEP]; exact pf5_post q) hp).impR (fun n ρ q => pf5_post q) fun n fr d q => pf5_post q
variable {W : Wd} {n q j : Nat} {ρ : Rho} {Q : Nat → D → Prop} {E : XK} {tas tks : TA} {perm : List Nat}
theorem de_pf5 (h : DA tas W n ρ fun n ds => ∃ (a0 : α0) (a1 : α1) (a2 : α2) (a3 : α3) (a4 : α4), ds = [Enc.e a0, Enc.e a1, Enc.e a2, Enc.e a3, Enc.e a4] ∧ pre a0 a1 a2 a3 a4 ∧ ∃ fr d, out a0 a1 a2 a3 a4 = .ret fr d ∧ Q n d) : DE (tCall (PF5 pre out) [] E tas) W n ρ Q :=
  de_call fit0 (h.imp fun n ds ⟨a0, a1, a2, a3, a4, h1, h2, fr, d, h3, h4⟩ => ⟨by rw [h1]; rfl, ⟨a0, a1, a2, a3, a4, h1, h2⟩, fun _ C ns l q => (by have q1 := q a0 a1 a2 a3 a4 h1; rw [h3] at q1; cases q1), fun _ b d q => by have q1 := q a0 a1 a2 a3 a4 h1; rw [h3] at q1; cases q1; exact h4⟩)
theorem df_pf5 (h : DA tas W n ρ fun n ds => ∃ (a0 : α0) (a1 : α1) (a2 : α2) (a3 : α3) (a4 : α4), ds = [Enc.e a0, Enc.e a1, Enc.e a2, Enc.e a3, Enc.e a4] ∧ pre a0 a1 a2 a3 a4 ∧ ∃ d, out a0 a1 a2 a3 a4 = .ret true d ∧ Q n d) : DF (tCall (PF5 pre out) [] E tas) W n ρ Q :=
  df_call fit0 (h.imp fun n ds ⟨a0, a1, a2, a3, a4, h1, h2, d, h3, h4⟩ => ⟨by rw [h1]; rfl, ⟨a0, a1, a2, a3, a4, h1, h2⟩, fun _ C ns l q => (by have q1 := q a0 a1 a2 a3 a4 h1; rw [h3] at q1; cases q1), fun _ d q => (by have q1 := q a0 a1 a2 a3 a4 h1; rw [h3] at q1; cases q1), fun _ d q => by have q1 := q a0 a1 a2 a3 a4 h1; rw [h3] at q1; cases q1; exact h4⟩)
theorem de_pf5E (hE : W.E = E) (h : DA tas W n ρ fun n ds => ∃ (a0 : α0) (a1 : α1) (a2 : α2) (a3 : α3) (a4 : α4), ds = [Enc.e a0, Enc.e a1, Enc.e a2, Enc.e a3, Enc.e a4] ∧ pre a0 a1 a2 a3 a4 ∧ Outs (W.EP n) (Q n) (out a0 a1 a2 a3 a4)) : DE (tCall (PF5 pre out) [] E tas) W n ρ Q :=
  de_callE fit0 hE (h.imp fun n ds ⟨a0, a1, a2, a3, a4, h1, h2, h3⟩ => ⟨by rw [h1]; rfl, ⟨a0, a1, a2, a3, a4, h1, h2⟩, fun _ C ns l q => (by have q1 := q a0 a1 a2 a3 a4 h1; rw [← q1] at h3; exact h3), fun _ b d q => by have q1 := q a0 a1 a2 a3 a4 h1; rw [← q1] at h3; exact h3⟩)
theorem de_pf5K (hE : W.E = E) (hpm : perm.length = 5) (h : DA tas W n ρ fun n ds => DA tks W n ρ fun n es => ds.length = q ∧ es.length = j ∧ ∃ (a0 : α0) (a1 : α1) (a2 : α2) (a3 : α3) (a4 : α4), gPerm D.non perm ds es = [Enc.e a0, Enc.e a1, Enc.e a2, Enc.e a3, Enc.e a4] ∧ pre a0 a1 a2 a3 a4 ∧ Outs (W.EP n) (Q n) (out a0 a1 a2 a3 a4)) : DE (tCalK q j (PF5 pre out) perm E tas tks) W n ρ Q := fun Z T σ H e Qk k =>
  h Z T σ H e _ fun n vs ds H1 p e1 i1 => p Z (zipT vs ds ++ T) σ H1 (e1.pushAll i1) _ fun n zs es H2 ⟨g1, g2, a0, a1, a2, a3, a4, h1, h2, h3⟩ e2 i2 =>
    ⟨by rw [i1.len]; exact g1, by rw [i2.len]; exact g2, call_prm fit0 e2.popAll (perm_all ((e2.topAll i1.len).append i2) perm) (by simp [gPerm, hpm]) ⟨a0, a1, a2, a3, a4, h1, h2⟩
      (fun _ d z => by have z2 := z a0 a1 a2 a3 a4 h1; rw [← z2] at h3; exact h3) (fun _ d z => by have z2 := z a0 a1 a2 a3 a4 h1; rw [← z2] at h3; exact h3) k (exc_out (ds := gPerm D.non perm ds es) (post := fun (_ : Nat) (ds : List D) (_ : Nat) (o : Out) => ∀ (a0 : α0) (a1 : α1) (a2 : α2) (a3 : α3) (a4 : α4), ds = [Enc.e a0, Enc.e a1, Enc.e a2, Enc.e a3, Enc.e a4] → o = out a0 a1 a2 a3 a4) fit0 hE e2.popAll fun _ C ns l z => by have z2 := z a0 a1 a2 a3 a4 h1; rw [← z2] at h3; exact h3)⟩
theorem pfG5 {ds : List D} {Q : D → Prop} {a0 : α0} {a1 : α1} {a2 : α2} {a3 : α3} {a4 : α4} {fr : Bool} {d : D} (h : ds = [Enc.e a0, Enc.e a1, Enc.e a2, Enc.e a3, Enc.e a4]) (h1 : pre a0 a1 a2 a3 a4) (h2 : out a0 a1 a2 a3 a4 = .ret fr d) (q : Q d) : ∃ (a0 : α0) (a1 : α1) (a2 : α2) (a3 : α3) (a4 : α4), ds = [Enc.e a0, Enc.e a1, Enc.e a2, Enc.e a3, Enc.e a4] ∧ pre a0 a1 a2 a3 a4 ∧ ∃ fr d, out a0 a1 a2 a3 a4 = .ret fr d ∧ Q d := ⟨a0, a1, a2, a3, a4, h, h1, fr, d, h2, q⟩
end
end HD

namespace HD
open PySem PySem.Spec PyProof.Rows L2
section
variable {W : Wd} {n : Nat} {Z : ZL} {T : TL} {ρ : Rho} {σ : L2.St} {H : Hp} {N : Nat → Rho → Prop} {R : Nat → Bool → D → Prop} {B C : Nat → Rho → Prop} {te ti ta : TE} {d : D} {K : PySem.W.Frag} {P : Nat → D → Prop}
theorem ixN_nat {k n : Nat} (h : k < n) : ixN n (k : Int) = some k := by
  unfold ixN
  simp [h]
theorem ixN_int {i : Int} {n : Nat} (h0 : 0 ≤ i) (h : i < n) : ixN n i = some i.toNat := by
  unfold ixN
  rw [if_pos h0, if_pos h]
theorem atI_int {l : List D} {i : Int} (h0 : 0 ≤ i) (h : i < l.length) : atI l i = l[i.toNat]? := by
  unfold atI
  rw [ixN_int h0 h]; rfl
theorem atI_map {α : Type} {f : α → D} {l : List α} {i : Int} (h0 : 0 ≤ i) (h : i < l.length) : atI (l.map f) i = some (f (l[i.toNat]'(by omega))) := by
  rw [atI_int h0 (by rw [List.length_map]; exact h), List.getElem?_map, List.getElem?_eq_getElem (by omega)]; rfl
theorem atI_neg1 {l : List D} {x : D} : atI (l ++ [x]) (-1) = some x := by
  unfold atI ixN
  have e : (-1 + ((l.length : Int) + 1)).toNat = l.length := by omega
  simp
  rw [if_pos (by omega)]
  show (l ++ [x])[(-1 + ((l.length : Int) + 1)).toNat]? = some x
  rw [e]; simp
/-- xs[i] = e, xs a slot's own -/
theorem ds_lput {i : Nat} {ds : List D} (h : ρ[i]? = some (some (true, .lst ds))) (k : DE te W n ρ fun n d => DE ti W n ρ fun n di => ∃ (q : Int) (j : Nat), di = .int q ∧ ixN ds.length q = some j ∧ N n (ρ.set i (some (true, .lst (ds.set j d))))) :
    DS (tAsg te (gSub (tVar i) ti rSetL)) W n ρ N R B C := fun Z T σ H e De f =>
  k Z T σ H e _ fun n v d H1 p1 e1 iv => by
    obtain ⟨a, xs, s1, h1, hx⟩ := own_lst e1 h
    refine ⟨.ref a, s1, p1 Z ((v, d) :: T) σ H1 (e1.push iv) _ fun n y di H2 ⟨q, j, ed, hj, pn⟩ e2 iy => ?_⟩
    subst ed
    cases iy
    obtain ⟨a', xs2, s2, h2, hx2⟩ := own_lst e2 h
    rw [s1] at s2; cases s2
    exact ⟨a, xs2, q, j, rfl, rfl, h2, by rw [hx2.len]; exact hj, f.nx _ _ _ _ pn ((e2.put h s1 (.lst (hx2.set e2.top j))).pop1)⟩
theorem lputG {di : D} {q : Int} {j len : Nat} {Q : Nat → Prop} (h0 : di = .int q) (h1 : ixN len q = some j) (k : Q j) : ∃ (q : Int) (j : Nat), di = .int q ∧ ixN len q = some j ∧ Q j := ⟨q, j, h0, h1, k⟩
/-- list(e) as a new list -/
theorem df_list {tas : TA} (h : DA tas W n ρ fun n ds => ∃ d l, ds = [d] ∧ (d = .lst l ∨ d = .tup l) ∧ P n (.lst l)) : DF (tCB (rList K) tas) W n ρ P := df_cb (h.imp fun n ds ⟨d, l, e, h1, p⟩ => by rw [e]; exact b_list h1 p)
/-- xs.append(ys.pop(e)), both slots' own -/
theorem ds_append_pop {i j : Nat} {ds es : List D} (h : ρ[i]? = some (some (true, .lst ds))) (hj : ρ[j]? = some (some (true, .lst es))) (hij : i ≠ j)
    (k : DE te W n ρ fun n d => ∃ (q : Nat) (x : D), d = .int (q : Int) ∧ q < 2 ^ 62 ∧ es[q]? = some x ∧ ds.length < sizeLine ∧ N n ((ρ.set j (some (true, .lst (es.eraseIdx q)))).set i (some (true, .lst (ds ++ [x]))))) :
    DS (tDrop (tBM K "list" rAppend (tVar i) (tCons (tBM K "list" rPopAt (tVar j) (tCons te tNil)) tNil))) W n ρ N R B C := fun Z T σ H e De f => by
  obtain ⟨a, xs, h1, h2, h3⟩ := own_lst e h
  obtain ⟨b, ys, g1, g2, g3⟩ := own_lst e hj
  refine ⟨.ref a, h1, tyL h2, .ref b, g1, tyL g2, k Z T σ H e _ fun n v d H' ⟨q, x, ed, hq, hx, hl, pn⟩ e' iv => ?_⟩
  subst ed
  cases iv
  obtain ⟨ys', k1, k2⟩ := own_same e' e' hj g1
  have hlen := k2.len
  have hqlt : q < es.length := (List.getElem?_eq_some_iff.mp hx).1
  obtain ⟨y, hy, iy⟩ := k2.got hx
  refine ⟨b, ys', (q : Int), q, y, rfl, rfl, k1, by omega, by omega, ?_, hy, ?_⟩
  · rw [hlen]
    unfold seqIndex?
    have a1 : ¬ ((q : Int) < 0) := by omega
    have a2 : (0 ≤ (q : Int) && decide ((q : Int) < (es.length : Int))) = true := by
      rw [Bool.and_eq_true, decide_eq_true_iff, decide_eq_true_iff]; omega
    simp only [if_neg a1]
    first | rw [if_pos a2]; simp | simp [hqlt]
  · have e1 := (e'.push iy).put hj g1 (.lst (k2.eraseIdx q))
    have h' : (ρ.set j (some (true, D.lst (es.eraseIdx q))))[i]? = some (some (true, .lst ds)) := by
      rw [List.getElem?_set_ne (Ne.symm hij)]; exact h
    obtain ⟨xs', m1, m2⟩ := own_same e1 e1 h' h1
    exact ⟨a, xs', y, rfl, rfl, m1, by rw [m2.len]; exact hl, f.nx _ _ _ _ pn ((e1.put h' h1 (.lst (m2.snoc e1.top))).pop1)⟩
/-- xs.pop(), the item not used -/
theorem ds_dropPop {i : Nat} {ds : List D} {d : D} (h : ρ[i]? = some (some (true, .lst (ds ++ [d])))) (q : N n (ρ.set i (some (true, .lst ds)))) : DS (tDrop (tBM0 K "list" rPop (tVar i))) W n ρ N R B C := fun Z T σ H e De f => by
  obtain ⟨a, xs, h1, h2, h3⟩ := own_lst e h
  have hl := h3.len
  rw [List.length_append] at hl
  have hl : xs.length = ds.length + 1 := hl
  obtain ⟨v, q1, q2⟩ := h3.got (i := ds.length) (d := d) (by rw [List.getElem?_append_right (Nat.le_refl _), Nat.sub_self]; rfl)
  have h4 : IsAll (XX W Z ρ σ) H xs.dropLast ds := by
    have := h3.take ds.length
    rw [List.take_left' rfl] at this
    rw [List.dropLast_eq_take, hl]
    exact this
  have e1 : Env W n Z ((v, d) :: T) (ρ.set i (some (true, .lst ds))) σ (upd H a (.lst xs.dropLast)) := (e.push q2).put h h1 (.lst h4)
  exact ⟨.ref a, h1, tyL h2, a, xs, v, rfl, rfl, h2, by rw [hl]; exact q1, f.nx _ _ _ _ q e1.pop1⟩
/-- a slot's own list walked while it stands still: frozen first -/
theorem di_ownL {i : Nat} {ds : List D} {wi : TI} {P : Nat → List D → Prop} {g : TG} {t : TS} (h : ρ[i]? = some (some (true, .lst ds))) (k : DS t W n (ρ.set i (some (false, .lst ds))) N R B C) : DS t W n ρ N R B C := ds_freeze h k
end
end HD

namespace HD
open PySem PySem.Spec PyProof.Rows L2
/-! ### plain walks by their passes: where they can be shortened, whether pulls fit -/
def pAt (w : Wk) (i : Nat) : Ps := w.passes.getD i (0, 0)
def uAt (w : Wk) (i : Nat) : Int := w.pulls.getD i 0
theorem pAt_some {w : Wk} {i : Nat} (h : i < w.passes.length) : w.passes[i]? = some (pAt w i) := by
  unfold pAt; rw [List.getD_eq_getElem?_getD, List.getElem?_eq_getElem h]; rfl
theorem uAt_some {w : Wk} {i : Nat} (h : i < w.pulls.length) : w.pulls[i]? = some (uAt w i) := by
  unfold uAt; rw [List.getD_eq_getElem?_getD, List.getElem?_eq_getElem h]; rfl
theorem pAt_of {w : Wk} {i : Nat} {p : Ps} (h : w.passes[i]? = some p) : pAt w i = p := by unfold pAt; rw [List.getD_eq_getElem?_getD, h]; rfl
theorem uAt_of {w : Wk} {i : Nat} {u : Int} (h : w.pulls[i]? = some u) : uAt w i = u := by unfold uAt; rw [List.getD_eq_getElem?_getD, h]; rfl
/-- the pass behind is the back -/
def turn (w : Wk) (i : Nat) : Prop := i + 1 < w.passes.length ∧ pAt w (i + 1) = bk (pAt w i)
instance (w : Wk) (i : Nat) : Decidable (turn w i) := by unfold turn; infer_instance
section
variable (lv ar : LF)
def spot (w : Wk) (i : Nat) : Prop := turn w i ∧ ar (pAt w i) ∣ uAt w (i + 1)
instance (w : Wk) (i : Nat) : Decidable (spot ar w i) := by unfold spot; infer_instance
def fit (w : Wk) (i : Nat) : Prop := i < w.passes.length → 0 ≤ uAt w i ∧ uAt w i < (lv (pAt w i)).natAbs
def spotsL (w : Wk) : List Nat := (List.range w.passes.length).filter fun i => decide (spot ar w i)
end
section
variable {lv ar : LF} {ok : Ps → Prop}
theorem mem_spots {w : Wk} {i : Nat} : i ∈ spotsL ar w ↔ spot ar w i := by
  unfold spotsL
  rw [List.mem_filter, List.mem_range, decide_eq_true_iff]
  exact ⟨fun h => h.2, fun h => ⟨by have := h.1.1; omega, h⟩⟩
theorem spots_nil {w : Wk} : spotsL ar w = [] ↔ ∀ i, ¬ spot ar w i := by
  rw [List.eq_nil_iff_forall_not_mem]
  exact ⟨fun h i hi => h i (mem_spots.mpr hi), fun h i hi => h i (mem_spots.mp hi)⟩
theorem red_iff : ∀ {l : List (Int × Ps)}, red lv ar l ↔ (∀ e ∈ l, 0 ≤ e.1 ∧ e.1 < (lv e.2).natAbs) ∧ ∀ i a b, l[i]? = some a → l[i + 1]? = some b → ¬ (a.2 = bk b.2 ∧ ar b.2 ∣ a.1)
  | [] => ⟨fun _ => ⟨fun _ h => (nomatch h), fun i a b h => by cases i <;> cases h⟩, fun _ => True.intro⟩
  | (r, p) :: t => by
    show (0 ≤ r ∧ r < (lv p).natAbs ∧ (match t with
    | [] => True
    | (_, q) :: _ => ¬ (p = bk q ∧ ar q ∣ r)) ∧ red lv ar t) ↔ _
    rw [red_iff (l := t)]
    constructor
    · rintro ⟨h1, h2, h3, h4, h5⟩
      refine ⟨fun e he => ?_, fun i a b ha hb => ?_⟩
      · rcases List.mem_cons.mp he with rfl | he
        · exact ⟨h1, h2⟩
        · exact h4 e he
      · cases i with
        | zero =>
          cases t with
          | nil => simp at hb
          | cons c t =>
            obtain ⟨s, q⟩ := c
            simp at ha hb
            subst ha hb
            exact h3
        | succ i => exact h5 i a b (by simpa using ha) (by simpa using hb)
    · rintro ⟨h1, h2⟩
      have h0 := h1 (r, p) List.mem_cons_self
      refine ⟨h0.1, h0.2, ?_, fun e he => h1 e (List.mem_cons_of_mem _ he), fun i a b ha hb => h2 (i + 1) a b (by simpa using ha) (by simpa using hb)⟩
      cases t with
      | nil => exact True.intro
      | cons c t =>
        obtain ⟨s, q⟩ := c
        exact h2 0 (r, p) (s, q) rfl rfl
theorem zip_at {w : Wk} (hl : w.pulls.length = w.passes.length + 1) {i : Nat} (h : i < w.passes.length) : (w.pulls.zip w.passes)[i]? = some (uAt w i, pAt w i) := by
  rw [List.getElem?_zip_eq_some]
  exact ⟨uAt_some (by omega), pAt_some h⟩
/-- plain: no spot, all pulls in their range -/
theorem plain_iff {w : Wk} (hl : w.pulls.length = w.passes.length + 1) : Plain lv ar w ↔ (∀ i, ¬ spot ar w i) ∧ ∀ i, fit lv w i := by
  unfold Plain
  rw [red_iff]
  have hz : (w.pulls.zip w.passes).length = w.passes.length := by rw [List.length_zip]; omega
  constructor
  · rintro ⟨h1, h2⟩
    refine ⟨fun i hi => ?_, fun i hi => ?_⟩
    · obtain ⟨⟨hi1, hi2⟩, hi3⟩ := hi
      refine h2 (w.passes.length - 1 - (i + 1)) (uAt w (i + 1), pAt w (i + 1)) (uAt w i, pAt w i) ?_ ?_ ⟨hi2, hi3⟩
      · show (w.pulls.zip w.passes).reverse[_]? = _
        rw [List.getElem?_reverse (by omega), hz, show w.passes.length - 1 - (w.passes.length - 1 - (i + 1)) = i + 1 by omega]
        exact zip_at hl (by omega)
      · show (w.pulls.zip w.passes).reverse[_]? = _
        rw [List.getElem?_reverse (by omega), hz, show w.passes.length - 1 - (w.passes.length - 1 - (i + 1) + 1) = i by omega]
        exact zip_at hl (by omega)
    · refine h1 (uAt w i, pAt w i) ?_
      show _ ∈ (w.pulls.zip w.passes).reverse
      rw [List.mem_reverse]
      exact List.mem_of_getElem? (zip_at hl hi)
  · rintro ⟨h1, h2⟩
    refine ⟨fun e he => ?_, fun i a b ha hb hab => ?_⟩
    · have he' : e ∈ (w.pulls.zip w.passes).reverse := he
      rw [List.mem_reverse] at he'
      obtain ⟨i, hi⟩ := List.mem_iff_getElem?.mp he'
      have hlt : i < w.passes.length := by rw [← hz]; exact (List.getElem?_eq_some_iff.mp hi).1
      rw [zip_at hl hlt] at hi
      cases hi
      exact h2 i hlt
    · have ha' : (w.pulls.zip w.passes).reverse[i]? = some a := ha
      have hb' : (w.pulls.zip w.passes).reverse[i + 1]? = some b := hb
      have hlt : i + 1 < w.passes.length := by
        have := (List.getElem?_eq_some_iff.mp hb').1
        rw [List.length_reverse, hz] at this; exact this
      rw [List.getElem?_reverse (by omega), hz, zip_at hl (by omega)] at ha' hb'
      cases ha'; cases hb'
      refine h1 (w.passes.length - 1 - (i + 1)) ⟨⟨by omega, ?_⟩, ?_⟩
      · rw [show w.passes.length - 1 - (i + 1) + 1 = w.passes.length - 1 - i by omega]; exact hab.1
      · rw [show w.passes.length - 1 - (i + 1) + 1 = w.passes.length - 1 - i by omega]; exact hab.2
/-! ### carrying -/
def carryW (lv ar : LF) (w : Wk) (i : Nat) (t : Int) : Wk := ⟨w.room, carryL lv ar i t w.pulls w.passes, w.passes⟩
theorem carryL_set {t : Int} : ∀ {i : Nat} {xs : List Int} {ps : List Ps} {p : Ps} {u v : Int}, ps[i]? = some p → xs[i]? = some u → xs[i + 1]? = some v → carryL lv ar i t xs ps = (xs.set i (u - lv p * t)).set (i + 1) (v + ar p * t)
  | 0, a :: b :: xs, q :: ps, p, u, v, h1, h2, h3 => by
    simp at h1 h2 h3
    subst h1 h2 h3
    rfl
  | i + 1, a :: xs, q :: ps, p, u, v, h1, h2, h3 => by
    show a :: carryL lv ar i t xs ps = a :: ((xs.set i _).set (i + 1) _)
    rw [carryL_set (by simpa using h1) (by simpa using h2) (by simpa using h3)]
  | 0, [], _, _, _, _, _, h, _ => by simp at h
  | 0, [_], _, _, _, _, _, _, h => by simp at h
  | 0, _ :: _ :: _, [], _, _, _, h, _, _ => by simp at h
  | _ + 1, [], _, _, _, _, _, h, _ => by simp at h
  | _ + 1, _ :: _, [], _, _, _, h, _, _ => by simp at h
theorem carryL_len {t : Int} : ∀ {i : Nat} {xs : List Int} {ps : List Ps}, (carryL lv ar i t xs ps).length = xs.length
  | 0, a :: b :: xs, q :: ps => rfl
  | i + 1, a :: xs, q :: ps => by
    show (carryL lv ar i t xs ps).length + 1 = xs.length + 1
    rw [carryL_len]
  | 0, [], _ => rfl
  | 0, [_], _ => rfl
  | 0, _ :: _ :: _, [] => rfl
  | _ + 1, [], _ => rfl
  | _ + 1, _ :: _, [] => rfl
theorem carry_pulls {w : Wk} (hl : w.pulls.length = w.passes.length + 1) {i : Nat} (h : i < w.passes.length) (t : Int) : (carryW lv ar w i t).pulls = (w.pulls.set i (uAt w i - lv (pAt w i) * t)).set (i + 1) (uAt w (i + 1) + ar (pAt w i) * t) :=
  carryL_set (pAt_some h) (uAt_some (by omega)) (uAt_some (by omega))
theorem carry_u {w : Wk} (hl : w.pulls.length = w.passes.length + 1) {i : Nat} (h : i < w.passes.length) (t : Int) (j : Nat) : uAt (carryW lv ar w i t) j = if j = i then uAt w i - lv (pAt w i) * t else if j = i + 1 then uAt w (i + 1) + ar (pAt w i) * t else uAt w j := by
  unfold uAt
  rw [carry_pulls hl h, List.getD_eq_getElem?_getD, List.getElem?_set, List.getElem?_set]
  simp only [List.length_set]
  by_cases h1 : j = i
  · subst h1
    rw [if_neg (by omega), if_pos rfl, if_pos (by omega), if_pos rfl]; rfl
  · rw [if_neg h1]
    by_cases h2 : j = i + 1
    · subst h2
      rw [if_pos rfl, if_pos (by omega), if_pos rfl]; rfl
    · rw [if_neg (by omega), if_neg (by omega), if_neg h2, List.getD_eq_getElem?_getD]
theorem carry_p (w : Wk) (i : Nat) (t : Int) (j : Nat) : pAt (carryW lv ar w i t) j = pAt w j := rfl
theorem carry_turn (w : Wk) (i : Nat) (t : Int) (j : Nat) : turn (carryW lv ar w i t) j ↔ turn w j := Iff.rfl
theorem dvd_add_mul {b x t : Int} : b ∣ x + b * t ↔ b ∣ x := ⟨fun h => by
  have := Int.dvd_sub h (Int.dvd_mul_right b t)
  rwa [Int.add_sub_cancel] at this, fun h => Int.dvd_add h (Int.dvd_mul_right _ _)⟩
theorem carry_spot (F : Flip ok lv ar) {w : Wk} (hl : w.pulls.length = w.passes.length + 1) (hp : ∀ p ∈ w.passes, ok p) {i : Nat} (h : i < w.passes.length) (t : Int) (j : Nat) : spot ar (carryW lv ar w i t) j ↔ spot ar w j := by
  unfold spot
  rw [carry_turn, carry_p]
  refine and_congr_right fun ht => ?_
  rw [carry_u hl h]
  by_cases h1 : j + 1 = i
  · subst h1
    rw [if_pos rfl, ht.2, F.l _ (hp _ (List.mem_of_getElem? (pAt_some (by have := ht.1; omega))))]
    rw [show uAt w (j + 1) - ar (pAt w j) * t = uAt w (j + 1) + ar (pAt w j) * (-t) by rw [Int.mul_neg]; rfl]
    exact dvd_add_mul
  · rw [if_neg h1]
    by_cases h2 : j + 1 = i + 1
    · rw [if_pos h2]
      obtain rfl : j = i := by omega
      exact dvd_add_mul
    · rw [if_neg h2]
theorem carry_fit {w : Wk} (hl : w.pulls.length = w.passes.length + 1) {i : Nat} (h : i < w.passes.length) (t : Int) {j : Nat} (h1 : j ≠ i) (h2 : j ≠ i + 1) : fit lv (carryW lv ar w i t) j ↔ fit lv w j := by
  unfold fit
  rw [carry_u hl h, carry_p, if_neg h1, if_neg h2]
  rfl
/-- how often to carry so that pulls fit -/
def fitT (lv : LF) (w : Wk) (i : Nat) : Int := (uAt w i - uAt w i % (lv (pAt w i)).natAbs) / lv (pAt w i)
theorem fitT_fit (N : Nums lv ar) {w : Wk} (hl : w.pulls.length = w.passes.length + 1) {i : Nat} (h : i < w.passes.length) : fit lv (carryW lv ar w i (fitT lv w i)) i := by
  intro _
  have hn := N.nz (pAt w i)
  rw [carry_u hl h, carry_p, if_pos rfl]
  unfold fitT
  rw [Int.mul_comm, ediv_mul_dvd sub_mod_dvd]
  have h1 := Int.emod_nonneg (uAt w i) (b := ((lv (pAt w i)).natAbs : Int)) (by omega)
  have h2 := Int.emod_lt_of_pos (uAt w i) (b := ((lv (pAt w i)).natAbs : Int)) (by omega)
  omega
theorem fitT_zero (N : Nums lv ar) {w : Wk} {i : Nat} (h : i < w.passes.length) : fitT lv w i = 0 ↔ fit lv w i := by
  have hn := N.nz (pAt w i)
  have e := ediv_mul_dvd (sub_mod_dvd (b := lv (pAt w i)) (y := uAt w i))
  have h1 := Int.emod_nonneg (uAt w i) (b := ((lv (pAt w i)).natAbs : Int)) (by omega)
  have h2 := Int.emod_lt_of_pos (uAt w i) (b := ((lv (pAt w i)).natAbs : Int)) (by omega)
  constructor
  · intro h0 _
    unfold fitT at h0
    rw [h0, Int.zero_mul] at e
    omega
  · intro hf
    obtain ⟨f1, f2⟩ := hf h
    unfold fitT
    rw [Int.emod_eq_of_lt f1 f2, Int.sub_self, Int.zero_ediv]
theorem fit_mod (N : Nums lv ar) {w : Wk} {i : Nat} (h : i < w.passes.length) : uAt w i % (lv (pAt w i)).natAbs = uAt w i ↔ fit lv w i := by
  have hn := N.nz (pAt w i)
  have h1 := Int.emod_nonneg (uAt w i) (b := ((lv (pAt w i)).natAbs : Int)) (by omega)
  have h2 := Int.emod_lt_of_pos (uAt w i) (b := ((lv (pAt w i)).natAbs : Int)) (by omega)
  constructor
  · intro h0 _
    omega
  · intro hf
    obtain ⟨f1, f2⟩ := hf h
    exact Int.emod_eq_of_lt f1 f2
theorem carry_zero {i : Nat} : ∀ {xs : List Int} {ps : List Ps}, carryL lv ar i 0 xs ps = xs := by
  induction i with
  | zero =>
    intro xs ps
    rcases xs with _ | ⟨a, _ | ⟨b, xs⟩⟩
    · rfl
    · rfl
    · cases ps with
      | nil => rfl
      | cons p ps =>
        show (a - lv p * 0) :: (b + ar p * 0) :: xs = _
        rw [Int.mul_zero, Int.mul_zero, Int.sub_zero, Int.add_zero]
  | succ i ih =>
    intro xs ps
    cases xs with
    | nil => rfl
    | cons a xs =>
      cases ps with
      | nil => rfl
      | cons p ps =>
        show a :: carryL lv ar i 0 xs ps = _
        rw [ih]
theorem carryW_zero (w : Wk) (i : Nat) : carryW lv ar w i 0 = w := by
  unfold carryW; rw [carry_zero]
/-! ### cancelling and shortening -/
def cancelW (w : Wk) (i : Nat) : Wk := ⟨w.room, cancP i w.pulls, cancS i w.passes⟩
theorem cancP_eq : ∀ {i : Nat} {xs : List Int}, i + 2 < xs.length → cancP i xs = xs.take i ++ ((xs.getD i 0 + xs.getD (i + 2) 0) :: xs.drop (i + 3))
  | 0, a :: b :: c :: xs, _ => rfl
  | i + 1, a :: xs, h => by
    show a :: cancP i xs = _
    rw [cancP_eq (by simp only [List.length_cons] at h; omega)]
    rfl
  | 0, [], h => by simp at h
  | 0, [_], h => by simp at h
  | 0, [_, _], h => by simp at h
  | _ + 1, [], h => by simp at h
theorem cancS_eq : ∀ {i : Nat} {ps : List Ps}, i + 1 < ps.length → cancS i ps = ps.take i ++ ps.drop (i + 2)
  | 0, a :: b :: ps, _ => rfl
  | i + 1, a :: ps, h => by
    show a :: cancS i ps = _
    rw [cancS_eq (by simpa using h)]
    rfl
  | 0, [], h => by simp at h
  | 0, [_], h => by simp at h
  | _ + 1, [], h => by simp at h
theorem cancP_len {i : Nat} {xs : List Int} (h : i + 2 < xs.length) : (cancP i xs).length = xs.length - 2 := by
  rw [cancP_eq h]; simp; omega
theorem cancS_len {i : Nat} {ps : List Ps} (h : i + 1 < ps.length) : (cancS i ps).length = ps.length - 2 := by
  rw [cancS_eq h]; simp; omega
theorem cancOk_of : ∀ {i : Nat} {xs : List Int} {ps : List Ps}, i + 2 < xs.length → i + 1 < ps.length → xs.getD (i + 1) 0 = 0 → ps.getD (i + 1) (0, 0) = bk (ps.getD i (0, 0)) → cancOk i xs ps
  | 0, a :: b :: c :: xs, p :: q :: ps, _, _, h1, h2 => ⟨h1, h2⟩
  | i + 1, a :: xs, p :: ps, h3, h4, h1, h2 => by
    show cancOk i xs ps
    exact cancOk_of (by simp only [List.length_cons] at h3; omega) (by simpa using h4) (by simpa using h1) (by simpa using h2)
  | 0, [], _, h, _, _, _ => by simp at h
  | 0, [_], _, h, _, _, _ => by simp at h
  | 0, [_, _], _, h, _, _, _ => by simp at h
  | 0, _ :: _ :: _ :: _, [], _, h, _, _ => by simp at h
  | 0, _ :: _ :: _ :: _, [_], _, h, _, _ => by simp at h
  | _ + 1, [], _, h, _, _, _ => by simp at h
  | _ + 1, _ :: _, [], _, h, _, _ => by simp at h
def shortT (ar : LF) (w : Wk) (i : Nat) : Int := 0 - uAt w (i + 1) / ar (pAt w i)
def shortW (lv ar : LF) (w : Wk) (i : Nat) : Wk := cancelW (carryW lv ar w i (shortT ar w i)) i
theorem short_zero {w : Wk} (hl : w.pulls.length = w.passes.length + 1) {i : Nat} (h : spot ar w i) : uAt (carryW lv ar w i (shortT ar w i)) (i + 1) = 0 := by
  have h1 := h.1.1
  rw [carry_u hl (by omega), if_neg (by omega), if_pos rfl]
  unfold shortT
  have := ediv_mul_dvd h.2
  rw [Int.mul_sub, Int.mul_zero, Int.mul_comm (ar _), this]
  omega
theorem short_ok {w : Wk} (hl : w.pulls.length = w.passes.length + 1) {i : Nat} (h : spot ar w i) : cancOk i (carryW lv ar w i (shortT ar w i)).pulls w.passes := by
  have h1 := h.1.1
  have e : (carryW lv ar w i (shortT ar w i)).pulls.length = w.pulls.length := carryL_len
  exact cancOk_of (by omega) h1 (short_zero hl h) h.1.2
theorem short_len {w : Wk} {i : Nat} (h : turn w i) : (shortW lv ar w i).passes.length = w.passes.length - 2 := cancS_len h.1
theorem short_ln {w : Wk} (hl : w.pulls.length = w.passes.length + 1) {i : Nat} (h : turn w i) : (shortW lv ar w i).pulls.length = (shortW lv ar w i).passes.length + 1 := by
  have h1 := h.1
  have e : (carryW lv ar w i (shortT ar w i)).pulls.length = w.pulls.length := carryL_len
  rw [short_len h]
  show (cancP i _).length = _
  rw [cancP_len (by omega), e]
  omega
theorem carry_pf (N : Nums lv ar) (w : Wk) (i : Nat) (t : Int) : pf lv ar (carryW lv ar w i t) = pf lv ar w := by
  unfold pf
  show (⟨w.room, sPulls (runP lv ar S0 (carryL lv ar i t w.pulls w.passes) w.passes), sPasses (runP lv ar S0 (carryL lv ar i t w.pulls w.passes) w.passes)⟩ : Wk) = _
  rw [runP_carry N]
theorem cancel_pf (F : Flip ok lv ar) {w : Wk} (hp : ∀ p ∈ w.passes, ok p) {i : Nat} (h : cancOk i w.pulls w.passes) : pf lv ar (cancelW w i) = pf lv ar w := by
  unfold pf
  show (⟨w.room, sPulls (runP lv ar S0 (cancP i w.pulls) (cancS i w.passes)), sPasses (runP lv ar S0 (cancP i w.pulls) (cancS i w.passes))⟩ : Wk) = _
  rw [runP_cancel F i w.pulls w.passes S0 h hp s0_ok s0_red]
theorem short_pf (F : Flip ok lv ar) {w : Wk} (hl : w.pulls.length = w.passes.length + 1) (hp : ∀ p ∈ w.passes, ok p) {i : Nat} (h : spot ar w i) : pf lv ar (shortW lv ar w i) = pf lv ar w := by
  unfold shortW
  rw [cancel_pf F (w := carryW lv ar w i (shortT ar w i)) hp (short_ok hl h), carry_pf F.toNums]
theorem cancS_mem : ∀ {i : Nat} {ps : List Ps} {p : Ps}, p ∈ cancS i ps → p ∈ ps
  | 0, _ :: _ :: ps, p, h => List.mem_cons_of_mem _ (List.mem_cons_of_mem _ h)
  | i + 1, q :: ps, p, h => by
    rcases List.mem_cons.mp h with rfl | h
    · exact List.mem_cons_self
    · exact List.mem_cons_of_mem _ (cancS_mem h)
  | 0, [], _, h => h
  | 0, [_], _, h => h
  | _ + 1, [], _, h => h
/-- plain at the end: the plain form -/
theorem plain_end (F : Flip ok lv ar) {w : Wk} (hl : w.pulls.length = w.passes.length + 1) (hp : ∀ p ∈ w.passes, ok p) (h1 : ∀ i, ¬ spot ar w i) (h2 : ∀ i, fit lv w i) : w = pf lv ar w := (pf_plain F hp hl ((plain_iff hl).mpr ⟨h1, h2⟩)).symm
end
theorem chain_cancS {dl : List Door} : ∀ {i : Nat} {r : Int} {ps : List Ps}, chain dl r ps → ps.getD (i + 1) (0, 0) = bk (ps.getD i (0, 0)) → i + 1 < ps.length → chain dl r (cancS i ps) ∧ endR dl r (cancS i ps) = endR dl r ps
  | 0, r, p :: q :: ps, ⟨h1, h2, _, _, h5⟩, hb, _ => by
    have hb : q = bk p := hb
    subst hb
    have e : (gat dl (bk p)).far = r := by rw [gat_bk h1]; exact h2
    rw [e] at h5
    refine ⟨h5, ?_⟩
    show endR dl r ps = endR dl (gat dl (bk p)).far ps
    rw [e]
  | i + 1, r, p :: ps, ⟨h1, h2, h3⟩, hb, hl => by
    obtain ⟨a, b⟩ := chain_cancS h3 (by simpa using hb) (by simpa using hl)
    exact ⟨⟨h1, h2, a⟩, b⟩
  | 0, _, [], _, _, h => by simp at h
  | 0, _, [_], _, _, h => by simp at h
  | _ + 1, _, [], _, _, h => by simp at h
theorem carry_WkOk {lv ar : LF} {r : Int} {dl : List Door} {w : Wk} (o : WkOk r dl w) (i : Nat) (t : Int) : WkOk r dl (carryW lv ar w i t) := ⟨o.r0, o.r1, o.ch, by show (carryL _ _ i t _ _).length = _; rw [carryL_len]; exact o.ln⟩
theorem short_WkOk {lv ar : LF} {r : Int} {dl : List Door} {w : Wk} (o : WkOk r dl w) {i : Nat} (h : turn w i) : WkOk r dl (shortW lv ar w i) := ⟨o.r0, o.r1, (chain_cancS o.ch h.2 h.1).1, short_ln o.ln h⟩
/-! ### what is left to do -/
section
variable {lv ar : LF} {ok : Ps → Prop}
/-- laps that are left are enough -/
def Left (lv ar : LF) (w : Wk) (r : Nat) : Prop := 2 * w.passes.length < r ∨ ((∀ i, ¬ spot ar w i) ∧ ∃ k, k ≤ w.passes.length ∧ (∀ j, j < k → fit lv w j) ∧ w.passes.length - k < r)
theorem left_short {w : Wk} {r i : Nat} (h : Left lv ar w (r + 1)) (hs : spot ar w i) : Left lv ar (shortW lv ar w i) r := by
  rcases h with h | ⟨h, _⟩
  · refine .inl ?_
    rw [short_len hs.1]
    have := hs.1.1
    omega
  · exact absurd hs (h i)
theorem left_carry (F : Flip ok lv ar) {w : Wk} (hl : w.pulls.length = w.passes.length + 1) (hp : ∀ p ∈ w.passes, ok p) {r i : Nat} (h : Left lv ar w (r + 1)) (hs : ∀ i, ¬ spot ar w i) (hi : i < w.passes.length) (hf : ∀ j, j < i → fit lv w j) (hn : ¬ fit lv w i) : Left lv ar (carryW lv ar w i (fitT lv w i)) r := by
  have key : ∃ k, k ≤ w.passes.length ∧ (∀ j, j < k → fit lv w j) ∧ w.passes.length - k < r + 1 := by
    rcases h with h | ⟨_, k, hk⟩
    · exact ⟨0, Nat.zero_le _, fun _ h => absurd h (by omega), by omega⟩
    · exact ⟨k, hk⟩
  obtain ⟨k, k1, k2, k3⟩ := key
  have hki : k ≤ i := by
    rcases Nat.lt_or_ge i k with q | q
    · exact absurd (k2 i q) hn
    · exact q
  refine .inr ⟨fun j hj => hs j ((carry_spot F hl hp hi _ j).mp hj), i + 1, hi, fun j hj => ?_, ?_⟩
  · by_cases e : j = i
    · subst e
      exact fitT_fit F.toNums hl hi
    · exact (carry_fit hl hi _ e (by omega)).mpr (hf j (by omega))
  · show w.passes.length - (i + 1) < r
    omega
theorem left_none {w : Wk} (h : Left lv ar w 0) : False := by
  rcases h with h | ⟨_, k, _, _, h⟩ <;> omega
end
section
variable {W : Wd} {n : Nat} {ρ : Rho} {K : PySem.W.Frag}
/-- zip of two tuples -/
theorem di_zipT {tas : TA} {P : Nat → List D → Prop} (h : DA tas W n ρ fun n ds => ∃ es fs, ds = [.tup es, .tup fs] ∧ P n (List.zipWith (fun a b => D.tup [a, b]) es fs)) : DI (RZ.iZipA K tas) W n ρ P := fun Z T σ H e Q k =>
  h Z T σ H e _ fun n vs ds H' ⟨es, fs, hd, p⟩ e' ia => by
    subst hd
    cases ia with
    | @cons v _ _ _ hi t =>
      cases t with
      | @cons w _ _ _ hj t =>
        cases t
        have e1 : Env W n Z ([(v, .tup es), (w, .tup fs)] ++ T) ρ σ H' := (e'.push hj).push hi
        cases hi with
        | @tup a xs _ hx hr ha =>
          cases hj with
          | @tup b zs _ hx' hr' ha' =>
            refine ⟨a, b, xs, zs, rfl, .inr ⟨.of hr, .of hr', k _ _ _ [(.ref a, .tup es), (.ref b, .tup fs)] H' p e1 fun n Z T ρ σ H hT e i => ?_⟩⟩
            have q := e.t (.ref a, .tup es) (hT _ List.mem_cons_self)
            have q' := e.t (.ref b, .tup fs) (hT _ (List.mem_cons_of_mem _ List.mem_cons_self))
            cases q with
            | @tup _ ys _ hx2 hr2 ha2 =>
              cases q' with
              | @tup _ ws _ hx3 hr3 ha3 =>
                have hl := ha2.len
                have hl' := ha3.len
                rw [List.length_zipWith]
                refine ⟨fun hi => ⟨⟨ys, ws, ys[i]'(by omega), ws[i]'(by omega), .of hr2, .of hr3, by simp, by simp⟩, fun x H' ⟨Tt, x', y', ev, hn, eh, y, z⟩ => ?_⟩, fun hi => ⟨ys, ws, .of hr2, .of hr3, by omega⟩⟩
                subst eh ev
                obtain ⟨d, h1, h2⟩ := ha2.get (y ys (.of hr2))
                obtain ⟨d', h1', h2'⟩ := ha3.get (z ws (.of hr3))
                have e2 := e.lay (o := .tup [x', y']) hn
                have h3 := h2.mv (lay_mv (o := .tup [x', y']) e hn)
                have h3' := h2'.mv (lay_mv (o := .tup [x', y']) e hn)
                exact ⟨_, zip_get h1 h1', e2.zpop.push (.tup e2.zmv.2 upd_same (.cons (h3.mv e2.zmv.1) (.cons (h3'.mv e2.zmv.1) .nil)))⟩
end
theorem ixN_last {α : Type} {l : List α} {x : α} : ixN (l ++ [x]).length (-1) = some l.length := by
  unfold ixN
  rw [List.length_append, List.length_singleton]
  rw [if_neg (by omega), if_pos (by omega)]
  congr 1
  omega
theorem set_last {α : Type} {l : List α} {x v : α} : (l ++ [x]).set l.length v = l ++ [v] := by
  rw [List.set_append_right _ _ (Nat.le_refl _), Nat.sub_self]; rfl
section
variable {lv ar : LF}
def rPulls (t : List (Int × Ps)) : List Int := (t.map (·.1)).reverse
def rPasses (t : List (Int × Ps)) : List Ps := (t.map (·.2)).reverse
theorem sPulls_eq (t : List (Int × Ps)) (y : Int) : sPulls ⟨t, y⟩ = rPulls t ++ [y] := rfl
theorem sPasses_eq (t : List (Int × Ps)) (y : Int) : sPasses ⟨t, y⟩ = rPasses t := rfl
theorem rPulls_cons (r : Int) (q : Ps) (t : List (Int × Ps)) : rPulls ((r, q) :: t) = rPulls t ++ [r] := by simp [rPulls]
theorem rPasses_cons (r : Int) (q : Ps) (t : List (Int × Ps)) : rPasses ((r, q) :: t) = rPasses t ++ [q] := by simp [rPasses]
theorem go_pop {t : List (Int × Ps)} {r z : Int} {q p : Ps} (h : q = bk p ∧ lv p ∣ z) : go lv ar ⟨(r, q) :: t, z⟩ p = ⟨t, r + z / lv p * ar p⟩ := if_pos h
theorem go_no {t : List (Int × Ps)} {r z : Int} {q p : Ps} (h : ¬ (q = bk p ∧ lv p ∣ z)) : go lv ar ⟨(r, q) :: t, z⟩ p = push lv ar ⟨(r, q) :: t, z⟩ p := if_neg h
theorem go_nil {z : Int} {p : Ps} : go lv ar ⟨[], z⟩ p = push lv ar ⟨[], z⟩ p := rfl
theorem fmod_abs {x l : Int} (hl : l ≠ 0) : x.fmod (if l < 0 then -l else l) = x % (l.natAbs : Int) := by
  have e : (if l < 0 then -l else l) = (l.natAbs : Int) := by split <;> omega
  rw [e, Int.fmod_eq_emod_of_nonneg _ (by omega)]
theorem mod_zero {x l : Int} : x % (l.natAbs : Int) = 0 ↔ l ∣ x := by
  rw [← Int.natAbs_dvd, Int.dvd_iff_emod_eq_zero]
theorem push_val {x l : Int} : (x - x % (l.natAbs : Int)).fdiv l = (x - x % (l.natAbs : Int)) / l := Int.fdiv_eq_ediv_of_dvd sub_mod_dvd
end
/-! ### the plain form is a walk -/
section
variable {lv ar : LF} {dl : List Door}
theorem go_chain {r : Int} {S : Stk} {p : Ps} (h1 : chain dl r (sPasses S)) (hp : psOk dl p) (hn : (gat dl p).near = endR dl r (sPasses S)) : chain dl r (sPasses (go lv ar S p)) ∧ endR dl r (sPasses (go lv ar S p)) = (gat dl p).far := by
  obtain ⟨st, z⟩ := S
  have hpush : chain dl r (sPasses (push lv ar ⟨st, z⟩ p)) ∧ endR dl r (sPasses (push lv ar ⟨st, z⟩ p)) = (gat dl p).far := by
    have e : sPasses (push lv ar ⟨st, z⟩ p) = rPasses st ++ [p] := rPasses_cons _ _ _
    rw [e]
    exact ⟨chain_app.mpr ⟨h1, hp, hn, True.intro⟩, by rw [endR_app]; rfl⟩
  cases st with
  | nil => exact hpush
  | cons e t =>
    obtain ⟨rr, q⟩ := e
    by_cases hc : q = bk p ∧ lv p ∣ z
    · rw [go_pop hc]
      have e : sPasses ⟨(rr, q) :: t, z⟩ = rPasses t ++ [q] := rPasses_cons _ _ _
      rw [e] at h1 hn
      obtain ⟨h2, h3, h4, _⟩ := chain_app.mp h1
      refine ⟨h2, ?_⟩
      show endR dl r (rPasses t) = _
      rw [← h4, hc.1, gat_bk hp]; rfl
    · rw [go_no hc]; exact hpush
theorem go_len {S : Stk} {p : Ps} : (go lv ar S p).st.length ≤ S.st.length + 1 := by
  obtain ⟨st, z⟩ := S
  cases st with
  | nil => exact Nat.le_refl _
  | cons e t =>
    obtain ⟨rr, q⟩ := e
    by_cases hc : q = bk p ∧ lv p ∣ z
    · rw [go_pop hc]
      show t.length ≤ t.length + 1 + 1
      omega
    · rw [go_no hc]
      exact Nat.le_refl _
theorem runP_chain : ∀ {r : Int} (ps : List Ps) (xs : List Int) (S : Stk), xs.length = ps.length + 1 → chain dl r (sPasses S) → chain dl (endR dl r (sPasses S)) ps → chain dl r (sPasses (runP lv ar S xs ps)) ∧ endR dl r (sPasses (runP lv ar S xs ps)) = endR dl (endR dl r (sPasses S)) ps
  | r, [], [u], S, _, h1, _ => ⟨h1, rfl⟩
  | r, p :: ps, x :: xs, S, hl, h1, ⟨h2, h3, h4⟩ => by
    obtain ⟨q1, q2⟩ := go_chain (lv := lv) (ar := ar) (S := pull S x) (p := p) h1 h2 h3
    have := runP_chain ps xs (go lv ar (pull S x) p) (by simpa using hl) q1 (by rw [q2]; exact h4)
    rw [q2] at this
    exact this
  | _, [], [], _, h, _, _ => by simp at h
  | _, [], _ :: _ :: _, _, h, _, _ => by simp at h
  | _, _ :: _, [], _, h, _, _ => by simp at h
theorem runP_len : ∀ (ps : List Ps) (xs : List Int) (S : Stk), (runP lv ar S xs ps).st.length ≤ S.st.length + ps.length
  | [], [], S => Nat.le_refl _
  | [], _ :: _, S => Nat.le_refl _
  | p :: ps, [], S => Nat.le_add_right _ _
  | p :: ps, x :: xs, S => by
    have h1 := runP_len ps xs (go lv ar (pull S x) p)
    have h2 := go_len (lv := lv) (ar := ar) (S := pull S x) (p := p)
    have h3 : (pull S x).st.length = S.st.length := rfl
    show (runP lv ar (go lv ar (pull S x) p) xs ps).st.length ≤ S.st.length + (ps.length + 1)
    omega
theorem pf_short {w : Wk} : (pf lv ar w).passes.length ≤ w.passes.length := by
  have := runP_len (lv := lv) (ar := ar) w.passes w.pulls S0
  show (sPasses _).length ≤ _
  unfold sPasses
  rw [List.length_reverse, List.length_map]
  have e : S0.st.length = 0 := rfl
  omega
theorem pf_WkOk {r : Int} {w : Wk} (o : WkOk r dl w) : WkOk r dl (pf lv ar w) ∧ endR dl w.room (pf lv ar w).passes = endR dl w.room w.passes := by
  obtain ⟨h1, h2⟩ := runP_chain (lv := lv) (ar := ar) (r := w.room) w.passes w.pulls S0 o.ln True.intro o.ch
  exact ⟨⟨o.r0, o.r1, h1, pf_len w⟩, h2⟩
theorem plain_eq {ok : Ps → Prop} (F : Flip ok lv ar) {w : Wk} (hp : ∀ p ∈ w.passes, ok p) (hl : w.pulls.length = w.passes.length + 1) : pf lv ar w = w ↔ (∀ i, ¬ spot ar w i) ∧ ∀ i, fit lv w i := by
  rw [← plain_iff hl]
  exact ⟨fun e => by rw [← e]; exact plain_pf F hp, fun h => pf_plain F hp hl h⟩
/-! ### a pass and its back put in -/
def putW (w : Wk) (i : Nat) (p : Ps) (a : Int) : Wk := ⟨w.room, w.pulls.take i ++ ([a, 0, uAt w i - a] ++ w.pulls.drop (i + 1)), w.passes.take i ++ ([p, bk p] ++ w.passes.drop i)⟩
theorem endR_take {r : Int} {ps : List Ps} {i : Nat} (h : i < ps.length) : endR dl r (ps.take (i + 1)) = (gat dl (ps.getD i (0, 0))).far := by
  rw [List.take_succ, endR_app, List.getD_eq_getElem?_getD, List.getElem?_eq_getElem h]
  rfl
theorem put_WkOk {r : Int} {w : Wk} (o : WkOk r dl w) {i : Nat} (hi : i ≤ w.passes.length) {p : Ps} (hp : psOk dl p) (hn : (gat dl p).near = endR dl w.room (w.passes.take i)) (a : Int) : WkOk r dl (putW w i p a) := by
  have hl := o.ln
  have hc : chain dl w.room (w.passes.take i ++ w.passes.drop i) := by rw [List.take_append_drop]; exact o.ch
  obtain ⟨c1, c2⟩ := chain_app.mp hc
  have hb : (gat dl (bk p)).near = (gat dl p).far := by rw [gat_bk hp]; rfl
  have hb2 : (gat dl (bk p)).far = endR dl w.room (w.passes.take i) := by rw [gat_bk hp, ← hn]; rfl
  refine ⟨o.r0, o.r1, chain_app.mpr ⟨c1, hp, hn, bk_ok hp, hb, by rw [hb2]; exact c2⟩, ?_⟩
  show (w.pulls.take i ++ ([a, 0, uAt w i - a] ++ w.pulls.drop (i + 1))).length = (w.passes.take i ++ ([p, bk p] ++ w.passes.drop i)).length + 1
  simp only [List.length_append, List.length_take, List.length_drop, List.length_cons, List.length_nil]
  omega
end
section
variable {W : Wd} {n : Nat} {ρ : Rho} {K : PySem.W.Frag} {P : Nat → D → Prop}
theorem r_neBB {a b : Bool} (p : P n (.bl (a != b))) : DR (rNeD K) W n ρ (.bl a) (.bl b) P := dr_ne rfl rfl rfl rfl (by cases a <;> cases b <;> exact p)
theorem r_eqBB {a b : Bool} (p : P n (.bl (a == b))) : DR (rEqD K) W n ρ (.bl a) (.bl b) P := dr_eq rfl rfl rfl rfl (by cases a <;> cases b <;> exact p)
end
end HD

namespace HD
open PySem PySem.Spec PyProof.Rows L2
/-! ### enumerate of a tuple -/
abbrev eTI (t : Addr) : Obj := { cls := .type "tuple_iterator", data := .fields #[.ref t, .int 0 0] }
abbrev eEN (a : Addr) : Obj := { cls := .type "enumerate", data := .fields #[.none, .bool false, .ref a, rawInt 0, .none, .none] }
theorem enumT_new (t : Addr) (ys : Array Value) :
    Meets (Builtin.«enumerate.__new__» ⟨[.type "enumerate", .ref t], []⟩) (fun _ R s => s.heap.IsTuple t ys ∧ R (.ok (.ret (.ref (s.heap.push (eTI t)).objs.size))) { s with heap := (s.heap.push (eTI t)).push (eEN s.heap.objs.size) }) := .of_wp fun prog w A R s hh => by
  obtain ⟨hp, gl, di, tk, os⟩ := s
  obtain ⟨ht, hh⟩ := hh
  have hsub := sub_enumerate
  have hT : Heap.IsTuple (Shared.heap ⟨hp, gl, di, tk, os⟩) t ys := ht
  wp_walk using wpAny_pyIter_tuple hT
  refine wpAny_stack_any fun st => wpAny_pure ?_
  split
  · rename_i c _ _ _ _ _
    cases (c == Value.type "enumerate")
    all_goals
      wp_walk using wpAny_pyIter_tuple hT
      exact ⟨_, rfl, hh⟩
  · wp_walk using wpAny_pyIter_tuple hT
    exact ⟨_, rfl, hh⟩
section
variable {prog : Program} {w : World} {A : Around} {E : Value → Shared → Prop} {s : Shared}
theorem enumT_call {t : Addr} {ys : Array Value} {Q : Value → Shared → Prop} (ht : s.heap.IsTuple t ys)
    (k : ∀ h1, IsEnum h1 (s.heap.objs.size + 1) s.heap.objs.size 0 .none → h1.IsTupleIter s.heap.objs.size t 0 → h1.objs.size = s.heap.objs.size + 2 → (∀ b o, s.heap.get? b = some o → h1.get? b = some o) → Q (.ref (s.heap.objs.size + 1)) { s with heap := h1 }) :
    wpAny (model prog w) A (call (.type "enumerate") [.ref t]) Q E s := by
  refine callType_new F.called_enumerate (by decide) (F.typeCall_enumerate_1 _) (F.newCall_enumerate_1 _) (fun ob => F.args_object_init_2 ob _) F.entry_enumerate_new (enumT_new t ys) ⟨ht, ?_⟩
  have z1 : (s.heap.push (eTI t)).objs.size = s.heap.objs.size + 1 := Heap.size_push ..
  show _ ∧ _
  rw [z1]
  have g1 : IsEnum ((s.heap.push (eTI t)).push (eEN s.heap.objs.size)) (s.heap.objs.size + 1) s.heap.objs.size 0 .none := by
    have q := Heap.get?_push_size (s.heap.push (eTI t)) (o := eEN s.heap.objs.size) rfl
    rwa [z1] at q
  exact ⟨⟨_, g1, rfl⟩, k _ g1 ⟨_, Heap.get?_push_of_some _ (Heap.get?_push_size _ rfl), rfl, rfl⟩ (by rw [Heap.size_push, z1]) fun b o q => Heap.get?_push_of_some _ (Heap.get?_push_of_some _ q)⟩
end
/-- the tuple at a, each item in a new pair with its place -/
def IteT (K : PySem.W.Frag) (a : Addr) : It :=
  ⟨fun i H => ∃ (xs : List V) (x : V), SqT K H a xs ∧ xs[i]? = some x, fun i H v H1 => ∃ T x, v = .ref T ∧ H T = none ∧ H1 = upd H T (.tup [.int (i : Nat), x]) ∧ ∀ xs, SqT K H a xs → xs[i]? = some x, fun i H => ∃ xs : List V, SqT K H a xs ∧ xs.length ≤ i⟩
theorem turn_enumT {P : Program} {w : World} {K : PySem.W.Frag} {es : List Expr} {kk : Nat} {tp : Pos} (a e it : Addr) :
    Turn P w K (.Tuple es kk tp) (IteT K a) [e, it] e (fun i h => (∃ old, IsEnum h e it ((i : Nat) : Int) old) ∧ h.IsTupleIter it a i ∧ e ≠ it ∧ e ≠ a ∧ a ≠ it) where
  mem := by simp
  obj := fun i h st b hb => by
    obtain ⟨⟨old, g⟩, ⟨o, g2, hc, hd⟩, _⟩ := st
    rcases (by simpa using hb : b = e ∨ b = it) with rfl | rfl
    · exact ⟨_, g, fun v q => nomatch q⟩
    · exact ⟨o, g2, fun v q => by rw [hd] at q; cases q⟩
  keep := fun i h h' ⟨⟨old, g⟩, g2, r⟩ k => ⟨⟨old, k e (by simp) _ g⟩, g2.at fun o q => k it (by simp) o q, r⟩
  item := by
    intro X hP hw hK hc i pins s σ H E I hf st hg
    subst hP hw hK
    obtain ⟨⟨old, g⟩, g2, n1, n2, n3⟩ := st
    obtain ⟨xs, x, hq, hx⟩ := hg
    obtain ⟨its, rv, p, hz⟩ := I.tuple hq
    obtain ⟨u, hu, ru⟩ := rv.get hx
    have hel : e < s.heap.objs.size := Heap.lt_size g
    have hil : it < s.heap.objs.size := by obtain ⟨_, q, _⟩ := g2; exact Heap.lt_size q
    have hin : i < its.toArray.size := by
      have := (List.getElem?_eq_some_iff.mp hu).1
      simpa using this
    have D := Draws.tuple (prog := X.prog) (w := X.w) (A := X.A.in1) (I.ok.hd hc) it a n3 its.toArray
    refine wpAny_pyNext_enum_itemC D g ⟨g2, p⟩ hin n1 (by simp [n1, n2]) fun y h1 tk hy ho hs hT hsz hk => ?_
    have ey : y = u := by
      have h2 : its.toArray[i]? = some u := by simpa using hu
      rw [h2] at hy
      exact (Option.some.inj hy).symm
    subst ey
    refine ⟨_, rfl, wpAny_letOwnedTupleGo_enum (s := { s with heap := h1, toks := tk + 1 }) ho fun h2 he sb => ?_⟩
    have hT2 : h2.get? s.heap.objs.size = some { cls := .type "tuple", data := .seq #[.int i tk, y] } := (sb.2 _ (Nat.ne_of_gt hel)).trans hT
    have nw : ObjOk X.prog X.w (upd H s.heap.objs.size (.tup [.int (i : Nat), x])) h2 s.heap.objs.size (.tup [.int (i : Nat), x]) :=
      ⟨by show 2 ≤ sizeLine; decide, [.int i tk, y], .cons ⟨_, rfl⟩ (.cons ru .nil), ⟨_, hT2, rfl, _, rfl⟩⟩
    have I1 : Inv X pins σ (upd H s.heap.objs.size (.tup [.int (i : Nat), x])) { s with heap := h2, toks := tk + 1 } :=
      I.turnedNew (ch := [e, it]) (fun b ob hb q => (sb.2 b (fun z => hb (by simp [z]))).trans (hk b ob (fun z => hb (by simp [z])) (fun z => hb (by simp [z])) q)) hf (Nat.le_refl _) nw
    refine ⟨.ref s.heap.objs.size, _, I1, rfl, ⟨_, x, rfl, I.hok.fresh (Nat.le_refl _), rfl, fun ys hy => by rw [I.tuple_inj hy hq]; exact hx⟩, ⟨⟨y, ?_⟩, hs.1.at fun o q => (sb.2 it (Ne.symm n1)).trans q, n1, n2, n3⟩, fun b hb => ?_⟩
    · rw [show ((i + 1 : Nat) : Int) = (i : Int) + 1 by omega]; exact he
    · have hb' : b < s.heap.objs.size := by
        rcases (by simpa using hb : b = e ∨ b = it) with rfl | rfl
        · exact hel
        · exact hil
      rw [upd_ne (Nat.ne_of_lt hb')]
      exact (hf b hb).1
  done := by
    intro X hP hw hK hc i pins s σ H E I hf st hg
    subst hP hw hK
    obtain ⟨⟨old, g⟩, g2, n1, n2, n3⟩ := st
    obtain ⟨xs, hq, hx⟩ := hg
    obtain ⟨its, rv, p, hz⟩ := I.tuple hq
    obtain ⟨f0, f1, f2, f3, f4, f5⟩ := hf it (by simp)
    have hl := rv.length
    have D : Draws X.prog X.w X.A.in1 it [it, a] i (fun _ _ => True) (fun j hp => j = i ∧ hp.IsTupleIter it a j ∧ hp.IsTuple a its.toArray) := {
      live := fun _ _ st => let ⟨o, ho, _⟩ := st.2.1; ⟨o, ho⟩
      frame := fun _ _ _ st hk => ⟨st.1, st.2.1.at fun o q => hk it (by simp) o q, st.2.2.at fun o q => hk a (by simp) o q⟩
      item := fun j s Q E hj st hQ => absurd hj (by rw [st.1]; exact Nat.lt_irrefl _)
      done := fun s Q E st hE => wpAny_nextOf_tuple_end (I.ok.hd hc) st.2.1 st.2.2 (by simp; omega) hE }
    exact wpAny_pyNext_enum_endD D g ⟨rfl, g2, p⟩ fun h1 eb => ⟨rfl, I.turned (t' := s.toks) (fun b o hb q => eb b o hb q) f0 f1 f3 f4 f5⟩
  self := fun A i s Q E ⟨⟨_, g⟩, _⟩ k => wpAny_pyIter_enum g k
def iEnumA (K : PySem.W.Frag) (ta : TA) : TI := fun σ H R => ta σ H fun vs H1 => ∃ a xs, vs = [.ref a] ∧ ((SqL K H1 a xs ∧ R (Ite K a) H1) ∨ (SqT K H1 a xs ∧ R (IteT K a) H1))
theorem pi_enumA {X : Cx} {e : Expr} {ta : TA} {p pos tp : Pos} {es : List Expr} {kk : Nat} (hg : Gl X "enumerate") (hm : X.mg "enumerate" = none) (ha : PA X [e] ta) (hs : starEach [e] X.env = [(false, eval e X.env)] := by rfl) :
    PI X (.Tuple es kk tp) (.Call (.Name "enumerate" p) [e] [] pos) (iEnumA X.K ta) := by
  refine ⟨fun pins s σ H R I h => Call_ (ld_blt I hg hm boot_enumerate (PyProof.Rows.callWith_type1 (thn (ha.run pos pins s σ H _ I h) fun us s1 ⟨vs, H1, I1, r1, q1⟩ => ?_) hs rfl))⟩
  obtain ⟨a, xs, ex, q1⟩ := q1
  subst ex
  cases r1 with
  | cons r rr =>
    cases rr
    cases r
    have fr : ∀ b, b ∈ [s1.heap.objs.size + 1, s1.heap.objs.size] → FpOk X pins H1 b := fun b hb => by
      have hle : s1.heap.objs.size ≤ b := by
        rcases (by simpa using hb : b = s1.heap.objs.size + 1 ∨ b = s1.heap.objs.size) with rfl | rfl
        · exact Nat.le_add_right _ _
        · exact Nat.le_refl _
      exact I1.fpOk hle (I1.hok.fresh hle)
    rcases q1 with ⟨hq, q⟩ | ⟨hq, q⟩
    · obtain ⟨its, rv, p', hz⟩ := I1.list hq
      refine call_enumerate_list p'.isList fun h1 g g2 hsz hk => wpAny_pyIter_enum g ?_
      have I2 : Inv X pins σ H1 { s1 with heap := h1 } := I1.kept (t' := s1.toks) hk
      exact ⟨_, _, _, _, H1, rfl, I2, turn_enum a (s1.heap.objs.size + 1) s1.heap.objs.size, ⟨⟨.none, g⟩, g2, Nat.succ_ne_self _⟩, fr, q⟩
    · obtain ⟨its, rv, p', hz⟩ := I1.tuple hq
      have hal : a < s1.heap.objs.size := by obtain ⟨_, q, _⟩ := id p'; exact Heap.lt_size q
      refine enumT_call (show s1.heap.IsTuple a its.toArray from p') fun h1 g g2 hsz hk => wpAny_pyIter_enum g ?_
      have I2 : Inv X pins σ H1 { s1 with heap := h1 } := I1.kept (t' := s1.toks) hk
      exact ⟨_, _, _, _, H1, rfl, I2, turn_enumT a (s1.heap.objs.size + 1) s1.heap.objs.size, ⟨⟨.none, g⟩, g2, Nat.succ_ne_self _, Nat.ne_of_gt (Nat.lt_succ_of_lt hal), Nat.ne_of_lt hal⟩, fr, q⟩
section
variable {W : Wd} {n : Nat} {ρ : Rho} {K : PySem.W.Frag}
theorem di_enumT {tas : TA} {P : Nat → List D → Prop} (h : DA tas W n ρ fun n ds => ∃ es, ds = [.tup es] ∧ P n (numb es)) : DI (iEnumA K tas) W n ρ P := fun Z T σ H e Q k =>
  h Z T σ H e _ fun n vs ds H' ⟨es, hd, p⟩ e' ia => by
    subst hd
    cases ia with
    | @cons v _ _ _ hi t =>
      cases t
      have e1 : Env W n Z ([(v, .tup es)] ++ T) ρ σ H' := e'.push hi
      cases hi with
      | @tup a xs _ hx hr ha =>
        refine ⟨a, xs, rfl, .inr ⟨.of hr, k _ _ _ [(.ref a, .tup es)] H' p e1 fun n Z T ρ σ H hT e i => ?_⟩⟩
        have q := e.t (.ref a, .tup es) (hT _ List.mem_cons_self)
        cases q with
        | @tup _ ys _ hx2 hr2 ha2 =>
          have hl := ha2.len
          rw [numb_len]
          refine ⟨fun hi => ⟨⟨ys, ys[i]'(by omega), .of hr2, by simp [hl, hi]⟩, fun x H' ⟨Tt, x', ev, hn, eh, y⟩ => ?_⟩, fun hi => ⟨ys, .of hr2, by omega⟩⟩
          subst eh ev
          obtain ⟨d, h1, h2⟩ := ha2.get (y ys (.of hr2))
          have e2 := e.lay (o := .tup [.int (i : Nat), x']) hn
          have h3 := h2.mv (lay_mv (o := .tup [.int (i : Nat), x']) e hn)
          exact ⟨_, numb_get h1, e2.zpop.push (.tup e2.zmv.2 upd_same (.cons (.int _) (.cons (h3.mv e2.zmv.1) .nil)))⟩
theorem di_enumL {tas : TA} {P : Nat → List D → Prop} (h : DA tas W n ρ fun n ds => ∃ es, ds = [.lst es] ∧ P n (numb es)) : DI (iEnumA K tas) W n ρ P := fun Z T σ H e Q k =>
  h Z T σ H e _ fun n vs ds H' ⟨es, hd, p⟩ e' ia => by
    subst hd
    cases ia with
    | @cons v _ _ _ hi t =>
      cases t
      have e1 : Env W n Z ([(v, .lst es)] ++ T) ρ σ H' := e'.push hi
      cases hi with
      | @lst a xs _ hx hr ha =>
        refine ⟨a, xs, rfl, .inl ⟨.of hr, k _ _ _ [(.ref a, .lst es)] H' p e1 fun n Z T ρ σ H hT e i => ?_⟩⟩
        have q := e.t (.ref a, .lst es) (hT _ List.mem_cons_self)
        cases q with
        | @lst _ ys _ hx2 hr2 ha2 =>
          have hl := ha2.len
          rw [numb_len]
          refine ⟨fun hi => ⟨⟨ys, ys[i]'(by omega), .of hr2, by simp [hl, hi]⟩, fun x H' ⟨Tt, x', ev, hn, eh, y⟩ => ?_⟩, fun hi => ⟨ys, .of hr2, by omega⟩⟩
          subst eh ev
          obtain ⟨d, h1, h2⟩ := ha2.get (y ys (.of hr2))
          have e2 := e.lay (o := .tup [.int (i : Nat), x']) hn
          have h3 := h2.mv (lay_mv (o := .tup [.int (i : Nat), x']) e hn)
          exact ⟨_, numb_get h1, e2.zpop.push (.tup e2.zmv.2 upd_same (.cons (.int _) (.cons (h3.mv e2.zmv.1) .nil)))⟩
end
/-! ### the heads of the goals -/
section
variable {W : Wd} {n : Nat} {ρ : Rho} {P : Nat → D → Prop} {d d1 d2 : D} {ds : List D}
theorem isDE {te : TE} (h : DE te W n ρ P) : DE te W n ρ P := h
theorem isDA {ta : TA} {P : Nat → List D → Prop} (h : DA ta W n ρ P) : DA ta W n ρ P := h
theorem isDT {tt : TT} {P : Nat → Bool → Prop} (h : DT tt W n ρ P) : DT tt W n ρ P := h
theorem isDO {to : TO} {P : Nat → Option Int → Prop} (h : DO to W n ρ P) : DO to W n ρ P := h
theorem isDR {r : R2} (h : DR r W n ρ d1 d2 P) : DR r W n ρ d1 d2 P := h
theorem isDRF {r : R2} (h : DRF r W n ρ d1 d2 P) : DRF r W n ρ d1 d2 P := h
theorem isDU {r : L2.V → Hp → VK → Prop} (h : DU r W n ρ d P) : DU r W n ρ d P := h
theorem isDC {r : List L2.V → Hp → VK → Prop} (h : DC r W n ρ ds P) : DC r W n ρ ds P := h
theorem isDSl {r : L2.V → Option Int → Option Int → Hp → VK → Prop} {lo hi : Option Int} (h : DSl r W n ρ d lo hi P) : DSl r W n ρ d lo hi P := h
theorem isDS {t : TS} {N : Nat → Rho → Prop} {R : Nat → Bool → D → Prop} {B C : Nat → Rho → Prop} (h : DS t W n ρ N R B C) : DS t W n ρ N R B C := h
theorem isDG {g : TG} {S : List Nat} {P : Rho → Prop} (h : DG g S d W ρ P) : DG g S d W ρ P := h
theorem isDGs {g : TGs} {S : List Nat} {P : Rho → Prop} (h : DGs g S ds W ρ P) : DGs g S ds W ρ P := h
end
theorem ds_ownAdd {W : Wd} {n : Nat} {ρ : Rho} {K : PySem.W.Frag} {N : Nat → Rho → Prop} {R : Nat → Bool → D → Prop} {B C : Nat → Rho → Prop} {i j : Nat} {tb : TE} {d1 : D} (h1 : ρ[i]? = some (some (true, d1))) (h : DE tb W n ρ fun n d2 => DRF (rAddU K) W n ρ d1 d2 fun n d => N n (ρ.set j (some (true, d)))) : DS (tAsg (tOp (rAddU K) (tVar i) tb) (gName j)) W n ρ N R B C := ds_own (df_op_o h1 h)
end HD

namespace HD
open PySem PySem.Spec PyProof.Rows L2
/-! ### walks joined and backwards -/
instance wkDec : DecidableEq Wk := fun a b => if h : a.room = b.room ∧ a.pulls = b.pulls ∧ a.passes = b.passes then isTrue (by obtain ⟨x, y, z⟩ := a; obtain ⟨x', y', z'⟩ := b; obtain ⟨h1, h2, h3⟩ := h; dsimp only at h1 h2 h3; rw [h1, h2, h3]) else isFalse fun e => h (by rw [e]; exact ⟨rfl, rfl, rfl⟩)
def joinP : List Int → List Int → List Int
  | [x], y :: ys => (x + y) :: ys
  | x :: xs, ys => x :: joinP xs ys
  | [], ys => ys
def joinW (a b : Wk) : Wk := ⟨a.room, joinP a.pulls b.pulls, a.passes ++ b.passes⟩
def backW (dl : List Door) (w : Wk) : Wk := ⟨endR dl w.room w.passes, w.pulls.reverse.map (0 - ·), w.passes.reverse.map bk⟩
def standW (r : Int) : Wk := ⟨r, [0], []⟩
theorem joinP_len : ∀ {xs ys : List Int}, xs ≠ [] → ys ≠ [] → (joinP xs ys).length + 1 = xs.length + ys.length
  | [x], y :: ys, _, _ => by show ys.length + 1 + 1 = 1 + (ys.length + 1); omega
  | x :: x' :: xs, ys, _, h => by
    have := joinP_len (xs := x' :: xs) (ys := ys) (by simp) h
    show (joinP (x' :: xs) ys).length + 1 + 1 = (x' :: xs).length + 1 + ys.length
    omega
  | [], _, h, _ => absurd rfl h
  | _ :: _, [], _, h => absurd rfl h
theorem joinP_cons {x : Int} {xs ys : List Int} (h : xs ≠ []) : joinP (x :: xs) ys = x :: joinP xs ys := by
  cases xs with
  | nil => exact absurd rfl h
  | cons a r => cases ys <;> rfl
theorem joinP_eq : ∀ {xs ys : List Int} {x y : Int}, xs.getLast? = some x → ys.head? = some y → joinP xs ys = xs.dropLast ++ ((x + y) :: ys.tail)
  | [a], y :: ys, x, z, h1, h2 => by
    simp at h1 h2
    subst h1 h2; rfl
  | a :: b :: xs, ys, x, y, h1, h2 => by
    have := joinP_eq (xs := b :: xs) (ys := ys) (x := x) (y := y) (by simpa using h1) h2
    rw [joinP_cons (by simp), this]; rfl
  | [], _, _, _, h, _ => by simp at h
  | _ :: _, [], _, _, _, h => by simp at h
section
variable {lv ar : LF} {ok : Ps → Prop}
theorem runP_join : ∀ (ps qs : List Ps) (xs ys : List Int) (S : Stk), xs.length = ps.length + 1 → ys ≠ [] → runP lv ar S (joinP xs ys) (ps ++ qs) = runP lv ar (runP lv ar S xs ps) ys qs
  | [], qs, [u], y :: ys, S, _, _ => by
    show runP lv ar S ((u + y) :: ys) qs = runP lv ar (pull S u) (y :: ys) qs
    rw [← runP_pull, Int.add_comm]
  | p :: ps, qs, x :: xs, ys, S, h, hy => by
    have hx : xs ≠ [] := fun e => by rw [e] at h; simp at h
    rw [joinP_cons hx]
    show runP lv ar (go lv ar (pull S x) p) (joinP xs ys) (ps ++ qs) = _
    rw [runP_join ps qs xs ys _ (by simpa using h) hy]; rfl
  | [], _, [], _, _, h, _ => by simp at h
  | [], _, _ :: _ :: _, _, _, h, _ => by simp at h
  | _ :: _, _, [], _, _, h, _ => by simp at h
  | [], _, [_], [], _, _, h => absurd rfl h
theorem runP_back (F : Flip ok lv ar) : ∀ (ps : List Ps) (xs : List Int) (S : Stk), xs.length = ps.length + 1 → (∀ p ∈ ps, ok p) → okS ok S → red lv ar S.st → runP lv ar (runP lv ar S xs ps) (xs.reverse.map (0 - ·)) (ps.reverse.map bk) = S
  | [], [u], S, _, _, _, _ => by
    show pull (pull S u) (0 - u) = S
    rw [pull_pull, show u + (0 - u) = 0 by omega, pull_zero]
  | p :: ps, x :: xs, S, h, hp, hS, hr => by
    have h' : xs.length = ps.length + 1 := by simpa using h
    have o1 := hp p List.mem_cons_self
    have s1 := go_ok F o1 (pull_ok x hS)
    have s2 := go_red F o1 (pull_ok x hS) (pull_red x hr)
    rw [List.reverse_cons, List.reverse_cons, List.map_append, List.map_append]
    show runP lv ar (runP lv ar (go lv ar (pull S x) p) xs ps) (xs.reverse.map (0 - ·) ++ [0 - x]) (ps.reverse.map bk ++ [bk p]) = S
    rw [runP_snoc _ _ _ _ _ (by simp [h']), runP_back F ps xs _ h' (fun q hq => hp q (List.mem_cons_of_mem _ hq)) s1 s2, go_back F o1 (pull_ok x hS) (pull_red x hr), pull_pull, show x + (0 - x) = 0 by omega, pull_zero]
  | [], [], _, h, _, _, _ => by simp at h
  | [], _ :: _ :: _, _, h, _, _, _ => by simp at h
  | _ :: _, [], _, h, _, _, _ => by simp at h
/-- on by a stack -/
def app (lv ar : LF) (S T : Stk) : Stk := runP lv ar S (sPulls T) (sPasses T)
theorem app_pull (S T : Stk) (x : Int) : app lv ar S (pull T x) = pull (app lv ar S T) x := by
  unfold app
  obtain ⟨st, y⟩ := T
  have key : ∀ (ps : List Ps) (xs : List Int) (S : Stk) (a b : Int), xs.length = ps.length → runP lv ar S (xs ++ [a + b]) ps = pull (runP lv ar S (xs ++ [a]) ps) b := by
    intro ps
    induction ps with
    | nil =>
      intro xs S a b h
      cases xs with
      | nil => show pull S (a + b) = pull (pull S a) b; rw [pull_pull]
      | cons _ _ => simp at h
    | cons p ps ih =>
      intro xs S a b h
      cases xs with
      | nil => simp at h
      | cons u xs => exact ih xs _ a b (by simpa using h)
  exact key _ _ _ _ _ (by simp [sPasses, pull])
theorem app_cons (S : Stk) (r y : Int) (p : Ps) (t : List (Int × Ps)) : app lv ar S ⟨(r, p) :: t, y⟩ = pull (go lv ar (app lv ar S ⟨t, r⟩) p) y := by
  have e1 : sPulls ⟨(r, p) :: t, y⟩ = sPulls ⟨t, r⟩ ++ [y] := by simp [sPulls]
  have e2 : sPasses ⟨(r, p) :: t, y⟩ = sPasses ⟨t, r⟩ ++ [p] := by simp [sPasses]
  unfold app
  rw [e1, e2, runP_snoc _ _ _ _ _ (by simp [sPulls, sPasses])]
theorem app_ok (F : Flip ok lv ar) {S T : Stk} (hS : okS ok S) (hr : red lv ar S.st) (hT : okS ok T) : okS ok (app lv ar S T) ∧ red lv ar (app lv ar S T).st := by
  refine runP_red F _ _ S (fun p hp => ?_) hS hr
  unfold sPasses at hp
  rw [List.mem_reverse] at hp
  obtain ⟨e, he, rfl⟩ := List.mem_map.mp hp
  exact hT e he
theorem app_go (F : Flip ok lv ar) {S T : Stk} {p : Ps} (hp : ok p) (hS : okS ok S) (hr : red lv ar S.st) (hT : okS ok T) : app lv ar S (go lv ar T p) = go lv ar (app lv ar S T) p := by
  obtain ⟨st, z⟩ := T
  have push_c : app lv ar S (push lv ar ⟨st, z⟩ p) = go lv ar (app lv ar S ⟨st, z⟩) p := by
    have e : (⟨st, z⟩ : Stk) = pull ⟨st, z % (lv p).natAbs⟩ (lv p * ((z - z % (lv p).natAbs) / lv p)) := by
      unfold pull
      rw [Int.mul_comm, ediv_mul_dvd sub_mod_dvd]
      congr 1
      show z = z % _ + (z - z % _)
      omega
    have h1 : push lv ar ⟨st, z⟩ p = ⟨(z % (lv p).natAbs, p) :: st, (z - z % (lv p).natAbs) / lv p * ar p⟩ := rfl
    rw [h1, app_cons, Int.mul_comm _ (ar p), ← go_carry F.toNums, ← app_pull, ← e]
  cases st with
  | nil => rw [go_nil]; exact push_c
  | cons e t =>
    obtain ⟨r, q⟩ := e
    by_cases hc : q = bk p ∧ lv p ∣ z
    · have hq : ok q := hT (r, q) List.mem_cons_self
      have ht : okS ok ⟨t, r⟩ := fun e he => hT e (List.mem_cons_of_mem _ he)
      obtain ⟨a1, a2⟩ := app_ok F (T := ⟨t, r⟩) hS hr ht
      rw [go_pop hc, app_cons]
      obtain ⟨h1, k, rfl⟩ := hc
      rw [go_carry F.toNums, h1]
      have gb := go_back F (p := bk p) (F.okb p hp) a1 a2
      rw [bk_bk] at gb
      rw [gb, Int.mul_ediv_cancel_left _ (F.nz p)]
      have e2 : (⟨t, r + k * ar p⟩ : Stk) = pull ⟨t, r⟩ (ar p * k) := by unfold pull; rw [Int.mul_comm]
      rw [e2, app_pull]
    · rw [go_no hc]; exact push_c
theorem app_run (F : Flip ok lv ar) : ∀ (ps : List Ps) (xs : List Int) (S T : Stk), (∀ p ∈ ps, ok p) → okS ok S → red lv ar S.st → okS ok T → red lv ar T.st → app lv ar S (runP lv ar T xs ps) = runP lv ar (app lv ar S T) xs ps
  | p :: ps, x :: xs, S, T, hp, hS, hr, hT, hq => by
    have o1 := hp p List.mem_cons_self
    show app lv ar S (runP lv ar (go lv ar (pull T x) p) xs ps) = runP lv ar (go lv ar (pull (app lv ar S T) x) p) xs ps
    rw [app_run F ps xs S _ (fun q hq => hp q (List.mem_cons_of_mem _ hq)) hS hr (go_ok F o1 (pull_ok x hT)) (go_red F o1 (pull_ok x hT) (pull_red x hq)), app_go F o1 hS hr (pull_ok x hT), app_pull]
  | [], x :: xs, S, T, _, _, _, _, _ => app_pull S T x
  | [], [], _, _, _, _, _, _, _ => rfl
  | _ :: _, [], _, _, _, _, _, _, _ => rfl
theorem app_S0 (S : Stk) : app lv ar S S0 = S := by
  show pull S 0 = S
  exact pull_zero S
/-- the stack of a walk -/
def stk (lv ar : LF) (w : Wk) : Stk := runP lv ar S0 w.pulls w.passes
theorem stk_red (F : Flip ok lv ar) {w : Wk} (hp : ∀ p ∈ w.passes, ok p) : okS ok (stk lv ar w) ∧ red lv ar (stk lv ar w).st := runP_red F _ _ _ hp s0_ok s0_red
theorem run_stk (F : Flip ok lv ar) {S : Stk} (hS : okS ok S) (hr : red lv ar S.st) {w : Wk} (hp : ∀ p ∈ w.passes, ok p) : runP lv ar S w.pulls w.passes = app lv ar S (stk lv ar w) := by
  unfold stk
  rw [app_run F _ _ _ _ hp hS hr s0_ok s0_red, app_S0]
theorem pf_stk {a b : Wk} : pf lv ar a = pf lv ar b ↔ a.room = b.room ∧ stk lv ar a = stk lv ar b := by
  constructor
  · intro h
    have h0 : (pf lv ar a).room = (pf lv ar b).room := by rw [h]
    refine ⟨h0, ?_⟩
    have e1 := stkOf_toW (r := a.room) (stk lv ar a)
    have e2 := stkOf_toW (r := b.room) (stk lv ar b)
    rw [← e1, ← e2]
    exact congrArg stkOf h
  · rintro ⟨h1, h2⟩
    unfold pf
    unfold stk at h2
    rw [h1, h2]
theorem stk_pf (F : Flip ok lv ar) {w : Wk} (hp : ∀ p ∈ w.passes, ok p) : stk lv ar (pf lv ar w) = stk lv ar w := by
  obtain ⟨h1, h2⟩ := stk_red F hp
  exact runP_plain F _ _ h1 h2
theorem pf_pf (F : Flip ok lv ar) {w : Wk} (hp : ∀ p ∈ w.passes, ok p) : pf lv ar (pf lv ar w) = pf lv ar w := pf_stk.mpr ⟨rfl, stk_pf F hp⟩
theorem stk_join (F : Flip ok lv ar) {a b : Wk} (ha : a.pulls.length = a.passes.length + 1) (hb : b.pulls.length = b.passes.length + 1) (pa : ∀ p ∈ a.passes, ok p) (pb : ∀ p ∈ b.passes, ok p) : stk lv ar (joinW a b) = app lv ar (stk lv ar a) (stk lv ar b) := by
  obtain ⟨h1, h2⟩ := stk_red F pa
  rw [← run_stk F h1 h2 pb]
  exact runP_join _ _ _ _ _ ha (fun e => by rw [e] at hb; simp at hb)
theorem pf_ps (F : Flip ok lv ar) {w : Wk} (hp : ∀ p ∈ w.passes, ok p) : ∀ p ∈ (pf lv ar w).passes, ok p := by
  intro p h
  obtain ⟨h1, _⟩ := stk_red F hp
  have h' : p ∈ sPasses (stk lv ar w) := h
  unfold sPasses at h'
  rw [List.mem_reverse] at h'
  obtain ⟨e, he, rfl⟩ := List.mem_map.mp h'
  exact h1 e he
theorem pf_join (F : Flip ok lv ar) {a b a' b' : Wk} (ha : a.pulls.length = a.passes.length + 1) (hb : b.pulls.length = b.passes.length + 1) (pa : ∀ p ∈ a.passes, ok p) (pb : ∀ p ∈ b.passes, ok p) (ha' : a'.pulls.length = a'.passes.length + 1) (hb' : b'.pulls.length = b'.passes.length + 1) (pa' : ∀ p ∈ a'.passes, ok p) (pb' : ∀ p ∈ b'.passes, ok p) (ea : pf lv ar a = pf lv ar a') (eb : pf lv ar b = pf lv ar b') : pf lv ar (joinW a b) = pf lv ar (joinW a' b') := by
  obtain ⟨a1, a2⟩ := pf_stk.mp ea
  obtain ⟨b1, b2⟩ := pf_stk.mp eb
  exact pf_stk.mpr ⟨a1, by rw [stk_join F ha hb pa pb, stk_join F ha' hb' pa' pb', a2, b2]⟩
end
section
variable {lv ar : LF} {dl : List Door}
theorem back_ps {w : Wk} (hp : ∀ p ∈ w.passes, psOk dl p) : ∀ p ∈ (backW dl w).passes, psOk dl p := by
  intro p h
  obtain ⟨q, hq, rfl⟩ := List.mem_map.mp h
  exact bk_ok (hp q (List.mem_reverse.mp hq))
theorem back_ln {w : Wk} (h : w.pulls.length = w.passes.length + 1) : (backW dl w).pulls.length = (backW dl w).passes.length + 1 := by simp [backW, h]
theorem chain_back : ∀ {r : Int} {ps : List Ps}, chain dl r ps → chain dl (endR dl r ps) (ps.reverse.map bk) ∧ endR dl (endR dl r ps) (ps.reverse.map bk) = r
  | r, [], _ => ⟨True.intro, rfl⟩
  | r, p :: ps, ⟨h1, h2, h3⟩ => by
    obtain ⟨a, b⟩ := chain_back h3
    rw [List.reverse_cons, List.map_append]
    show chain dl (endR dl (gat dl p).far ps) (ps.reverse.map bk ++ [bk p]) ∧ endR dl (endR dl (gat dl p).far ps) (ps.reverse.map bk ++ [bk p]) = r
    rw [chain_app, endR_app, b]
    refine ⟨⟨a, bk_ok h1, ?_, True.intro⟩, ?_⟩
    · rw [gat_bk h1]; rfl
    · show (gat dl (bk p)).far = r
      rw [gat_bk h1]; exact h2
theorem chain_end : ∀ {r : Int} {ps : List Ps} {m : Int}, (∀ p, psOk dl p → 0 ≤ (gat dl p).far ∧ (gat dl p).far < m) → 0 ≤ r → r < m → chain dl r ps → 0 ≤ endR dl r ps ∧ endR dl r ps < m
  | r, [], m, _, h0, h1, _ => ⟨h0, h1⟩
  | r, p :: ps, m, hg, h0, h1, ⟨a, b, c⟩ => chain_end (ps := ps) hg (hg p a).1 (hg p a).2 c
theorem back_back {w : Wk} (hc : chain dl w.room w.passes) : backW dl (backW dl w) = w := by
  obtain ⟨_, e⟩ := chain_back hc
  show (⟨endR dl (endR dl w.room w.passes) (w.passes.reverse.map bk), (w.pulls.reverse.map (0 - ·)).reverse.map (0 - ·), (w.passes.reverse.map bk).reverse.map bk⟩ : Wk) = w
  rw [e, ← List.map_reverse, ← List.map_reverse, List.reverse_reverse, List.reverse_reverse, List.map_map, List.map_map]
  have e1 : ((fun x : Int => 0 - x) ∘ fun x : Int => 0 - x) = id := by funext x; show 0 - (0 - x) = x; omega
  have e2 : (bk ∘ bk) = id := by funext p; exact bk_bk p
  rw [e1, e2, List.map_id, List.map_id]
theorem join_WkOk {r : Int} {a b : Wk} (oa : WkOk r dl a) (ob : WkOk r dl b) (e : b.room = endR dl a.room a.passes) : WkOk r dl (joinW a b) := by
  refine ⟨oa.r0, oa.r1, chain_app.mpr ⟨oa.ch, e ▸ ob.ch⟩, ?_⟩
  have h1 := oa.ln
  have h2 := ob.ln
  have := joinP_len (xs := a.pulls) (ys := b.pulls) (fun e => by rw [e] at h1; simp at h1) (fun e => by rw [e] at h2; simp at h2)
  show (joinP a.pulls b.pulls).length = (a.passes ++ b.passes).length + 1
  rw [List.length_append]
  omega
theorem join_end {a b : Wk} (e : b.room = endR dl a.room a.passes) : endR dl (joinW a b).room (joinW a b).passes = endR dl b.room b.passes := by
  show endR dl a.room (a.passes ++ b.passes) = _
  rw [endR_app, e]
theorem back_WkOk {r : Int} {w : Wk} (hg : ∀ p, psOk dl p → 0 ≤ (gat dl p).far ∧ (gat dl p).far < r) (o : WkOk r dl w) : WkOk r dl (backW dl w) := by
  obtain ⟨h1, h2⟩ := chain_end (dl := dl) hg o.r0 o.r1 o.ch
  exact ⟨h1, h2, (chain_back o.ch).1, back_ln o.ln⟩
theorem back_end {w : Wk} (hc : chain dl w.room w.passes) : endR dl (backW dl w).room (backW dl w).passes = w.room := (chain_back hc).2
variable (F : Flip (psOk dl) lv ar)
include F
theorem app_back {S : Stk} {w : Wk} (hS : okS (psOk dl) S) (hr : red lv ar S.st) (hp : ∀ p ∈ w.passes, psOk dl p) (hl : w.pulls.length = w.passes.length + 1) : app lv ar (app lv ar S (stk lv ar w)) (stk lv ar (backW dl w)) = S := by
  obtain ⟨h1, h2⟩ := app_ok F (T := stk lv ar w) hS hr (stk_red F hp).1
  rw [← run_stk F h1 h2 (back_ps hp), ← run_stk F hS hr hp]
  exact runP_back F _ _ _ hl hp hS hr
theorem back_app {S : Stk} {r : Int} {w : Wk} (hS : okS (psOk dl) S) (hr : red lv ar S.st) (o : WkOk r dl w) : app lv ar (app lv ar S (stk lv ar (backW dl w))) (stk lv ar w) = S := by
  have hp := chain_all o.ch
  have := app_back F (w := backW dl w) hS hr (back_ps hp) (back_ln o.ln)
  rwa [back_back o.ch] at this
/-- a walk and then backwards -/
theorem join_back {r : Int} {w : Wk} (o : WkOk r dl w) : pf lv ar (joinW w (backW dl w)) = standW w.room := by
  have hp := chain_all o.ch
  have e : stk lv ar (joinW w (backW dl w)) = S0 := by
    rw [stk_join F o.ln (back_ln o.ln) hp (back_ps hp)]
    have := app_back F (S := S0) s0_ok s0_red hp o.ln
    rwa [show app lv ar S0 (stk lv ar w) = stk lv ar w from by rw [← run_stk F s0_ok s0_red hp]; rfl] at this
  show (⟨w.room, sPulls (stk lv ar (joinW w (backW dl w))), sPasses (stk lv ar (joinW w (backW dl w)))⟩ : Wk) = _
  rw [e]; rfl
omit F in
theorem stand_pf (x : Int) : pf lv ar (standW x) = standW x := rfl
theorem pf_back {r : Int} {v w : Wk} (hv : WkOk r dl v) (hw : WkOk r dl w) (ee : endR dl v.room v.passes = endR dl w.room w.passes) (e : pf lv ar v = pf lv ar w) : pf lv ar (backW dl v) = pf lv ar (backW dl w) := by
  obtain ⟨_, e2⟩ := pf_stk.mp e
  have pv := chain_all hv.ch
  have pw := chain_all hw.ch
  refine pf_stk.mpr ⟨ee, ?_⟩
  obtain ⟨x1, x2⟩ := stk_red F (back_ps pw)
  have h1 := back_app F (S := S0) s0_ok s0_red hw
  have e0 : app lv ar S0 (stk lv ar (backW dl w)) = stk lv ar (backW dl w) := by rw [← run_stk F s0_ok s0_red (back_ps pw)]; rfl
  rw [e0, ← e2] at h1
  have h2 := app_back F (S := stk lv ar (backW dl w)) x1 x2 pv hv.ln
  rw [h1] at h2
  rw [← h2, ← run_stk F s0_ok s0_red (back_ps pv)]; rfl
theorem pf_ahead {r : Int} {c a b : Wk} (hc : WkOk r dl c) (ha : WkOk r dl a) (hb : WkOk r dl b) (ea : a.room = b.room) : pf lv ar (joinW c a) = pf lv ar (joinW c b) ↔ pf lv ar a = pf lv ar b := by
  have pc := chain_all hc.ch
  have pa := chain_all ha.ch
  have pb := chain_all hb.ch
  refine ⟨fun h => pf_stk.mpr ⟨ea, ?_⟩, fun h => pf_join F hc.ln ha.ln pc pa hc.ln hb.ln pc pb rfl h⟩
  obtain ⟨_, h2⟩ := pf_stk.mp h
  rw [stk_join F hc.ln ha.ln pc pa, stk_join F hc.ln hb.ln pc pb] at h2
  obtain ⟨x1, x2⟩ := stk_red F (back_ps pc)
  have e0 : app lv ar S0 (stk lv ar (backW dl c)) = stk lv ar (backW dl c) := by rw [← run_stk F s0_ok s0_red (back_ps pc)]; rfl
  have h1 := back_app F (S := S0) s0_ok s0_red hc
  rw [e0] at h1
  have key : ∀ {a : Wk}, (∀ p ∈ a.passes, psOk dl p) → a.pulls.length = a.passes.length + 1 → stk lv ar a = app lv ar (stk lv ar (backW dl c)) (app lv ar (stk lv ar c) (stk lv ar a)) := by
    intro a pa la
    obtain ⟨c1, c2⟩ := stk_red F pc
    rw [← run_stk F c1 c2 pa, app_run F _ _ _ _ pa x1 x2 c1 c2, h1]; rfl
  rw [key pa ha.ln, key pb hb.ln, h2]
theorem pf_behind {r : Int} {c a b : Wk} (hc : WkOk r dl c) (ha : WkOk r dl a) (hb : WkOk r dl b) (ea : a.room = b.room) : pf lv ar (joinW a c) = pf lv ar (joinW b c) ↔ pf lv ar a = pf lv ar b := by
  have pc := chain_all hc.ch
  have pa := chain_all ha.ch
  have pb := chain_all hb.ch
  refine ⟨fun h => pf_stk.mpr ⟨ea, ?_⟩, fun h => pf_join F ha.ln hc.ln pa pc hb.ln hc.ln pb pc h rfl⟩
  obtain ⟨_, h2⟩ := pf_stk.mp h
  rw [stk_join F ha.ln hc.ln pa pc, stk_join F hb.ln hc.ln pb pc] at h2
  obtain ⟨a1, a2⟩ := stk_red F pa
  obtain ⟨b1, b2⟩ := stk_red F pb
  have q1 := app_back F a1 a2 pc hc.ln
  have q2 := app_back F b1 b2 pc hc.ln
  rw [← q1, ← q2, h2]
omit F in
theorem join_assoc {a b c : Wk} (ha : a.pulls.length = a.passes.length + 1) (hb : b.pulls.length = b.passes.length + 1) (hc : c.pulls.length = c.passes.length + 1) : joinW (joinW a b) c = joinW a (joinW b c) := by
  have key : ∀ (xs ys zs : List Int), xs ≠ [] → ys ≠ [] → zs ≠ [] → joinP (joinP xs ys) zs = joinP xs (joinP ys zs) := by
    intro xs
    induction xs with
    | nil => intro _ _ h; exact absurd rfl h
    | cons x xs ih =>
      intro ys zs _ hy hz
      cases xs with
      | nil =>
        cases ys with
        | nil => exact absurd rfl hy
        | cons y ys =>
          cases ys with
          | nil =>
            cases zs with
            | nil => exact absurd rfl hz
            | cons z zs => show (x + y + z) :: zs = (x + (y + z)) :: zs; rw [Int.add_assoc]
          | cons y' ys =>
            show joinP ((x + y) :: y' :: ys) zs = joinP [x] (joinP (y :: y' :: ys) zs)
            have e1 : joinP ((x + y) :: y' :: ys) zs = (x + y) :: joinP (y' :: ys) zs := joinP_cons (List.cons_ne_nil _ _)
            have e2 : joinP (y :: y' :: ys) zs = y :: joinP (y' :: ys) zs := joinP_cons (List.cons_ne_nil _ _)
            rw [e1, e2]; rfl
      | cons x' xs =>
        have hj : joinP (x' :: xs) ys ≠ [] := by
          intro e
          have := joinP_len (xs := x' :: xs) (ys := ys) (by simp) hy
          rw [e] at this
          simp only [List.length_nil, List.length_cons] at this
          have : ys.length ≠ 0 := fun q => hy (List.eq_nil_of_length_eq_zero q)
          omega
        have e1 : joinP (x :: x' :: xs) ys = x :: joinP (x' :: xs) ys := joinP_cons (List.cons_ne_nil _ _)
        have e2 : joinP (x :: x' :: xs) (joinP ys zs) = x :: joinP (x' :: xs) (joinP ys zs) := joinP_cons (List.cons_ne_nil _ _)
        rw [e1, e2, joinP_cons hj, ih ys zs (List.cons_ne_nil _ _) hy hz]
  have ne : ∀ {w : Wk}, w.pulls.length = w.passes.length + 1 → w.pulls ≠ [] := fun h e => by rw [e] at h; simp at h
  show (⟨a.room, joinP (joinP a.pulls b.pulls) c.pulls, a.passes ++ b.passes ++ c.passes⟩ : Wk) = ⟨a.room, joinP a.pulls (joinP b.pulls c.pulls), a.passes ++ (b.passes ++ c.passes)⟩
  rw [key _ _ _ (ne ha) (ne hb) (ne hc), List.append_assoc]
end
/-! ### moves -/
theorem put_cancel {w : Wk} (hl : w.pulls.length = w.passes.length + 1) {i : Nat} (hi : i ≤ w.passes.length) (p : Ps) (a : Int) : cancOk i (putW w i p a).pulls (putW w i p a).passes ∧ cancelW (putW w i p a) i = w := by
  have key : ∀ (i : Nat) (xs : List Int) (ps : List Ps), xs.length = ps.length + 1 → i ≤ ps.length → cancOk i (xs.take i ++ ([a, 0, xs.getD i 0 - a] ++ xs.drop (i + 1))) (ps.take i ++ ([p, bk p] ++ ps.drop i)) ∧ cancP i (xs.take i ++ ([a, 0, xs.getD i 0 - a] ++ xs.drop (i + 1))) = xs ∧ cancS i (ps.take i ++ ([p, bk p] ++ ps.drop i)) = ps := by
    intro i
    induction i with
    | zero =>
      intro xs ps h _
      cases xs with
      | nil => simp at h
      | cons x xs =>
        refine ⟨⟨rfl, rfl⟩, ?_, rfl⟩
        show (a + (x - a)) :: xs = x :: xs
        congr 1
        omega
    | succ i ih =>
      intro xs ps h hi
      cases xs with
      | nil => simp at h
      | cons x xs =>
        cases ps with
        | nil => simp at hi
        | cons q ps =>
          obtain ⟨h1, h2, h3⟩ := ih xs ps (by simpa using h) (by simpa using hi)
          refine ⟨h1, ?_, ?_⟩
          · show x :: cancP i _ = _
            exact congrArg (x :: ·) h2
          · show q :: cancS i _ = _
            exact congrArg (q :: ·) h3
  obtain ⟨h1, h2, h3⟩ := key i w.pulls w.passes hl hi
  refine ⟨h1, ?_⟩
  show (⟨w.room, cancP i _, cancS i _⟩ : Wk) = w
  obtain ⟨r, xs, ps⟩ := w
  exact congr (congrArg (Wk.mk r) h2) h3
theorem put_pf {lv ar : LF} {dl : List Door} (F : Flip (psOk dl) lv ar) {r : Int} {w : Wk} (o : WkOk r dl w) {i : Nat} (hi : i ≤ w.passes.length) {p : Ps} (hp : psOk dl p) (hn : (gat dl p).near = endR dl w.room (w.passes.take i)) (a : Int) : pf lv ar (putW w i p a) = pf lv ar w := by
  obtain ⟨h1, h2⟩ := put_cancel o.ln hi p a
  have := cancel_pf F (w := putW w i p a) (chain_all (put_WkOk o hi hp hn a).ch) h1
  rw [h2] at this
  exact this.symm
theorem put_end {dl : List Door} {r : Int} {w : Wk} (o : WkOk r dl w) {i : Nat} {p : Ps} (hp : psOk dl p) (hn : (gat dl p).near = endR dl w.room (w.passes.take i)) (a : Int) : endR dl (putW w i p a).room (putW w i p a).passes = endR dl w.room w.passes := by
  show endR dl w.room (w.passes.take i ++ ([p, bk p] ++ w.passes.drop i)) = _
  rw [endR_app, endR_app]
  have hb2 : endR dl (endR dl w.room (w.passes.take i)) [p, bk p] = endR dl w.room (w.passes.take i) := by
    show (gat dl (bk p)).far = _
    rw [gat_bk hp, ← hn]; rfl
  rw [hb2, ← endR_app, List.take_append_drop]
theorem cancel_WkOk {r : Int} {dl : List Door} {w : Wk} (o : WkOk r dl w) {i : Nat} (h : turn w i) : WkOk r dl (cancelW w i) ∧ endR dl (cancelW w i).room (cancelW w i).passes = endR dl w.room w.passes := by
  obtain ⟨a, b⟩ := chain_cancS o.ch h.2 h.1
  have h1 := h.1
  have hl := o.ln
  refine ⟨⟨o.r0, o.r1, a, ?_⟩, b⟩
  show (cancP i w.pulls).length = (cancS i w.passes).length + 1
  rw [cancP_len (by omega), cancS_len h1]
  omega
theorem cancel_ok {w : Wk} (hl : w.pulls.length = w.passes.length + 1) {i : Nat} (h : turn w i) (h0 : uAt w (i + 1) = 0) : cancOk i w.pulls w.passes := cancOk_of (by have := h.1; omega) h.1 h0 h.2
end HD

namespace HD
open PySem PySem.Spec PyProof.Rows L2 HT
/-! ### a tuple from behind -/
section
variable {prog : Program} {w : World} {A : Around} {E : Value → Shared → Prop} {s : Shared}
theorem applied_rev {sl : Addr} {vs : Value} {n : Nat} {Q : Int × Int × Nat → Shared → Prop} (hs : s.heap.IsSliceOf sl .none .none vs) (ps : IsPart vs (some (-1)))
    (h : Q ((n : Int) - 1, -1, n) s) : wpAny (model prog w) A (Builtin.Slice.sliceApplied (.ref sl) (pure (n : Int))) Q E s := by
  obtain ⟨os, hos, hcs, hds⟩ := id hs
  unfold Builtin.Slice.sliceApplied Builtin.Slice.sliceFields
  refine wpAny_bind (wpAny_bind (wpAny_field hos hds (x := .none) rfl (wpAny_bind (wpAny_field hos hds (x := .none) rfl (wpAny_bind (wpAny_field hos hds (x := vs) rfl (wpAny_pure ?_)))))))
  refine wpAny_bind (HT.slicePart_ ps ?_)
  show wpAny _ _ (if ((-1 : Int) == 0) = true then _ else _) _ _ s
  rw [if_neg (by decide)]
  refine wpAny_bind (HT.slicePart_ .none (wpAny_bind (HT.slicePart_ .none (wpAny_bind (wpAny_pure ?_)))))
  show wpAny _ _ (match Builtin.Slice.sliceAdjust none none (-1) (n : Int) with | (lo, hi) => pure (lo, (-1 : Int), Builtin.Slice.slicePlaces lo hi (-1))) _ _ s
  have e1 : Builtin.Slice.sliceAdjust none none (-1) (n : Int) = ((n : Int) - 1, -1) := by
    unfold Builtin.Slice.sliceAdjust
    first | rfl | simp
  rw [e1]
  show wpAny _ _ (pure ((n : Int) - 1, (-1 : Int), Builtin.Slice.slicePlaces ((n : Int) - 1) (-1) (-1))) _ _ s
  have e2 : Builtin.Slice.slicePlaces ((n : Int) - 1) (-1) (-1) = n := by
    unfold Builtin.Slice.slicePlaces
    have h1 : ¬ ((-1 : Int) > 0) := by decide
    simp only [h1, if_false]
    by_cases h : (n : Int) - 1 > -1
    · have : ((n : Int) - 1 - -1 - 1) / (- -1) = (n : Int) - 1 := by
        rw [show (- -1 : Int) = 1 by decide, Int.ediv_one]
        omega
      first | (rw [if_pos h]; omega) | (simp only [h, if_true]; omega) | (split <;> omega)
    · first | (rw [if_neg h]; omega) | (split <;> omega)
  rw [e2]
  exact wpAny_pure h
theorem fm_congr {α β : Type} {f g : α → Option β} : ∀ {l : List α}, (∀ x ∈ l, f x = g x) → l.filterMap f = l.filterMap g
  | [], _ => rfl
  | a :: l, h => by
    rw [List.filterMap_cons, List.filterMap_cons, h a List.mem_cons_self, fm_congr fun x hx => h x (List.mem_cons_of_mem _ hx)]
theorem pick_rev (xs : Array Value) : ((List.range xs.size).filterMap fun (m : Nat) => xs[(((xs.size : Int) - 1) + (m : Int) * (-1)).toNat]?).toArray = xs.toList.reverse.toArray := by
  rw [← PySem.W.krv_pick]
  unfold slicePick
  rw [PySem.W.krv_bounds]
  show _ = ((sliceRange ((xs.size : Int) - 1) (-1) (-1)).filterMap (xs[·]?)).toArray
  rw [PySem.W.krv_sliceRange, List.filterMap_map]
  congr 1
  refine fm_congr fun m hm => ?_
  have := List.mem_range.mp hm
  show xs[_]? = xs[xs.size - 1 - m]?
  congr 1
  omega
theorem getItem_tuple_rev {t sl : Addr} {items : Array Value} {vs : Value} {Q : Value → Shared → Prop} (ht : IsTup s.heap t items) (hs : s.heap.IsSliceOf sl .none .none vs) (ps : IsPart vs (some (-1)))
    (h : Q (.ref s.heap.objs.size) { s with heap := s.heap.push { cls := .type "tuple", data := .seq items.toList.reverse.toArray } })
    (hsz : items.size ≤ sizeLine) : wpAny (model prog w) A (getItem (.ref t) (.ref sl)) Q E s := by
  have htake : sizeOk (.seq items.toList.reverse.toArray) := by
    show items.toList.reverse.toArray.size ≤ sizeLine
    rw [List.size_toArray, List.length_reverse, Array.length_toList]
    exact hsz
  obtain ⟨os, hos, hcs, hds⟩ := id hs
  have hTs : s.TypeIs (.ref sl) "slice" := ⟨os, hos, hcs⟩
  unfold getItem
  try with_reducible refine wpAny_holding ?_
  first | refine wpAny_bind (wpAny_pure ?_) | skip
  refine wpAny_bind (wpAny_sequenceKey ht.typeIs (by decide) ?_)
  refine wpAny_bind (wpAny_callSpecial?_slot (name := Str.ofString "__getitem__") ht.typeIs PyProof.Rows.slot_tuple_getitem
    (wpAny_call_entry PyProof.Rows.slot_tuple_getitem ht.typeIs entry_tuple_getitem ?_ (args_tuple_getitem _ _)))
  show wpAny _ _ (Builtin.Tuple.tupleItemsOf (.ref t) >>= _) _ _ s
  refine wpAny_bind (tupleItemsOf_ ht ?_)
  refine wpAny_bind (wpAny_typeOf hTs ?_)
  rw [if_pos (by decide)]
  refine wpAny_bind (applied_rev hs ps ?_)
  have hno : ¬ ((((items.size : Int) - 1) == 0 && (-1 : Int) == 1 && items.size == items.size) = true) := by
    intro q
    rw [Bool.and_eq_true, Bool.and_eq_true] at q
    exact absurd q.1.2 (by decide)
  show wpAny _ _ (if (((items.size : Int) - 1) == 0 && (-1 : Int) == 1 && items.size == items.size) = true then _ else _) _ _ s
  rw [if_neg hno, pick_rev]
  first
    | exact wpAny_bind (m := Builtin.Tuple.tupleExact _) (wpAny_newObj_type (wpAny_pure ⟨_, rfl, wpAny_pure h⟩) htake)
    | exact wpAny_bind (m := Builtin.Tuple.tupleExact _) (wpAny_newObj_type (wpAny_bind (wpAny_pure (wpAny_pure ⟨_, rfl, wpAny_pure h⟩))) htake)
    | exact wpAny_bind (wpAny_bind (m := Builtin.Tuple.tupleExact _) (wpAny_newObj_type (wpAny_pure (wpAny_pure ⟨_, rfl, wpAny_pure h⟩)) htake))
    | exact wpAny_bind (wpAny_bind (m := Builtin.Tuple.tupleExact _) (wpAny_newObj_type (wpAny_pure ⟨_, rfl, wpAny_pure h⟩) htake))
end
/-- x[::-1], x a list or a tuple -/
def tRevA (K : PySem.W.Frag) (te : TE) : TE := fun σ H Q => te σ H fun x H1 => ∃ a xs, x = .ref a ∧ ((SqL K H1 a xs ∧ ∀ p, H1 p = none → Q (.ref p) (upd H1 p (.lst xs.reverse))) ∨ (SqT K H1 a xs ∧ ∀ p, H1 p = none → Q (.ref p) (upd H1 p (.tup xs.reverse))))
theorem pe_revU {X : Cx} {e : Expr} {te : TE} {k : Nat} {p1 p2 p3 pos : Pos} (he : PE X e te) : PE X (.Subscript e (.Slice none none (some (.UnaryOp .USub (.Constant (.int 1) k p1) p2)) p3) pos) (tRevA X.K te) := by
  refine ⟨fun pins s σ H Q I h => ?_⟩
  refine Subscript_ (thn (he.run pins s σ H _ I h) fun v s1 ⟨x, H1, I1, r1, q1⟩ => ?_)
  obtain ⟨a, xs, ex, q⟩ := q1
  subst ex
  cases r1
  have hst : PO X (some (.UnaryOp .USub (.Constant (.int 1) k p1) p2)) (tPart (tUn (rU fun i => .int (-i)) (tC (.int 1)))) := po_some (pe_un un_neg pe_int)
  have hn1 : evalPart none X.env = pure Value.none := evalPart_none _
  refine wpAny_Slice ?_
  rw [hn1]
  refine wpAny_pure ?_
  refine wpAny_pure ?_
  refine thn (hst.run pins s1 σ H1 (fun o H4 => o = some (-1) ∧ H4 = H1) I1 ⟨1, rfl, -1, rfl, rfl, rfl⟩) fun vs s4 ⟨o, H4, I4, ps, eo, e4⟩ => ?_
  subst eo e4
  have I5 : Inv X pins σ H4 { s4 with heap := s4.heap.push { cls := .type "slice", data := .fields #[.none, .none, vs] } } := I4.kept (t' := s4.toks) fun b ob q => Heap.get?_push_of_some _ q
  show wpAny (model X.prog X.w) X.A (subscriptTail e (.Slice none none (some (.UnaryOp .USub (.Constant (.int 1) k p1) p2)) p3) (.ref a) (.ref s4.heap.objs.size)) (EP X pins σ Q) X.xe { s4 with heap := s4.heap.push { cls := .type "slice", data := .fields #[.none, .none, vs] } }
  rcases q with ⟨hx, q⟩ | ⟨hx, q⟩
  · obtain ⟨its, r, ht, hz⟩ := I5.list hx
    have hlen := r.length
    refine tail_any (ops := [.ref a, .ref s4.heap.objs.size]) ht.isList.typeIs (PySem.slot_list_getitem.lookup) ?_ (by with_unfolding_all rfl)
    refine wpAny_getItem_list_slice ht.isList (Heap.IsSliceOf.new _ .none .none vs) .none .none ps (by decide) ?_ (by rw [List.size_toArray]; omega)
    rw [PySem.W.krv_pick]
    refine ⟨.ref _, _, I5.laid (t' := s4.toks) (o := .lst xs.reverse) (fun b ob q => Heap.get?_push_of_some _ q) (Nat.le_refl _) ?_, rfl, q _ (I5.hok.fresh (Nat.le_refl _))⟩
    exact ⟨by rw [List.length_reverse]; exact hz, _, 0, r.reverse, Heap.get?_push_size _ rfl⟩
  · obtain ⟨its, r, ht, hz⟩ := I5.tuple hx
    have hlen := r.length
    refine tail_any (ops := [.ref a, .ref s4.heap.objs.size]) ht.typeIs (PyProof.Rows.slot_tuple_getitem.lookup) ?_ (by with_unfolding_all rfl)
    refine getItem_tuple_rev ht (Heap.IsSliceOf.new _ .none .none vs) ps ?_ (by rw [List.size_toArray]; omega)
    refine ⟨.ref _, _, I5.laid (t' := s4.toks) (o := .tup xs.reverse) (fun b ob q => Heap.get?_push_of_some _ q) (Nat.le_refl _) ?_, rfl, q _ (I5.hok.fresh (Nat.le_refl _))⟩
    exact ⟨by rw [List.length_reverse]; exact hz, _, r.reverse, IsTup.new _ _⟩
theorem IsAll.rev {X : AP} {H : Hp} : ∀ {xs : List L2.V} {ds : List D}, IsAll X H xs ds → IsAll X H xs.reverse ds.reverse
  | _, _, .nil => .nil
  | _, _, .cons h t => by
    rw [List.reverse_cons, List.reverse_cons]
    exact t.rev.snoc h
section
variable {W : Wd} {n : Nat} {ρ : Rho} {K : PySem.W.Frag}
theorem de_revT {te : TE} {P : Nat → D → Prop} (h : DE te W n ρ fun n d => ∃ ds, d = .tup ds ∧ P n (.tup ds.reverse)) : DE (tRevA K te) W n ρ P := fun Z T σ H e Q k =>
  h Z T σ H e _ fun n v d H' ⟨ds, hd, p⟩ e' i => by
    subst hd
    obtain ⟨a, xs, rfl, ha, h1, _⟩ := isw_tup (.inl i)
    refine ⟨a, xs, rfl, .inr ⟨.of ha, fun t ht => ?_⟩⟩
    obtain ⟨e2, i2⟩ := new_tup e' h1.rev ht
    exact k _ _ _ _ p e2 i2
theorem df_revL {te : TE} {P : Nat → D → Prop} (h : DE te W n ρ fun n d => ∃ ds, d = .lst ds ∧ P n (.lst ds.reverse)) : DF (tRevA K te) W n ρ P := fun Z T σ H e Q k =>
  h Z T σ H e _ fun n v d H' ⟨ds, hd, p⟩ e' i => by
    subst hd
    obtain ⟨a, xs, rfl, ha, h1⟩ := isw_lst (.inl i)
    refine ⟨a, xs, rfl, .inl ⟨.of ha, fun t ht => ?_⟩⟩
    obtain ⟨e2, i2⟩ := new_lst e' h1.rev ht
    exact k _ _ _ _ _ p e2 i2
theorem rev_at {α : Type} {l : List α} {i : Nat} {x : α} (hi : i < l.length) (h : l[l.length - 1 - i]? = some x) : l.reverse[i]? = some x := by
  rw [List.getElem?_reverse hi]; exact h
/-- reversed(x) -/
theorem di_revT {te : TE} {P : Nat → List D → Prop} (h : DE te W n ρ fun n d => ∃ es, d = .tup es ∧ P n es.reverse) : DI (RT.iRevA K te) W n ρ P := fun Z T σ H e Q k =>
  h Z T σ H e _ fun n v d H' ⟨es, hd, p⟩ e' i => by
    subst hd
    have e1 : Env W n Z ([(v, .tup es)] ++ T) ρ σ H' := e'.push i
    cases i with
    | @tup a xs _ hx hr ha =>
      have hl0 : xs.length = es.length := ha.len
      refine ⟨a, xs, rfl, .inr ⟨.of hr, k _ _ _ [(.ref a, .tup es)] H' p e1 fun n Z T ρ σ H hT e i => ?_⟩⟩
      have q := e.t (.ref a, .tup es) (hT _ List.mem_cons_self)
      cases q with
      | @tup _ ys _ hx2 hr2 ha2 =>
        have hl := ha2.len
        rw [List.length_reverse]
        refine ⟨fun hi => ⟨⟨by omega, ys, ys[xs.length - 1 - i]'(by omega), .of hr2, by simp⟩, fun x H' ⟨eh, y⟩ => ?_⟩, fun hi => by show xs.length ≤ i; omega⟩
        subst eh
        obtain ⟨d, h1, h2⟩ := ha2.get (y ys (.of hr2))
        rw [hl0] at h1
        exact ⟨d, rev_at hi h1, e.push h2⟩
theorem di_revL {te : TE} {P : Nat → List D → Prop} (h : DE te W n ρ fun n d => ∃ es, d = .lst es ∧ P n es.reverse) : DI (RT.iRevA K te) W n ρ P := fun Z T σ H e Q k =>
  h Z T σ H e _ fun n v d H' ⟨es, hd, p⟩ e' i => by
    subst hd
    have e1 : Env W n Z ([(v, .lst es)] ++ T) ρ σ H' := e'.push i
    cases i with
    | @lst a xs _ hx hr ha =>
      have hl0 : xs.length = es.length := ha.len
      refine ⟨a, xs, rfl, .inl ⟨.of hr, k _ _ _ [(.ref a, .lst es)] H' p e1 fun n Z T ρ σ H hT e i => ?_⟩⟩
      have q := e.t (.ref a, .lst es) (hT _ List.mem_cons_self)
      cases q with
      | @lst _ ys _ hx2 hr2 ha2 =>
        have hl := ha2.len
        rw [List.length_reverse]
        refine ⟨fun hi => ⟨⟨by omega, ys, ys[xs.length - 1 - i]'(by omega), .of hr2, by simp⟩, fun x H' ⟨eh, y⟩ => ?_⟩, fun hi => by show xs.length ≤ i; omega⟩
        subst eh
        obtain ⟨d, h1, h2⟩ := ha2.get (y ys (.of hr2))
        rw [hl0] at h1
        exact ⟨d, rev_at hi h1, e.push h2⟩
end
end HD

namespace HD
open PySem PySem.Spec PyProof.Rows L2
section
variable {W : Wd} {n : Nat} {ρ : Rho} {K : PySem.W.Frag} {P : Nat → D → Prop} {wi : TI} {g : TG} {S vs : List Nat} {tt : TT} {te : TE}
theorem pg_unlK {es : List Expr} {k : Nat} {X : Cx} {t : TGs} {n : Nat} {pos : Pos} (e : X.K = K) (hc : X.calm = true) (h : PGs X es t) (hn : (assignEach es X.env).length = n := by rfl) (hst : (assignEach es X.env).findIdx? (·.1) = none := by rfl) : PG X (.Tuple es k pos) (gUnl K n t) := e ▸ pg_unl hc h hn hst
theorem dg_unl {m : Nat} {gs : TGs} {ds : List D} {P : Rho → Prop} (hn : ds.length = m) (h : DGs gs S ds W ρ P) : DG (gUnl K m gs) S (.lst ds) W ρ P := fun n Z T σ H v e i Q k => by
  cases i with
  | lst hx hr ha => exact ⟨_, _, rfl, .of hr, by rw [ha.len]; exact hn, h n Z T σ H _ e ha Q k⟩
/-- with a test, the credit kept -/
theorem df_lc_filterE (p : D → Bool) (f : D → D) (hno : NoOwn ρ vs) (h : DI wi W n ρ fun n ds => ds.length ≤ sizeLine ∧ (∀ d, d ∈ ds → DG g S d W (wipeR ρ vs) fun ρ2 => DT tt W n ρ2 fun n' b => n' = n ∧ b = p d ∧ (b = true → DE te W n ρ2 fun n' y => n' = n ∧ y = f d)) ∧ P n (.lst ((ds.filter p).map f)))
    (hS : ∀ i, i ∈ S → i ∈ vs) : DF (tLc wi g tt te vs) W n ρ P :=
  df_lc hno hS fun Z T σ H e Q k => h Z T σ H e Q fun n J ds T0 H' ⟨h1, h2, h3⟩ e' ok => k n J ds T0 H' ⟨fun i n' acc => i ≤ ds.length ∧ n' = n ∧ acc = ((ds.take i).filter p).map f, ⟨Nat.zero_le _, rfl, rfl⟩, fun i n' d acc hd ⟨_, hn, hI⟩ m Z T σ H v e i0 Q k2 => by
    subst hn
    exact h2 d (List.mem_of_getElem? hd) m Z T σ H v e i0 Q fun ρ' σ' q e2 ag =>
      k2 ρ' σ' (q.imp fun n2 b ⟨hn2, hb, hq⟩ => by
        subst hn2
        have hi : i < ds.length := (List.getElem?_eq_some_iff.mp hd).1
        subst hI
        have hl : (((ds.take i).filter p).map f).length ≤ i := by
          rw [List.length_map]
          exact Nat.le_trans (List.length_filter_le _ _) (by rw [List.length_take]; omega)
        refine ⟨fun hb' => (hq hb').imp fun _ y ⟨hn3, r⟩ => ⟨by omega, hi, hn3, ?_⟩, fun hb' => ⟨hi, rfl, ?_⟩⟩
        · rw [take_snoc hd, List.filter_append, List.map_append, r]
          have : p d = true := by rw [← hb]; exact hb'
          simp [this]
        · rw [take_snoc hd, List.filter_append, List.map_append]
          have : p d = false := by rw [← hb]; exact hb'
          simp [this]) e2 ag, fun n' acc ⟨_, hn, hI⟩ => by
        rw [List.take_length] at hI
        subst hI
        rw [hn]
        exact h3⟩ e' ok
/-- each, the credit kept -/
theorem df_lc_mapE (f : D → D) (hno : NoOwn ρ vs) (h : DI wi W n ρ fun n ds => ds.length ≤ sizeLine ∧ (∀ d, d ∈ ds → DG g S d W (wipeR ρ vs) fun ρ2 => DE te W n ρ2 fun n' y => n' = n ∧ y = f d) ∧ P n (.lst (ds.map f))) (hS : ∀ i, i ∈ S → i ∈ vs) : DF (tLc wi g tYes te vs) W n ρ P :=
  df_lc hno hS fun Z T σ H e Q k => h Z T σ H e Q fun n J ds T0 H' ⟨h1, h2, h3⟩ e' ok => k n J ds T0 H' ⟨fun i n' acc => i ≤ ds.length ∧ n' = n ∧ acc = (ds.take i).map f, ⟨Nat.zero_le _, rfl, rfl⟩, fun i n' d acc hd ⟨_, hn, hI⟩ m Z T σ H v e i0 Q k2 => by
    subst hn
    exact h2 d (List.mem_of_getElem? hd) m Z T σ H v e i0 Q fun ρ' σ' q e2 ag =>
      k2 ρ' σ' (dt_yes ⟨fun _ => q.imp fun n2 y ⟨hn2, r⟩ => by
        have hi : i < ds.length := (List.getElem?_eq_some_iff.mp hd).1
        subst hI
        have hl : ((ds.take i).map f).length ≤ i := by rw [List.length_map, List.length_take]; omega
        refine ⟨by omega, hi, hn2, ?_⟩
        rw [take_snoc hd, List.map_append, r]; rfl, fun z => nomatch z⟩) e2 ag, fun n' acc ⟨_, hn, hI⟩ => by
        rw [List.take_length] at hI
        subst hI
        rw [hn]
        exact h3⟩ e' ok
end
section
variable {α0 : Type} [Enc α0] {α1 : Type} [Enc α1] {α2 : Type} [Enc α2] {α3 : Type} [Enc α3] {α4 : Type} [Enc α4]
theorem pfK1 {pre : α0 → Prop} {out : α0 → Out} {ds es gs : List D} {q j : Nat} {EP : Addr → List Str → List D → Prop} {Q : D → Prop} {a0 : α0} {fr : Bool} {d : D} (g1 : ds.length = q) (g2 : es.length = j) (h : gs = [Enc.e a0]) (h1 : pre a0) (h2 : out a0 = .ret fr d) (qq : Q d) : ds.length = q ∧ es.length = j ∧ ∃ (a0 : α0), gs = [Enc.e a0] ∧ pre a0 ∧ Outs EP Q (out a0) := ⟨g1, g2, a0, h, h1, by rw [h2]; exact qq⟩
theorem pfK2 {pre : α0 → α1 → Prop} {out : α0 → α1 → Out} {ds es gs : List D} {q j : Nat} {EP : Addr → List Str → List D → Prop} {Q : D → Prop} {a0 : α0} {a1 : α1} {fr : Bool} {d : D} (g1 : ds.length = q) (g2 : es.length = j) (h : gs = [Enc.e a0, Enc.e a1]) (h1 : pre a0 a1) (h2 : out a0 a1 = .ret fr d) (qq : Q d) : ds.length = q ∧ es.length = j ∧ ∃ (a0 : α0) (a1 : α1), gs = [Enc.e a0, Enc.e a1] ∧ pre a0 a1 ∧ Outs EP Q (out a0 a1) := ⟨g1, g2, a0, a1, h, h1, by rw [h2]; exact qq⟩
theorem pfK3 {pre : α0 → α1 → α2 → Prop} {out : α0 → α1 → α2 → Out} {ds es gs : List D} {q j : Nat} {EP : Addr → List Str → List D → Prop} {Q : D → Prop} {a0 : α0} {a1 : α1} {a2 : α2} {fr : Bool} {d : D} (g1 : ds.length = q) (g2 : es.length = j) (h : gs = [Enc.e a0, Enc.e a1, Enc.e a2]) (h1 : pre a0 a1 a2) (h2 : out a0 a1 a2 = .ret fr d) (qq : Q d) : ds.length = q ∧ es.length = j ∧ ∃ (a0 : α0) (a1 : α1) (a2 : α2), gs = [Enc.e a0, Enc.e a1, Enc.e a2] ∧ pre a0 a1 a2 ∧ Outs EP Q (out a0 a1 a2) := ⟨g1, g2, a0, a1, a2, h, h1, by rw [h2]; exact qq⟩
theorem pfK4 {pre : α0 → α1 → α2 → α3 → Prop} {out : α0 → α1 → α2 → α3 → Out} {ds es gs : List D} {q j : Nat} {EP : Addr → List Str → List D → Prop} {Q : D → Prop} {a0 : α0} {a1 : α1} {a2 : α2} {a3 : α3} {fr : Bool} {d : D} (g1 : ds.length = q) (g2 : es.length = j) (h : gs = [Enc.e a0, Enc.e a1, Enc.e a2, Enc.e a3]) (h1 : pre a0 a1 a2 a3) (h2 : out a0 a1 a2 a3 = .ret fr d) (qq : Q d) : ds.length = q ∧ es.length = j ∧ ∃ (a0 : α0) (a1 : α1) (a2 : α2) (a3 : α3), gs = [Enc.e a0, Enc.e a1, Enc.e a2, Enc.e a3] ∧ pre a0 a1 a2 a3 ∧ Outs EP Q (out a0 a1 a2 a3) := ⟨g1, g2, a0, a1, a2, a3, h, h1, by rw [h2]; exact qq⟩
theorem pfK5 {pre : α0 → α1 → α2 → α3 → α4 → Prop} {out : α0 → α1 → α2 → α3 → α4 → Out} {ds es gs : List D} {q j : Nat} {EP : Addr → List Str → List D → Prop} {Q : D → Prop} {a0 : α0} {a1 : α1} {a2 : α2} {a3 : α3} {a4 : α4} {fr : Bool} {d : D} (g1 : ds.length = q) (g2 : es.length = j) (h : gs = [Enc.e a0, Enc.e a1, Enc.e a2, Enc.e a3, Enc.e a4]) (h1 : pre a0 a1 a2 a3 a4) (h2 : out a0 a1 a2 a3 a4 = .ret fr d) (qq : Q d) : ds.length = q ∧ es.length = j ∧ ∃ (a0 : α0) (a1 : α1) (a2 : α2) (a3 : α3) (a4 : α4), gs = [Enc.e a0, Enc.e a1, Enc.e a2, Enc.e a3, Enc.e a4] ∧ pre a0 a1 a2 a3 a4 ∧ Outs EP Q (out a0 a1 a2 a3 a4) := ⟨g1, g2, a0, a1, a2, a3, a4, h, h1, by rw [h2]; exact qq⟩
end
/-! ### slots told as a list again, behind each store -/
inductive SetR : Rho → Nat → Option (Bool × D) → Rho → Prop
  | zero {a s : Option (Bool × D)} {l : Rho} : SetR (a :: l) 0 s (s :: l)
  | succ {a s : Option (Bool × D)} {l l' : Rho} {i : Nat} : SetR l i s l' → SetR (a :: l) (i + 1) s (a :: l')
theorem SetR.s4 {a b c d s : Option (Bool × D)} {l l' : Rho} {i : Nat} (h : SetR l i s l') : SetR (a :: b :: c :: d :: l) (i + 4) s (a :: b :: c :: d :: l') := .succ (.succ (.succ (.succ h)))
theorem SetR.eq {l l' : Rho} {i : Nat} {s : Option (Bool × D)} (h : SetR l i s l') : l.set i s = l' := by
  induction h with
  | zero => rfl
  | succ _ ih => rw [List.set_cons_succ, ih]
structure Nrm (r r' : Rho) : Prop where
  eq : r = r'
theorem Nrm.lit {r : Rho} : Nrm r r := ⟨rfl⟩
theorem Nrm.set {r r1 r2 : Rho} {i : Nat} {s : Option (Bool × D)} (h : Nrm r r1) (k : SetR r1 i s r2) : Nrm (r.set i s) r2 := ⟨by rw [h.eq, k.eq]⟩
theorem Nrm.wipe0 {r r' : Rho} (h : Nrm r r') : Nrm (wipeR r []) r' := ⟨h.eq⟩
theorem Nrm.wipe1 {r r1 r2 : Rho} {i : Nat} {vs : List Nat} (h : Nrm (wipeR r vs) r1) (k : SetR r1 i none r2) : Nrm (wipeR r (i :: vs)) r2 := ⟨by
  have e : wipeR r (i :: vs) = (wipeR r vs).set i none := rfl
  rw [e, h.eq, k.eq]⟩
theorem Nrm.wipeA {r r1 r2 : Rho} {i : Nat} {vs us : List Nat} (e : us = i :: vs) (h : Nrm (wipeR r vs) r1) (k : SetR r1 i none r2) : Nrm (wipeR r us) r2 := e ▸ Nrm.wipe1 h k
theorem Nrm.wipeB {r r' : Rho} {us : List Nat} (e : us = []) (h : Nrm r r') : Nrm (wipeR r us) r' := e ▸ Nrm.wipe0 h
inductive StR : List Str → List D → Rho → Prop
  | nil : StR [] [] []
  | d {x : Str} {N : List Str} {d : D} {ds : List D} {r : Rho} : StR N ds r → StR (x :: N) (d :: ds) (some (false, d) :: r)
  | n {x : Str} {N : List Str} {r : Rho} : StR N [] r → StR (x :: N) [] (none :: r)
theorem StR.eq {N : List Str} {ds : List D} {r : Rho} (h : StR N ds r) : startR N ds = r := by
  induction h with
  | nil => rfl
  | d _ ih => rw [← ih]; simp [startR]
  | n _ ih => rw [← ih]; simp [startR, List.replicate_succ]
theorem Nrm.start {N : List Str} {ds : List D} {r : Rho} (h : StR N ds r) : Nrm (startR N ds) r := ⟨h.eq⟩
section
variable {W : Wd} {n : Nat} {ρ ρ1 ρ' : Rho} {s : Option (Bool × D)} {i : Nat}
theorem ds_norm {t : TS} {N : Nat → Rho → Prop} {R : Nat → Bool → D → Prop} {B C : Nat → Rho → Prop} (h : Nrm ρ ρ1) (h2 : SetR ρ1 i s ρ') (k : DS t W n ρ' N R B C) : DS t W n (ρ.set i s) N R B C := (Nrm.set h h2).eq ▸ k
theorem ds_start {t : TS} {Ns : List Str} {ds : List D} {N : Nat → Rho → Prop} {R : Nat → Bool → D → Prop} {B C : Nat → Rho → Prop} (h : StR Ns ds ρ') (k : DS t W n ρ' N R B C) : DS t W n (startR Ns ds) N R B C := h.eq ▸ k
theorem de_norm {te : TE} {P : Nat → D → Prop} (h : Nrm ρ ρ1) (h2 : SetR ρ1 i s ρ') (k : DE te W n ρ' P) : DE te W n (ρ.set i s) P := (Nrm.set h h2).eq ▸ k
theorem dt_norm {te : TT} {P : Nat → Bool → Prop} (h : Nrm ρ ρ1) (h2 : SetR ρ1 i s ρ') (k : DT te W n ρ' P) : DT te W n (ρ.set i s) P := (Nrm.set h h2).eq ▸ k
end
end HD

namespace HD
open PySem PySem.Spec PyProof.Rows L2
theorem tuple_mul1 (l : Addr) (items : Array Value) (n : Nat) (dd : Option Addr) (sl : Array (Option Value)) (u : Tok) :
    Meets (Builtin.«tuple.__mul__» ⟨[.ref l, .int 1 u], []⟩) (fun _ R s => s.heap.get? l = some { cls := .type "tuple", dict := dd, data := .seq items n, slots := sl } ∧
      R (.ok (.ret (Value.ref l))) s) :=
  .of_wp fun prog w A R s h => by
    obtain ⟨hp, g, d, tk, os⟩ := s
    obtain ⟨hl, h⟩ := h
    have f1 := AutoSeq1.idx_int
    have c0 : (decide ((1 : Int) < -(2 ^ 63)) || decide ((1 : Int) ≥ 2 ^ 63)) = false := by decide
    have c1 : (items.isEmpty || (1 : Int) == 1) = true := by rw [show ((1 : Int) == 1) = true from rfl, Bool.or_true]
    wp_walk using wpAny_loadPart' hl
    repeat (first
      | (refine wpAny_ite_false (decide_eq_false (by rw [c0]; exact Bool.false_ne_true)) ?_; wp_walk using wpAny_loadPart' hl)
      | (refine wpAny_ite_true (decide_eq_true (by rw [c1])) ?_; wp_walk using wpAny_loadPart' hl))
    exact ⟨_, rfl, h⟩
def rRepT1 (K : PySem.W.Frag) : R2 := fun x y H Q => ∃ l xs, x = .ref l ∧ y = .int 1 ∧ SqT K H l xs ∧ Q (.ref l) H
theorem op_repT1 {X : Cx} : OpR X (binaryOp .Mult) (rRepT1 X.K) := by
  intro pins s σ H x y v u Q I rx ry h
  obtain ⟨l, xs, rfl, rfl, hT, q⟩ := h
  cases rx
  obtain ⟨t, rfl⟩ := ry
  obtain ⟨its, r, ⟨⟨cls, dd, data, sl⟩, ho, hc, n, hd⟩, hs⟩ := I.tuple hT
  simp only at hc hd
  subst hc hd
  refine wpAny_binaryOp_repeat_ref (T := "tuple") (U := "int") (by decide) ⟨_, ho, rfl⟩ (fun s' => typeIs_int s' 1 t) noFill_tuple_mul F.fills_int_mul F.slot_int_rmul repeat_tuple F.slot_int_index.lookup
    (call_meets F.slot_int_rmul (typeIs_int s 1 t) F.entry_int_rmul (F.args_int_rmul_2 _ _) (int_rmul_tuple 1 t l its.toArray n dd sl)
      ⟨ho, rfl, ⟨_, ho, rfl⟩, call_meets F.slot_tuple_mul ⟨_, ho, rfl⟩ F.entry_tuple_mul (F.args_tuple_mul_2 _ _) (tuple_mul1 l its.toArray n dd sl t) ⟨ho, ?_⟩⟩)
  exact ⟨.ref l, _, I, rfl, q⟩
def rMulT (K : PySem.W.Frag) : R2 := fun x y H Q => rRepT K x y H Q ∨ rRepT1 K x y H Q
theorem op_mulT {X : Cx} : OpR X (binaryOp .Mult) (rMulT X.K) := op_repT.or op_repT1
section
variable {W : Wd} {n : Nat} {ρ : Rho} {K : PySem.W.Frag} {P : Nat → D → Prop}
theorem r_mulT {ds : List D} {c : Int} (h0 : ds ≠ []) (h1 : 1 ≤ c) (h2 : c ≤ 1000) (hl : ds.length ≤ 1000) (p : P n (.tup (List.replicate c.toNat ds).flatten)) : DR (rMulT K) W n ρ (.tup ds) (.int c) P := fun Z T σ H v1 v2 e i1 i2 Q k => by
  have i1' := i1
  obtain ⟨a, xs, rfl, ha, i, hx⟩ := isw_tup i1
  cases isw_int i2
  by_cases hc : c = 1
  · subst hc
    refine .inr ⟨a, xs, rfl, rfl, .of ha, ?_⟩
    have e1 : (List.replicate (1 : Int).toNat ds).flatten = ds := by simp
    rw [e1] at p
    exact k _ _ _ _ p e i1'.tup_is
  · refine .inl ⟨a, c, xs, rfl, rfl, .of ha, fun q => h0 ?_, by omega, h2, by rw [i.len]; exact hl, fun t ht => ?_⟩
    · subst q
      cases i
      rfl
    · obtain ⟨e', i'⟩ := new_tup e (i.rep c.toNat) ht
      exact k _ _ _ _ p e' i'
theorem sl_lst {ds : List D} {lo hi : Option Int} (p : P n (.lst (cutD ds lo hi))) : DSl (rSlU K) W n ρ (.lst ds) lo hi P := DSlF.sl (r_slL p)
/-- a, b, c = new, new, e -/
theorem ds_par3_oos {i j l : Nat} {ta tb tc : TE} {N : Nat → Rho → Prop} {R : Nat → Bool → D → Prop} {B C : Nat → Rho → Prop} (hij : i ≠ j) (hil : i ≠ l) (hjl : j ≠ l) (h : DF ta W n ρ fun n d1 => DF tb W n ρ fun n d2 => DE tc W n ρ fun n d3 => N n (((ρ.set i (some (true, d1))).set j (some (true, d2))).set l (some (false, d3)))) : DS (tPar3 i j l (tCons ta (tCons tb (tCons tc tNil)))) W n ρ N R B C := fun Z T σ H e De f =>
  h Z T σ H e _ fun n a o d1 H1 p1 e1 ho => p1 ((a, o) :: Z) (zipT (oVs o) (dVs d1) ++ T) σ H1 (e1.pushAll ho.all) _ fun n b o2 d2 H2 p2 e2 ho2 => p2 ((b, o2) :: (a, o) :: Z) (zipT (oVs o2) (dVs d2) ++ (zipT (oVs o) (dVs d1) ++ T)) σ H2 (e2.pushAll ho2.all) _ fun n v d3 H3 p3 e3 iv => by
    have hl := ho.all.len
    have hl2 := ho2.all.len
    have e4 : Env W n ((b, o2) :: (a, o) :: Z) ((v, d3) :: (zipT (oVs o2) (dVs d2) ++ (zipT (oVs o) (dVs d1) ++ T))) ρ σ H3 := e3.push iv
    have t1 := (e4.set (i := l) e4.top).pop1
    have t2 := t1.take (i := j) (ho2.re (t1.topAll hl2))
    have t3 := t2.take (i := i) (ho.re (t2.popAll.topAll hl))
    have q := t3.popAll.popAll
    rw [List.set_comm _ _ (Ne.symm hij), List.set_comm _ _ (Ne.symm hil), List.set_comm _ _ (Ne.symm hjl), List.set_comm _ _ (Ne.symm hij), List.set_comm _ _ (Ne.symm hil), List.set_comm _ _ (Ne.symm hjl)] at q
    exact ⟨.ref a, .ref b, v, rfl, f.nx _ _ _ _ p3 q⟩
/-! ### dicts of values at whole numbers -/
theorem dGet_at {α : Type} {f : α → D} : ∀ {l : List (Int × α)} {x : Int} {a : α}, (l.map (·.1)).Nodup → (x, a) ∈ l → dGet (l.map fun p => Sum.inl p.1) (l.map fun p => f p.2) (.inl x) = some (f a)
  | [], x, a, _, h => by cases h
  | (y, b) :: l, x, a, nd, h => by
    unfold dGet
    simp only [List.map_cons, List.zip_cons_cons, List.find?_cons]
    by_cases e : y = x
    · subst e
      rw [decide_eq_true rfl]
      rcases List.mem_cons.mp h with h | h
      · cases h; rfl
      · exact absurd (List.mem_map.mpr ⟨_, h, rfl⟩) (List.nodup_cons.mp nd).1
    · have e2 : ¬ (Sum.inl y : Key) = .inl x := fun z => e (by injection z)
      rw [decide_eq_false e2]
      rcases List.mem_cons.mp h with h | h
      · cases h; exact absurd rfl e
      · exact dGet_at (f := f) (List.nodup_cons.mp nd).2 h
end
end HD

namespace HD
open PySem PySem.Spec PyProof.Rows L2
/-! ### a slot's own object lent to a call; what comes out is an atom -/
def Atom : D → Prop
  | .non => True
  | .bl _ => True
  | .int _ => True
  | .str _ => True
  | _ => False
section
variable {W : Wd} {n : Nat} {Z : ZL} {T : TL} {ρ : Rho} {σ : L2.St} {H : Hp}
/-- all but the slot's own object -/
def XO (W : Wd) (Z : ZL) (ρ : Rho) (σ : L2.St) (i : Nat) (b : Addr) : Prop := XX W Z ρ σ b ∧ σ[i]? ≠ some (some (.ref b))
theorem Atom.is {d : D} (h : Atom d) {X X' : AP} {H H' : Hp} {v : L2.V} (k : Is X H v d) : Is X' H' v d := by
  cases d <;> first | exact h.elim | (cases k; constructor)
def DAO (i : Nat) (ta : TA) (W : Wd) (n : Nat) (ρ : Rho) (P : Nat → List D → Prop) : Prop := ∀ (Z : ZL) (T : TL) (σ : L2.St) (H : Hp), Env W n Z T ρ σ H → ∀ Q : List L2.V → Hp → Prop, (∀ (n : Nat) (vs : List L2.V) (ds : List D) (H' : Hp), P n ds → Env W n Z T ρ σ H' → IsAll (XO W Z ρ σ i) H' vs ds → Q vs H') → ta σ H Q
theorem xo_mv {i : Nat} : Mv (XX W Z ρ σ) H (XO W Z ρ σ i) H := fun a o q hx => ⟨q, fun x => hx x.1⟩
theorem dao_nil {i : Nat} {P : Nat → List D → Prop} (p : P n []) : DAO i tNil W n ρ P := fun Z T σ H e Q k => k _ [] [] H p e .nil
theorem dao_cons {i : Nat} {ta : TE} {tr : TA} {P : Nat → List D → Prop} (h : DE ta W n ρ fun n d => DAO i tr W n ρ fun n ds => P n (d :: ds)) : DAO i (tCons ta tr) W n ρ P := fun Z T σ H e Q k =>
  h Z T σ H e _ fun n v d H1 p1 e1 i1 => p1 Z ((v, d) :: T) σ H1 (e1.push i1) _ fun n vs ds H2 p2 e2 i2 => k _ (v :: vs) (d :: ds) H2 p2 e2.pop1 (.cons (e2.top.mv xo_mv _) i2)
theorem dao_own {i : Nat} {d : D} {tr : TA} {P : Nat → List D → Prop} (ho : ρ[i]? = some (some (true, d))) (h : DAO i tr W n ρ fun n ds => P n (d :: ds)) : DAO i (tCons (tVar i) tr) W n ρ P := fun Z T σ H e Q k => by
  obtain ⟨a, o, q, _⟩ := e.ow i d ho
  refine ⟨.ref a, q, h Z T σ H e _ fun n vs ds H2 p2 e2 i2 => ?_⟩
  obtain ⟨a', o', q', h2, h3, h4, h5⟩ := e2.ow i d ho
  rw [q] at q'; cases q'
  exact k _ _ _ H2 p2 e2 (.cons (h3.is h2 (fun x => x.2 q) xo_mv) i2)
theorem de_lent {m : Nat} {i : Nat} {pre : Nat → List D → Prop} {post : Nat → List D → Nat → Out → Prop} {E : XK} {P : Nat → D → Prop} {tas : TA} (h : DAO i tas W n ρ fun n ds => ds.length = m ∧ pre n ds ∧ (∀ n' C ns l, ¬ post n ds n' (.exc C ns l)) ∧ ∀ n' b d, post n ds n' (.ret b d) → b = false ∧ Atom d ∧ P n d) : DE (tCall (Prm m V0 G0 pre post) [] E tas) W n ρ P := fun Z T σ H e Q k =>
  h Z T σ H e _ fun n vs ds H' ⟨hl, hp, hx, hq⟩ e' i' => by
    show Prm m V0 G0 pre post (vs ++ []) H' Q E
    rw [List.append_nil]
    refine ⟨XO W Z ρ σ i, ds, n, fun a hv => hv.elim, fun a hx => e'.xdom hx.1, True.intro, i', hl, hp, fun n' v d H2 p f _ iv => ?_, fun n' a o d H2 p => ?_, fun n' C ns l _ _ p => absurd p (hx n' C ns l)⟩
    · obtain ⟨_, ha, hpd⟩ := hq n' false d p
      have e2 := e'.same fun b u q => f b u q fun z => z
      exact k _ v d H2 hpd e2 (ha.is iv)
    · exact absurd (hq n' true d p).1 (by decide)
variable {α0 α1 α2 α3 : Type} [Enc α0] [Enc α1] [Enc α2] [Enc α3]
theorem de_pf3L {i : Nat} {pre : α0 → α1 → α2 → Prop} {out : α0 → α1 → α2 → Out} {E : XK} {P : Nat → D → Prop} {tas : TA} (h : DAO i tas W n ρ fun n ds => ∃ (a0 : α0) (a1 : α1) (a2 : α2), ds = [Enc.e a0, Enc.e a1, Enc.e a2] ∧ pre a0 a1 a2 ∧ ∃ d, out a0 a1 a2 = .ret false d ∧ Atom d ∧ P n d) : DE (tCall (PF3 pre out) [] E tas) W n ρ P :=
  de_lent (i := i) fun Z T σ H e Q k => h Z T σ H e Q fun n vs ds H' ⟨a0, a1, a2, h1, h2, d, h3, h4, h5⟩ e' i' => k n vs ds H' ⟨by rw [h1]; rfl, ⟨a0, a1, a2, h1, h2⟩, fun n' C ns l q => (by have q1 := q a0 a1 a2 h1; rw [h3] at q1; cases q1), fun n' b d' q => (by have q1 := q a0 a1 a2 h1; rw [h3] at q1; cases q1; exact ⟨rfl, h4, h5⟩)⟩ e' i'
/-- return a if c else b, as two returns -/
theorem ds_retIf {tt : TT} {ta tb : TE} {N : Nat → Rho → Prop} {R : Nat → Bool → D → Prop} {B C : Nat → Rho → Prop} (h : DT tt W n ρ fun n b => (b = true → DS (tRet ta) W n ρ N R B C) ∧ (b = false → DS (tRet tb) W n ρ N R B C)) : DS (tRet (tIf tt ta tb)) W n ρ N R B C := fun Z T σ H e De f =>
  h Z T σ H e _ fun n b H' p e' => by
    cases b with
    | true => exact p.1 rfl Z T σ H' e' De f
    | false => exact p.2 rfl Z T σ H' e' De f
end
end HD

namespace HD
open PySem PySem.Spec PyProof.Rows L2
/-! ### shortenings one after another -/
section
variable {lv ar : LF} {ok : Ps → Prop}
theorem fit_all (F : Flip ok lv ar) : ∀ (k : Nat) (w : Wk), w.pulls.length = w.passes.length + 1 → (∀ p ∈ w.passes, ok p) → (∀ i, ¬ spot ar w i) → k ≤ w.passes.length → ∃ v : Wk, v.passes = w.passes ∧ v.room = w.room ∧ v.pulls.length = w.pulls.length ∧ pf lv ar v = pf lv ar w ∧ (∀ i, ¬ spot ar v i) ∧ ∀ i, i < k → fit lv v i
  | 0, w, hl, hp, hs, hk => ⟨w, rfl, rfl, rfl, rfl, hs, fun i h => absurd h (by omega)⟩
  | k + 1, w, hl, hp, hs, hk => by
    obtain ⟨v, h1, h2, h3, h4, h5, h6⟩ := fit_all F k w hl hp hs (by omega)
    have hkv : k < v.passes.length := by rw [h1]; omega
    have hlv : v.pulls.length = v.passes.length + 1 := by rw [h3, h1]; exact hl
    have hpv : ∀ p ∈ v.passes, ok p := by rw [h1]; exact hp
    refine ⟨carryW lv ar v k (fitT lv v k), h1, h2, ?_, (carry_pf F.toNums v k _).trans h4, fun i hi => h5 i ((carry_spot F hlv hpv hkv _ i).mp hi), fun i hi => ?_⟩
    · show (carryL lv ar k _ v.pulls v.passes).length = _
      rw [carryL_len]; exact h3
    · by_cases e : i = k
      · rw [e]; exact fitT_fit F.toNums hlv hkv
      · exact (carry_fit hlv hkv _ e (by omega)).mpr (h6 i (by omega))
theorem nospot_passes (F : Flip ok lv ar) {w : Wk} (hl : w.pulls.length = w.passes.length + 1) (hp : ∀ p ∈ w.passes, ok p) (hs : ∀ i, ¬ spot ar w i) : (pf lv ar w).passes = w.passes := by
  obtain ⟨v, h1, h2, h3, h4, h5, h6⟩ := fit_all F w.passes.length w hl hp hs (Nat.le_refl _)
  have := plain_end F (w := v) (by rw [h3, h1]; exact hl) (by rw [h1]; exact hp) h5 fun i hi => h6 i (by rw [← h1]; exact hi) hi
  rw [← h4, ← this, h1]
theorem nospot_stand (F : Flip ok lv ar) {w : Wk} (hl : w.pulls.length = w.passes.length + 1) (hp : ∀ p ∈ w.passes, ok p) (hs : ∀ i, ¬ spot ar w i) : pf lv ar w = standW w.room ↔ w = standW w.room := by
  constructor
  · intro h
    have e := nospot_passes F hl hp hs
    rw [h] at e
    have e : w.passes = [] := e.symm
    obtain ⟨r, us, ps⟩ := w
    dsimp only at e hl h
    subst e
    obtain ⟨x, rfl⟩ : ∃ x, us = [x] := by
      rcases us with _ | ⟨x, _ | ⟨y, t⟩⟩
      · simp at hl
      · exact ⟨x, rfl⟩
      · simp at hl
    have h : (⟨r, [0 + x], []⟩ : Wk) = standW r := h
    simp only [standW, Wk.mk.injEq, List.cons.injEq, and_true, true_and] at h ⊢
    omega
  · intro h
    rw [h]; rfl
variable (lv ar) in
inductive Sh : Wk → List Nat → Wk → Prop
  | nil {w : Wk} : Sh w [] w
  | cons {w v : Wk} {i : Nat} {l : List Nat} : spot ar w i → Sh (shortW lv ar w i) l v → Sh w (i :: l) v
theorem Sh.snoc {i : Nat} : ∀ {w v : Wk} {l : List Nat}, Sh lv ar w l v → spot ar v i → Sh lv ar w (l ++ [i]) (shortW lv ar v i)
  | _, _, _, .nil, h => .cons h .nil
  | _, _, _, .cons h r, k => .cons h (r.snoc k)
theorem Sh.len : ∀ {w v : Wk} {l : List Nat}, Sh lv ar w l v → v.passes.length + 2 * l.length = w.passes.length
  | _, _, _, .nil => by simp
  | _, _, _, .cons (i := i) h r => by
    have := r.len
    rw [short_len h.1] at this
    have := h.1.1
    simp only [List.length_cons]
    omega
variable (lv ar) in
/-- the first spots, as long as there are some -/
def shF : Nat → Wk → List Nat × Wk
  | 0, w => ([], w)
  | k + 1, w => match spotsL ar w with
    | [] => ([], w)
    | i :: _ => (i :: (shF k (shortW lv ar w i)).1, (shF k (shortW lv ar w i)).2)
theorem shF_nil {k : Nat} {w : Wk} (h : ∀ i, ¬ spot ar w i) : shF lv ar k w = ([], w) := by
  cases k with
  | zero => rfl
  | succ k => show (match spotsL ar w with | [] => _ | i :: _ => _) = _; rw [spots_nil.mpr h]
theorem shF_cons {k : Nat} {w : Wk} {i : Nat} {t : List Nat} (h : spotsL ar w = i :: t) : shF lv ar (k + 1) w = (i :: (shF lv ar k (shortW lv ar w i)).1, (shF lv ar k (shortW lv ar w i)).2) := by
  show (match spotsL ar w with | [] => _ | i :: _ => _) = _
  rw [h]
theorem shF_ok : ∀ (k : Nat) (w : Wk), w.passes.length ≤ k → Sh lv ar w (shF lv ar k w).1 (shF lv ar k w).2 ∧ ∀ i, ¬ spot ar (shF lv ar k w).2 i
  | 0, w, h => ⟨.nil, fun i hi => by
    have : i + 1 < w.passes.length := hi.1.1
    omega⟩
  | k + 1, w, h => by
    cases e : spotsL ar w with
    | nil =>
      rw [shF_nil (spots_nil.mp e)]
      exact ⟨.nil, spots_nil.mp e⟩
    | cons i t =>
      have hi : spot ar w i := mem_spots.mp (by rw [e]; exact List.mem_cons_self)
      rw [shF_cons e]
      have hl := short_len (lv := lv) (ar := ar) hi.1
      have := hi.1.1
      obtain ⟨h1, h2⟩ := shF_ok k (shortW lv ar w i) (by omega)
      exact ⟨.cons hi h1, h2⟩
/-- fuel does not matter -/
theorem shF_fuel : ∀ (k j : Nat) (w : Wk), w.passes.length ≤ k → w.passes.length ≤ j → shF lv ar k w = shF lv ar j w
  | 0, j, w, h, _ => by rw [shF_nil (k := j) fun i hi => by have := hi.1.1; omega]; rfl
  | k + 1, 0, w, _, h => by rw [shF_nil (k := k + 1) fun i hi => by have := hi.1.1; omega]; rfl
  | k + 1, j + 1, w, h1, h2 => by
    cases e : spotsL ar w with
    | nil => rw [shF_nil (spots_nil.mp e), shF_nil (spots_nil.mp e)]
    | cons i t =>
      have hi : spot ar w i := mem_spots.mp (by rw [e]; exact List.mem_cons_self)
      have hl := short_len (lv := lv) (ar := ar) hi.1
      have := hi.1.1
      rw [shF_cons e, shF_cons e, shF_fuel k j _ (by omega) (by omega)]
end
section
variable {lv ar : LF} {dl : List Door} (F : Flip (psOk dl) lv ar)
include F
theorem Sh.ok {r : Int} : ∀ {w v : Wk} {l : List Nat}, Sh lv ar w l v → WkOk r dl w → WkOk r dl v ∧ pf lv ar v = pf lv ar w ∧ v.room = w.room ∧ endR dl v.room v.passes = endR dl w.room w.passes
  | _, _, _, .nil, o => ⟨o, rfl, rfl, rfl⟩
  | w, _, _, .cons (i := i) h t, o => by
    obtain ⟨h1, h2, h3, h4⟩ := t.ok (short_WkOk o h.1)
    refine ⟨h1, h2.trans (short_pf F o.ln (chain_all o.ch) h), h3, h4.trans ?_⟩
    have := chain_cancS (dl := dl) (i := i) o.ch h.1.2 h.1.1
    exact this.2
end
end HD

namespace HD
open PySem PySem.Spec PyProof.Rows
/-! ### list(reversed(x)), list(range(..)) -/
section
variable {prog : Program} {w : World} {A : Around} {E : Value → Shared → Prop} {s : Shared}
theorem list_extend_rev {it l S : Addr} {items : Array Value} {R : Result → Shared → Prop} {res : Value} {c₀ : Nat} (hh : A.handled = none) (hit : s.heap.IsRevIter it l ((items.size : Int) - 1)) (hl : s.heap.IsList l items) (hne : l ≠ it) (hSi : S ≠ it) (hSl : S ≠ l) (hn : items.size ≤ sizeLine)
    (hS : s.heap.get? S = some { cls := .type "list", data := .seq #[] c₀ })
    (hR : ∀ (h' : Heap) (tk : Nat) (acc : Array Value) (c' : Nat), (∀ b o, b ≠ S → b ≠ it → s.heap.get? b = some o → h'.get? b = some o) → h'.get? S = some { cls := .type "list", dict := none, data := .seq acc c', slots := #[] } →
      ItemsOf (fun i v => items[items.size - 1 - i]? = some v) acc items.size → R (.ok (.ret res)) { s with heap := h', toks := tk }) :
    wpAny (model prog w) A.in1 (Builtin.List.listExtendWith (.ref S) (.ref it) res)
      (fun fin s' => match fin with | .done f => R (.ok f) s' | .again c' => c'.quiet = true ∧ codeAny (model prog w) A c' R s') (fun e s' => R (.error e) s') s := by
  have W := (Walks.listRev (prog := prog) (w := w) (A := A.in1) hh it l hne items).toS
  have hSf : S ∉ [it, l] := by simp only [List.mem_cons, List.not_mem_nil, or_false, not_or]; exact ⟨hSi, hSl⟩
  have hT : s.TypeIs (.ref it) "list_reverseiterator" := hit.typeIs
  have h1 : Builtin.List.listSameRef (.ref S) (.ref it) = false := by simp [Builtin.List.listSameRef, hSi]
  unfold Builtin.List.listExtendWith
  refine wpAny_bind (wpAny_typeOf hT ?_)
  rw [if_neg (by rw [h1]; decide)]
  refine wpAny_bind (wpAny_pyIter_revIter hit ?_)
  refine wpAny_bind (wpAny_holding ?_)
  unfold Builtin.List.listLengthHint
  refine wpAny_bind (wpAny_specialOf hT RT.nolen_lri ?_)
  show wpAny _ A.in1 (specialOf (Value.ref it) (Str.ofString "__length_hint__") >>= _) _ _ _
  refine wpAny_bind (wpAny_specialOf hT RT.hint_lri ?_)
  generalize hid : ("list_reverseiterator.__length_hint__" : String) = id0
  wp_delta
  rw [show splitId id0 = some ("list_reverseiterator", "__length_hint__") from by subst hid; decide +kernel]
  subst hid
  refine wpAny_bind (wpAny_isInstance (b := true) hT (by rw [isSubtype_type]; kernel_rfl) ?_)
  refine wpAny_pure ?_
  rw [if_neg (by decide)]
  have e0 : ((items.size : Nat) : Int) - 1 - ((0 : Nat) : Int) = (items.size : Int) - 1 := by omega
  refine wpAny_pure ⟨plainId_quiet F.plain_extend_loop _, codeAny_extend_loopS W hn _ hSf _ items.size 0 _ _ _ rfl (Nat.zero_le _) ⟨Nat.zero_le _, by rw [e0]; exact hit, hl⟩ hS (ItemsOf.nil _) fun s' acc' c' hm hS' hacc => ?_⟩
  rw [Moved.eq_with hm]
  refine hR s'.heap s'.toks acc' c' (fun b o hb hb2 e => hm.heap b o (fun hmem => ?_) e) hS' hacc
  rcases List.mem_cons.mp hmem with e' | hmem
  · exact hb e'
  · exact hb2 (List.mem_singleton.mp hmem)
theorem list_init_rev {it l S : Addr} {items : Array Value} {R : Result → Shared → Prop} (hh : A.handled = none) (hit : s.heap.IsRevIter it l ((items.size : Int) - 1)) (hl : s.heap.IsList l items) (hne : l ≠ it) (hSi : S ≠ it) (hSl : S ≠ l) (hn : items.size ≤ sizeLine)
    (hS : s.heap.get? S = some { cls := .type "list", data := .seq #[] })
    (hR : ∀ (h' : Heap) (tk : Nat) (acc : Array Value) (c' : Nat), (∀ b o, b ≠ S → b ≠ it → s.heap.get? b = some o → h'.get? b = some o) → h'.get? S = some { cls := .type "list", dict := none, data := .seq acc c', slots := #[] } →
      ItemsOf (fun i v => items[items.size - 1 - i]? = some v) acc items.size → R (.ok (.ret .none)) { s with heap := h', toks := tk }) :
    wpAny (model prog w) A.in1 (Builtin.«list.__init__» ⟨[.ref S, .ref it], []⟩)
      (fun fin s' => match fin with | .done f => R (.ok f) s' | .again c' => c'.quiet = true ∧ codeAny (model prog w) A c' R s') (fun e s' => R (.error e) s') s := by
  show wpAny _ _ (do let old ← Builtin.List.listItems (.ref S); Builtin.List.listUpdate (.ref S) (fun _ => #[]); letGo old.toList.reverse; Builtin.List.listExtendWith (.ref S) (.ref it) .none) _ _ s
  refine wpAny_bind ?_
  unfold Builtin.List.listItems
  refine wpAny_bind (wpAny_seqItems hS rfl (wpAny_pure ?_))
  show wpAny _ _ (updateSeq S (fun _ => #[]) >>= fun _ => letGo (#[] : Array Value).toList.reverse >>= fun _ => Builtin.List.listExtendWith (.ref S) (.ref it) .none) _ _ s
  refine wpAny_bind (wpAny_updateSeq hS rfl ?_)
  have hS₂ := Heap.get?_update_self (Obj.mapSeq (fun _ => (#[] : Array Value))) hS rfl
  have oth : ∀ b o, b ≠ S → s.heap.get? b = some o → (s.heap.update S (Obj.mapSeq (fun _ => (#[] : Array Value)))).get? b = some o :=
    fun b o hb e => (Heap.get?_update_other _ _ (Ne.symm hb)).trans e
  refine wpAny_bind (wpAny_letGo ?_)
  obtain ⟨ol, hol, hl2⟩ := id hl
  refine list_extend_rev hh (hit.at fun o e => oth it o (Ne.symm hSi) e) ⟨ol, oth l ol (Ne.symm hSl) hol, hl2⟩ hne hSi hSl hn hS₂ fun h' tk acc c' hk hS' hacc => ?_
  exact hR h' tk acc c' (fun b o hb hb2 e => hk b o hb hb2 (oth b o hb e)) hS' hacc
theorem call_list_rev {it l : Addr} {items : Array Value} {Q : Value → Shared → Prop} (hh : A.handled = none) (hit : s.heap.IsRevIter it l ((items.size : Int) - 1)) (hl : s.heap.IsList l items) (hne : l ≠ it) (hn : items.size ≤ sizeLine)
    (hQ : ∀ (h' : Heap) (tk : Nat) (acc : Array Value) (c' : Nat), (∀ b o, b ≠ it → s.heap.get? b = some o → h'.get? b = some o) → h'.get? s.heap.objs.size = some { cls := .type "list", dict := none, data := .seq acc c', slots := #[] } →
      ItemsOf (fun i v => items[items.size - 1 - i]? = some v) acc items.size → Q (.ref s.heap.objs.size) { s with heap := h', toks := tk }) :
    wpAny (model prog w) A (call (.type "list") [.ref it]) Q E s := by
  refine callType_codes (Q₁ := fun obj s₁ => obj = .ref s.heap.objs.size ∧ s₁ = { s with heap := s.heap.push { cls := .type "list", data := .seq #[] } }) F.called_list (F.typeCall_list_1 _) F.entry_list_init
    (code_list_new _ ⟨rfl, rfl⟩) fun obj s₁ h₁ => ?_
  obtain ⟨rfl, rfl⟩ := h₁
  have hS : (s.heap.push { cls := .type "list", data := .seq #[] }).get? s.heap.objs.size = some { cls := .type "list", data := .seq #[] } := Heap.get?_push_size _ rfl
  obtain ⟨oi, hoi, _⟩ := id hit
  obtain ⟨ol, hol, hl2⟩ := id hl
  refine ⟨⟨_, hS, rfl⟩, F.args_list_init_2 _ _, list_init_rev (A := A.in1) hh (hit.at fun o e => Heap.get?_push_of_some _ e) ⟨ol, Heap.get?_push_of_some _ hol, hl2⟩ hne (Nat.ne_of_gt (Heap.lt_size hoi)) (Nat.ne_of_gt (Heap.lt_size hol)) hn hS fun h' tk acc c' hk hS' hacc => ?_⟩
  exact ⟨rfl, hQ h' tk acc c' (fun b o hb e => hk b o (Nat.ne_of_lt (Heap.lt_size e)) hb (Heap.get?_push_of_some _ e)) hS' hacc⟩
end
end HD
namespace HD
open PySem PySem.Spec PyProof.Rows L2
/-- list(reversed(x)), x a list: a new list -/
def tLstRev (K : PySem.W.Frag) (te : TE) : TE := fun σ H Q => te σ H fun v H1 => ∃ (a : Addr) (xs : List L2.V), v = .ref a ∧ SqL K H1 a xs ∧ ∀ q, H1 q = none → Q (.ref q) (upd H1 q (.lst xs.reverse))
theorem pe_listRev {X : Cx} {e : Expr} {te : TE} {p p2 pos pos2 : Pos} (hc : X.calm = true) (hg : Gl X "list") (hm : X.mg "list" = none) (hg2 : Gl X "reversed") (hm2 : X.mg "reversed" = none) (he : PE X e te)
    (hs : starEach [e] X.env = (false, eval e X.env) :: starEach [] X.env := by rfl)
    (hs2 : starEach [.Call (.Name "reversed" p2) [e] [] pos2] X.env = (false, eval (.Call (.Name "reversed" p2) [e] [] pos2) X.env) :: starEach [] X.env := by rfl) :
    PE X (.Call (.Name "list" p) [.Call (.Name "reversed" p2) [e] [] pos2] [] pos) (tLstRev X.K te) := by
  refine ⟨fun pins s σ H Q I h => ?_⟩
  refine Call_ (ld_blt I hg hm boot_list (PyProof.Rows.callWith_type1 (args_cons (Call_ (ld_blt I hg2 hm2 PyProof.Rows.boot_reversed (PyProof.Rows.callWith_type1 (args_cons (thn (he.run pins s σ H _ I h) fun u s1 ⟨v, H1, I1, r1, q1⟩ => args_nil ?_) hs) hs rfl))) hs2) hs2 rfl))
  obtain ⟨a, xs, ev, hq, q⟩ := q1
  subst ev
  obtain rfl : u = Value.ref a := r1
  obtain ⟨its, rv, p', hz⟩ := I1.list hq
  refine call_reversed_list p'.isList (args_nil ?_)
  have k0 : ∀ b o, s1.heap.get? b = some o → (s1.heap.push (revObj a ((its.toArray.size : Int) - 1))).get? b = some o := fun b o e => Heap.get?_push_of_some _ e
  have I2 : Inv X pins σ H1 { s1 with heap := s1.heap.push (revObj a ((its.toArray.size : Int) - 1)) } := I1.kept (t' := s1.toks) k0
  obtain ⟨f0, f1, f2, f3, f4, f5⟩ := I1.fpOk (H' := H1) (b := s1.heap.objs.size) (Nat.le_refl _) (I1.hok.fresh (Nat.le_refl _))
  have hl := p'.isList
  obtain ⟨ol, hol, _⟩ := id hl
  have hne : a ≠ s1.heap.objs.size := Nat.ne_of_lt (Heap.lt_size hol)
  have hn : its.toArray.size ≤ sizeLine := by rw [List.size_toArray, ← rv.length]; exact hz
  refine call_list_rev (s := { s1 with heap := s1.heap.push (revObj a ((its.toArray.size : Int) - 1)) }) (I1.ok.hd hc) ⟨_, Heap.get?_push_size _ rfl, rfl, rfl⟩ (hl.push _) hne hn fun h' tk acc c' hk hS' hi => ?_
  have F1 : FpOk X pins H1 s1.heap.objs.size := I1.fpOk (Nat.le_refl _) (I1.hok.fresh (Nat.le_refl _))
  have I4 : Inv X pins σ (upd H1 (s1.heap.push (revObj a ((its.toArray.size : Int) - 1))).objs.size (.lst xs.reverse)) { s1 with heap := h', toks := tk } := by
    refine I2.turnedNew (ch := [s1.heap.objs.size]) (t' := tk) (fun b o hb e => hk b o (fun z => hb (by rw [z]; exact List.mem_singleton.mpr rfl)) e) (fun b hb => by rw [List.mem_singleton.mp hb]; exact F1) (Nat.le_refl _) ?_
    show ObjOk X.prog X.w _ _ _ (.lst xs.reverse)
    refine ⟨by rw [List.length_reverse]; exact hz, acc.toList, c', RT.vals_rev rv hi, ?_⟩
    rw [Array.toArray_toList]
    exact hS'
  exact ⟨.ref _, _, I4, rfl, q _ (I1.hok.fresh (by rw [Heap.size_push]; exact Nat.le_succ _))⟩
section
variable {W : Wd} {n : Nat} {ρ : Rho} {K : PySem.W.Frag}
theorem df_listRev {te : TE} {P : Nat → D → Prop} (h : DE te W n ρ fun n d => ∃ ds, d = .lst ds ∧ P n (.lst ds.reverse)) : DF (tLstRev K te) W n ρ P := fun Z T σ H e Q k =>
  h Z T σ H e _ fun n v d H' ⟨ds, hd, p⟩ e' i => by
    subst hd
    obtain ⟨a, xs, rfl, ha, h1⟩ := isw_lst (.inl i)
    refine ⟨a, xs, rfl, .of ha, fun t ht => ?_⟩
    obtain ⟨e2, i2⟩ := new_lst e' h1.rev ht
    exact k _ _ _ _ _ p e2 i2
theorem df_listRevO {i : Nat} {ds : List D} {P : Nat → D → Prop} (h : ρ[i]? = some (some (true, .lst ds))) (p : P n (.lst ds.reverse)) : DF (tLstRev K (tVar i)) W n ρ P := fun Z T σ H e Q k => by
  obtain ⟨v, h1, h2⟩ := e.own_w h
  refine ⟨v, h1, ?_⟩
  obtain ⟨a, xs, rfl, ha, h1⟩ := isw_lst h2
  refine ⟨a, xs, rfl, .of ha, fun t ht => ?_⟩
  obtain ⟨e2, i2⟩ := new_lst e h1.rev ht
  exact k _ _ _ _ _ p e2 i2
theorem de_sl_o {i : Nat} {d1 : D} {tl th : TO} {r : L2.V → Option Int → Option Int → Hp → VK → Prop} {P : Nat → D → Prop} (h1 : ρ[i]? = some (some (true, d1))) (h : DO tl W n ρ fun n lo => DO th W n ρ fun n hi => DSl r W n ρ d1 lo hi P) : DE (tSl r (tVar i) tl th) W n ρ P := fun Z T σ H e Q k => by
  obtain ⟨v, q, _⟩ := e.own_w h1
  refine ⟨v, q, h Z T σ H e _ fun n lo H2 p2 e2 => p2 Z T σ H2 e2 _ fun n hi H3 p3 e3 => ?_⟩
  obtain ⟨v', q', w'⟩ := e3.own_w h1
  rw [q] at q'; cases q'
  exact p3 Z T σ H3 v e3 w' Q k
theorem df_pf1K {α0 : Type} [Enc α0] {pre : α0 → Prop} {out : α0 → Out} {q j : Nat} {perm : List Nat} {E : XK} {tas tks : TA} {Q : Nat → D → Prop} (hpm : perm.length = 1) (h : DA tas W n ρ fun n ds => DA tks W n ρ fun n es => ds.length = q ∧ es.length = j ∧ ∃ (a0 : α0), gPerm D.non perm ds es = [Enc.e a0] ∧ pre a0 ∧ ∃ d, out a0 = .ret true d ∧ Q n d) : DF (tCalK q j (PF1 pre out) perm E tas tks) W n ρ Q := fun Z T σ H e Qk k =>
  h Z T σ H e _ fun n vs ds H1 p e1 i1 => p Z (zipT vs ds ++ T) σ H1 (e1.pushAll i1) _ fun n zs es H2 ⟨g1, g2, a0, h1, h2, d, h3, h4⟩ e2 i2 =>
    ⟨by rw [i1.len]; exact g1, by rw [i2.len]; exact g2, call_prmF (P := Q) fit0 e2.popAll (perm_all ((e2.topAll i1.len).append i2) perm) (by simp [gPerm, hpm]) ⟨a0, h1, h2⟩
      (fun _ d' z => by have z2 := z a0 h1; rw [h3] at z2; cases z2) (fun _ d' z => by have z2 := z a0 h1; rw [h3] at z2; cases z2; exact h4) k (fun n' C ns l od H' z _ _ _ => by have z2 := z a0 h1; rw [h3] at z2; cases z2)⟩
theorem df_pf2K {α0 : Type} [Enc α0] {α1 : Type} [Enc α1] {pre : α0 → α1 → Prop} {out : α0 → α1 → Out} {q j : Nat} {perm : List Nat} {E : XK} {tas tks : TA} {Q : Nat → D → Prop} (hpm : perm.length = 2) (h : DA tas W n ρ fun n ds => DA tks W n ρ fun n es => ds.length = q ∧ es.length = j ∧ ∃ (a0 : α0) (a1 : α1), gPerm D.non perm ds es = [Enc.e a0, Enc.e a1] ∧ pre a0 a1 ∧ ∃ d, out a0 a1 = .ret true d ∧ Q n d) : DF (tCalK q j (PF2 pre out) perm E tas tks) W n ρ Q := fun Z T σ H e Qk k =>
  h Z T σ H e _ fun n vs ds H1 p e1 i1 => p Z (zipT vs ds ++ T) σ H1 (e1.pushAll i1) _ fun n zs es H2 ⟨g1, g2, a0, a1, h1, h2, d, h3, h4⟩ e2 i2 =>
    ⟨by rw [i1.len]; exact g1, by rw [i2.len]; exact g2, call_prmF (P := Q) fit0 e2.popAll (perm_all ((e2.topAll i1.len).append i2) perm) (by simp [gPerm, hpm]) ⟨a0, a1, h1, h2⟩
      (fun _ d' z => by have z2 := z a0 a1 h1; rw [h3] at z2; cases z2) (fun _ d' z => by have z2 := z a0 a1 h1; rw [h3] at z2; cases z2; exact h4) k (fun n' C ns l od H' z _ _ _ => by have z2 := z a0 a1 h1; rw [h3] at z2; cases z2)⟩
theorem df_pf3K {α0 : Type} [Enc α0] {α1 : Type} [Enc α1] {α2 : Type} [Enc α2] {pre : α0 → α1 → α2 → Prop} {out : α0 → α1 → α2 → Out} {q j : Nat} {perm : List Nat} {E : XK} {tas tks : TA} {Q : Nat → D → Prop} (hpm : perm.length = 3) (h : DA tas W n ρ fun n ds => DA tks W n ρ fun n es => ds.length = q ∧ es.length = j ∧ ∃ (a0 : α0) (a1 : α1) (a2 : α2), gPerm D.non perm ds es = [Enc.e a0, Enc.e a1, Enc.e a2] ∧ pre a0 a1 a2 ∧ ∃ d, out a0 a1 a2 = .ret true d ∧ Q n d) : DF (tCalK q j (PF3 pre out) perm E tas tks) W n ρ Q := fun Z T σ H e Qk k =>
  h Z T σ H e _ fun n vs ds H1 p e1 i1 => p Z (zipT vs ds ++ T) σ H1 (e1.pushAll i1) _ fun n zs es H2 ⟨g1, g2, a0, a1, a2, h1, h2, d, h3, h4⟩ e2 i2 =>
    ⟨by rw [i1.len]; exact g1, by rw [i2.len]; exact g2, call_prmF (P := Q) fit0 e2.popAll (perm_all ((e2.topAll i1.len).append i2) perm) (by simp [gPerm, hpm]) ⟨a0, a1, a2, h1, h2⟩
      (fun _ d' z => by have z2 := z a0 a1 a2 h1; rw [h3] at z2; cases z2) (fun _ d' z => by have z2 := z a0 a1 a2 h1; rw [h3] at z2; cases z2; exact h4) k (fun n' C ns l od H' z _ _ _ => by have z2 := z a0 a1 a2 h1; rw [h3] at z2; cases z2)⟩
theorem df_pf4K {α0 : Type} [Enc α0] {α1 : Type} [Enc α1] {α2 : Type} [Enc α2] {α3 : Type} [Enc α3] {pre : α0 → α1 → α2 → α3 → Prop} {out : α0 → α1 → α2 → α3 → Out} {q j : Nat} {perm : List Nat} {E : XK} {tas tks : TA} {Q : Nat → D → Prop} (hpm : perm.length = 4) (h : DA tas W n ρ fun n ds => DA tks W n ρ fun n es => ds.length = q ∧ es.length = j ∧ ∃ (a0 : α0) (a1 : α1) (a2 : α2) (a3 : α3), gPerm D.non perm ds es = [Enc.e a0, Enc.e a1, Enc.e a2, Enc.e a3] ∧ pre a0 a1 a2 a3 ∧ ∃ d, out a0 a1 a2 a3 = .ret true d ∧ Q n d) : DF (tCalK q j (PF4 pre out) perm E tas tks) W n ρ Q := fun Z T σ H e Qk k =>
  h Z T σ H e _ fun n vs ds H1 p e1 i1 => p Z (zipT vs ds ++ T) σ H1 (e1.pushAll i1) _ fun n zs es H2 ⟨g1, g2, a0, a1, a2, a3, h1, h2, d, h3, h4⟩ e2 i2 =>
    ⟨by rw [i1.len]; exact g1, by rw [i2.len]; exact g2, call_prmF (P := Q) fit0 e2.popAll (perm_all ((e2.topAll i1.len).append i2) perm) (by simp [gPerm, hpm]) ⟨a0, a1, a2, a3, h1, h2⟩
      (fun _ d' z => by have z2 := z a0 a1 a2 a3 h1; rw [h3] at z2; cases z2) (fun _ d' z => by have z2 := z a0 a1 a2 a3 h1; rw [h3] at z2; cases z2; exact h4) k (fun n' C ns l od H' z _ _ _ => by have z2 := z a0 a1 a2 a3 h1; rw [h3] at z2; cases z2)⟩
theorem df_pf5K {α0 : Type} [Enc α0] {α1 : Type} [Enc α1] {α2 : Type} [Enc α2] {α3 : Type} [Enc α3] {α4 : Type} [Enc α4] {pre : α0 → α1 → α2 → α3 → α4 → Prop} {out : α0 → α1 → α2 → α3 → α4 → Out} {q j : Nat} {perm : List Nat} {E : XK} {tas tks : TA} {Q : Nat → D → Prop} (hpm : perm.length = 5) (h : DA tas W n ρ fun n ds => DA tks W n ρ fun n es => ds.length = q ∧ es.length = j ∧ ∃ (a0 : α0) (a1 : α1) (a2 : α2) (a3 : α3) (a4 : α4), gPerm D.non perm ds es = [Enc.e a0, Enc.e a1, Enc.e a2, Enc.e a3, Enc.e a4] ∧ pre a0 a1 a2 a3 a4 ∧ ∃ d, out a0 a1 a2 a3 a4 = .ret true d ∧ Q n d) : DF (tCalK q j (PF5 pre out) perm E tas tks) W n ρ Q := fun Z T σ H e Qk k =>
  h Z T σ H e _ fun n vs ds H1 p e1 i1 => p Z (zipT vs ds ++ T) σ H1 (e1.pushAll i1) _ fun n zs es H2 ⟨g1, g2, a0, a1, a2, a3, a4, h1, h2, d, h3, h4⟩ e2 i2 =>
    ⟨by rw [i1.len]; exact g1, by rw [i2.len]; exact g2, call_prmF (P := Q) fit0 e2.popAll (perm_all ((e2.topAll i1.len).append i2) perm) (by simp [gPerm, hpm]) ⟨a0, a1, a2, a3, a4, h1, h2⟩
      (fun _ d' z => by have z2 := z a0 a1 a2 a3 a4 h1; rw [h3] at z2; cases z2) (fun _ d' z => by have z2 := z a0 a1 a2 a3 a4 h1; rw [h3] at z2; cases z2; exact h4) k (fun n' C ns l od H' z _ _ _ => by have z2 := z a0 a1 a2 a3 a4 h1; rw [h3] at z2; cases z2)⟩
/-- a slot's own object first, another value behind -/
theorem de_cb_o2 {i : Nat} {d1 : D} {tb : TE} {r : List L2.V → Hp → VK → Prop} {P : Nat → D → Prop} (h1 : ρ[i]? = some (some (true, d1))) (h : DE tb W n ρ fun n d2 => DC r W n ρ [d1, d2] P) : DE (tCB r (tCons (tVar i) (tCons tb tNil))) W n ρ P := fun Z T σ H e Q k => by
  obtain ⟨v, q, _⟩ := e.own_w h1
  refine ⟨v, q, h Z T σ H e _ fun n v2 d2 H2 p2 e2 i2 => ?_⟩
  obtain ⟨v', q', w'⟩ := e2.own_w h1
  rw [q] at q'; cases q'
  exact p2 Z T σ H2 [v, v2] e2 (.cons w' (.cons (.inl i2) .nil)) Q k
theorem rg_all {X : AP} {H : Hp} (a b : Int) : IsAll X H (rgV a b) (upTo a (b - a).toNat) := by
  unfold rgV upTo
  generalize List.range (b - a).toNat = l
  induction l with
  | nil => exact .nil
  | cons i t ih => exact .cons (.int _) ih
theorem df_listRg1 {ta : TE} {P : Nat → D → Prop} (h : DE ta W n ρ fun n d => ∃ j : Int, d = .int j ∧ (0 ≤ j ∧ j ≤ 16777216) ∧ P n (.lst (upTo 0 j.toNat))) : DF (tLstRg (tRg1 ta)) W n ρ P := fun Z T σ H e Q k =>
  h Z T σ H e _ fun n v d H' ⟨j, hd, ⟨j0, j1⟩, p⟩ e' i => by
    subst hd
    rw [isw_int (.inl i)]
    refine ⟨j, rfl, RgOk.of_le (by decide) j1 (by decide) j0, fun t ht => ?_⟩
    obtain ⟨e2, i2⟩ := new_lst e' (rg_all 0 j) ht
    rw [show j - 0 = j by omega] at i2
    exact k _ _ _ _ _ p e2 i2
end
end HD

namespace HD
open PySem PySem.Spec PyProof.Rows L2
/-! ### values with truth values in them -/
mutual
def pq : Nat → D → Bool
  | _, .non => true
  | _, .int _ => true
  | _, .bl _ => true
  | _, .str x => (PyData.str x).canLay0
  | k + 1, .lst l => pqs k l
  | k + 1, .tup l => pqs k l
  | _, _ => false
def pqs : Nat → List D → Bool
  | _, [] => true
  | k, d :: r => pq k d && pqs k r
end
mutual
theorem pq_p : ∀ (d : D) (k : Nat), pq k d = true → ∃ p, d.toP = some p ∧ p.canLay0 = true ∧ p.depth ≤ k
  | .non, k, _ => ⟨.none, rfl, rfl, Nat.zero_le _⟩
  | .int i, k, _ => ⟨.int i, rfl, rfl, Nat.zero_le _⟩
  | .bl i, k, _ => ⟨.bool i, rfl, rfl, Nat.zero_le _⟩
  | .str x, k, h => ⟨.str x, rfl, by simpa [pq] using h, Nat.zero_le _⟩
  | .lst l, 0, h => by simp [pq] at h
  | .lst l, k + 1, h => by
    obtain ⟨ps, e, h1, h2⟩ := pqs_p l k (by simpa [pq] using h)
    refine ⟨.list ps, by unfold D.toP; rw [e], h1, ?_⟩
    show PyData.depthAll ps + 1 ≤ k + 1
    omega
  | .tup l, 0, h => by simp [pq] at h
  | .tup l, k + 1, h => by
    obtain ⟨ps, e, h1, h2⟩ := pqs_p l k (by simpa [pq] using h)
    refine ⟨.tuple ps, by unfold D.toP; rw [e], h1, ?_⟩
    show PyData.depthAll ps + 1 ≤ k + 1
    omega
  | .dic _ _, k, h => by cases k <;> simp [pq] at h
  | .ins _ _ _, k, h => by cases k <;> simp [pq] at h
  | .exc _ _ _, k, h => by cases k <;> simp [pq] at h
  | .dct, k, h => by cases k <;> simp [pq] at h
  | .ty _, k, h => by cases k <;> simp [pq] at h
  | .raw _, k, h => by cases k <;> simp [pq] at h
theorem pqs_p : ∀ (l : List D) (k : Nat), pqs k l = true → ∃ ps, toPs l = some ps ∧ PyData.canLayAll0 ps = true ∧ PyData.depthAll ps ≤ k
  | [], k, _ => ⟨[], rfl, rfl, Nat.zero_le _⟩
  | d :: r, k, h => by
    have h' : pq k d = true ∧ pqs k r = true := by simpa [pqs] using h
    obtain ⟨p, e1, c1, d1⟩ := pq_p d k h'.1
    obtain ⟨ps, e2, c2, d2⟩ := pqs_p r k h'.2
    refine ⟨p :: ps, by unfold toPs; rw [e1, e2], ?_, ?_⟩
    · show (p.canLay0 && PyData.canLayAll0 ps) = true
      rw [c1, c2]; rfl
    · show max p.depth (PyData.depthAll ps) ≤ k
      omega
end
theorem pq_sh {d : D} {p : PyData} (h : pq 60 d = true) (e : d.toP = some p) : SeqAt.shaped p = true := by
  obtain ⟨p', e', c, dp⟩ := pq_p d 60 h
  rw [e] at e'; cases e'
  show (p.canLay0 && decide (p.depth ≤ 64)) = true
  rw [c, decide_eq_true (by omega)]; rfl
theorem pqs_mem {k : Nat} : ∀ {l : List D}, pqs k l = true ↔ ∀ d ∈ l, pq k d = true
  | [] => ⟨fun _ _ h => (nomatch h), fun _ => rfl⟩
  | a :: r => by
    show (pq k a && pqs k r) = true ↔ _
    rw [Bool.and_eq_true, pqs_mem (l := r)]
    exact ⟨fun ⟨h1, h2⟩ d hd => (List.mem_cons.mp hd).elim (fun e => by rw [e]; exact h1) (h2 d), fun h => ⟨h a List.mem_cons_self, fun d hd => h d (List.mem_cons_of_mem _ hd)⟩⟩
theorem pq_up : ∀ (d : D) (k j : Nat), k ≤ j → pq k d = true → pq j d = true := fun d => by
  intro k
  induction k generalizing d with
  | zero => 
    intro j _ h
    cases d <;> first | rfl | (simp [pq] at h; done) | (simpa [pq] using h)
  | succ k ih =>
    intro j hj h
    obtain ⟨j, rfl⟩ : ∃ i, j = i + 1 := ⟨j - 1, by omega⟩
    cases d with
    | lst l =>
      have h : pqs k l = true := h
      show pqs j l = true
      exact pqs_mem.mpr fun x hx => ih x j (by omega) (pqs_mem.mp h x hx)
    | tup l =>
      have h : pqs k l = true := h
      show pqs j l = true
      exact pqs_mem.mpr fun x hx => ih x j (by omega) (pqs_mem.mp h x hx)
    | _ => first | rfl | (simp [pq] at h; done) | (simpa [pq] using h)
section
variable {W : Wd} {n : Nat} {ρ : Rho} {K : PySem.W.Frag} {P : Nat → D → Prop}
theorem eqv_t0 {l : List D} {ps : List PyData} (e : toPs l = some ps) : PyData.eqv (.tuple ps) (.tuple []) = l.isEmpty := by
  cases l with
  | nil => cases e; rfl
  | cons a r =>
    unfold toPs at e
    split at e
    · cases e; rfl
    · cases e
/-- x == (), x a tuple of any values -/
theorem r_eqT0 {l : List D} (h : pq 60 (.tup l) = true) (p : P n (.bl l.isEmpty)) : DR (rEqD K) W n ρ (.tup l) (.tup []) P := by
  obtain ⟨ps, e, _⟩ := pqs_p l 59 h
  have e1 : D.toP (.tup l) = some (.tuple ps) := by unfold D.toP; rw [e]
  exact dr_eq e1 rfl (pq_sh h e1) rfl (by rw [eqv_t0 e]; exact p)
theorem r_neT0 {l : List D} (h : pq 60 (.tup l) = true) (p : P n (.bl (!l.isEmpty))) : DR (rNeD K) W n ρ (.tup l) (.tup []) P := by
  obtain ⟨ps, e, _⟩ := pqs_p l 59 h
  have e1 : D.toP (.tup l) = some (.tuple ps) := by unfold D.toP; rw [e]
  exact dr_ne e1 rfl (pq_sh h e1) rfl (by rw [eqv_t0 e]; exact p)
theorem r_eqNo {d1 d2 : D} (h3 : d1 ≠ d2) (h1 : pd 60 d1 = true) (h2 : pd 60 d2 = true) (p : P n (.bl false)) : DR (rEqD K) W n ρ d1 d2 P := r_eqP h1 h2 fun b hb => by
  cases b with
  | false => exact p
  | true => exact absurd (hb.mp rfl) h3
theorem r_neNo {d1 d2 : D} (h3 : d1 ≠ d2) (h1 : pd 60 d1 = true) (h2 : pd 60 d2 = true) (p : P n (.bl true)) : DR (rNeD K) W n ρ d1 d2 P := r_neP h1 h2 fun b hb => by
  cases b with
  | true => exact p
  | false => exact absurd (hb.mpr h3) (by decide)
theorem r_eqSelf {d : D} (h1 : pd 60 d = true) (p : P n (.bl true)) : DR (rEqD K) W n ρ d d P := r_eqP h1 h1 fun b hb => by
  rw [hb.mpr rfl]; exact p
theorem r_neSelf {d : D} (h1 : pd 60 d = true) (p : P n (.bl false)) : DR (rNeD K) W n ρ d d P := r_neP h1 h1 fun b hb => by
  cases b with
  | false => exact p
  | true => exact absurd rfl (hb.mp rfl)
end
/-! ### answers that are known -/
section
variable {A B : Prop} {b : Bool} {p : Prop} [Decidable p]
theorem bTh (h : b = true) (a : A) : (b = true → A) ∧ (b = false → B) := ⟨fun _ => a, fun q => (by rw [h] at q; cases q)⟩
theorem bFh (h : b = false) (a : B) : (b = true → A) ∧ (b = false → B) := ⟨fun q => (by rw [h] at q; cases q), fun _ => a⟩
theorem bNT (h : b = false) (a : A) : ((!b) = true → A) ∧ ((!b) = false → B) := bTh (by rw [h]; rfl) a
theorem bNF (h : b = true) (a : B) : ((!b) = true → A) ∧ ((!b) = false → B) := bFh (by rw [h]; rfl) a
theorem bDT (h : p) (a : A) : (decide p = true → A) ∧ (decide p = false → B) := bTh (decide_eq_true h) a
theorem bDF (h : ¬ p) (a : B) : (decide p = true → A) ∧ (decide p = false → B) := bFh (decide_eq_false h) a
theorem bNDT (h : ¬ p) (a : A) : ((!decide p) = true → A) ∧ ((!decide p) = false → B) := bNT (decide_eq_false h) a
theorem bNDF (h : p) (a : B) : ((!decide p) = true → A) ∧ ((!decide p) = false → B) := bNF (decide_eq_true h) a
end
end HD

namespace HD
open PySem PySem.Spec PyProof.Rows L2
/-! ### steps found by instances -/
class Stp (g : Prop) (s : outParam Prop) : Prop where
  go : s → g
class Get (ρ : Rho) (i : Nat) (s : outParam (Option (Bool × D))) : Prop where
  h : ρ[i]? = some s
class SetF (ρ : Rho) (i : Nat) (f : outParam (Option (Bool × D) → Rho)) : Prop where
  h : ∀ s, ρ.set i s = f s
section
variable {ρ : Rho} {a b c e s : Option (Bool × D)} {i : Nat} {f : Option (Bool × D) → Rho}
instance get0 : Get (s :: ρ) 0 s := ⟨rfl⟩
instance get1 [h : Get ρ i s] : Get (a :: ρ) (i + 1) s := ⟨h.h⟩
instance (priority := high) get4 [h : Get ρ i s] : Get (a :: b :: c :: e :: ρ) (i + 4) s := ⟨h.h⟩
instance set0 : SetF (a :: ρ) 0 (fun s => s :: ρ) := ⟨fun _ => rfl⟩
instance set1 [h : SetF ρ i f] : SetF (a :: ρ) (i + 1) (fun s => a :: f s) := ⟨fun s => by rw [List.set_cons_succ, h.h]⟩
instance (priority := high) set4 [h : SetF ρ i f] : SetF (a :: b :: c :: e :: ρ) (i + 4) (fun s => a :: b :: c :: e :: f s) := ⟨fun s => by rw [List.set_cons_succ, List.set_cons_succ, List.set_cons_succ, List.set_cons_succ, h.h]⟩
end
class StartF (Ns : List Str) (ds : List D) (ρ : outParam Rho) : Prop where
  h : StR Ns ds ρ
instance startN : StartF [] [] [] := ⟨StR.nil⟩
instance startD {x : Str} {Ns : List Str} {d : D} {ds : List D} {r : Rho} [h : StartF Ns ds r] : StartF (x :: Ns) (d :: ds) (some (false, d) :: r) := ⟨StR.d h.h⟩
instance startZ {x : Str} {Ns : List Str} {r : Rho} [h : StartF Ns [] r] : StartF (x :: Ns) [] (none :: r) := ⟨StR.n h.h⟩
class NrmC (r : Rho) (r' : outParam Rho) : Prop where
  h : r = r'
section
variable {r r1 : Rho} {a s : Option (Bool × D)} {i : Nat} {f : Option (Bool × D) → Rho} {vs : List Nat}
instance nrmL : NrmC (a :: r) (a :: r) := ⟨rfl⟩
instance nrmN : NrmC [] [] := ⟨rfl⟩
instance nrmS [h : NrmC r r1] [k : SetF r1 i f] : NrmC (r.set i s) (f s) := ⟨by rw [h.h, k.h]⟩
instance nrmW [h : NrmC (wipeR r vs) r1] [k : SetF r1 i f] : NrmC (wipeR r (i :: vs)) (f none) := ⟨by show (wipeR r vs).set i none = _; rw [h.h, k.h]⟩
instance nrmW0 [h : NrmC r r1] : NrmC (wipeR r []) r1 := ⟨h.h⟩
instance nrmT {Ns : List Str} {ds : List D} [h : StartF Ns ds r] : NrmC (startR Ns ds) r := ⟨h.h.eq⟩
end
class Tgt (g : TG) (d : D) (ρ : Rho) (ρ' : outParam Rho) : Prop where
  h : ∀ (W : Wd) (P : Rho → Prop), P ρ' → ∃ S, DG g S d W ρ P
class Tgts (g : TGs) (ds : List D) (ρ : Rho) (ρ' : outParam Rho) (m : outParam Nat) : Prop where
  ln : ds.length = m
  h : ∀ (W : Wd) (P : Rho → Prop), P ρ' → ∃ S, DGs g S ds W ρ P
section
variable {ρ ρ' ρ1 : Rho} {i m : Nat} {f : Option (Bool × D) → Rho} {d : D} {ds : List D} {g : TG} {gs : TGs} {K : PySem.W.Frag}
instance tgtN [h : SetF ρ i f] : Tgt (gName i) d ρ (f (some (false, d))) := ⟨fun W P p => ⟨_, dg_name (by rw [h.h]; exact p)⟩⟩
instance tgtsN : Tgts gNil [] ρ ρ 0 := ⟨rfl, fun W P p => ⟨_, dgs_nil p⟩⟩
instance tgtsC [h : Tgt g d ρ ρ1] [k : Tgts gs ds ρ1 ρ' m] : Tgts (gCons g gs) (d :: ds) ρ ρ' (m + 1) := ⟨by rw [List.length_cons, k.ln], fun W P p => by
  obtain ⟨S', q⟩ := k.h W P p
  obtain ⟨S, q2⟩ := h.h W (fun r => DGs gs S' ds W r P) q
  exact ⟨_, dgs_cons q2⟩⟩
instance tgtT [h : Tgts gs ds ρ ρ' m] : Tgt (gTup K m gs) (.tup ds) ρ ρ' := ⟨fun W P p => by
  obtain ⟨S, q⟩ := h.h W P p
  exact ⟨S, dg_tup h.ln q⟩⟩
end
section
variable {W : Wd} {n : Nat} {ρ ρ' : Rho} {N : Nat → Rho → Prop} {R : Nat → Bool → D → Prop} {B C : Nat → Rho → Prop} {t u : TS} {te ta tb tc : TE} {tt tv : TT} {d d1 d2 : D} {K : PySem.W.Frag} {P : Nat → D → Prop} {i j : Nat} {f : Option (Bool × D) → Rho} {tas tr : TA} {r r' : R2} {PA : Nat → List D → Prop} {PB : Nat → Bool → Prop} {g : TG}
/-! statements -/
instance st_seq : Stp (DS (tSeq t u) W n ρ N R B C) (DS t W n ρ (fun n ρ' => DS u W n ρ' N R B C) R B C) := ⟨ds_seq⟩
instance st_if : Stp (DS (tIfS tt t u) W n ρ N R B C) (DT tt W n ρ fun n b => (b = true → DS t W n ρ N R B C) ∧ (b = false → DS u W n ρ N R B C)) := ⟨ds_if⟩
instance st_retN : Stp (DS tRetN W n ρ N R B C) (R n false .non) := ⟨ds_retN⟩
instance (priority := high) st_retIf : Stp (DS (tRet (tIf tt ta tb)) W n ρ N R B C) (DT tt W n ρ fun n b => (b = true → DS (tRet ta) W n ρ N R B C) ∧ (b = false → DS (tRet tb) W n ρ N R B C)) := ⟨ds_retIf⟩
instance (priority := high) st_retO [h : Get ρ i (some (true, d))] : Stp (DS (tRet (tVar i)) W n ρ N R B C) (R n true d) := ⟨ds_ret_own h.h⟩
instance st_ret : Stp (DS (tRet te) W n ρ N R B C) (DE te W n ρ fun n d => R n false d) := ⟨ds_ret⟩
instance st_next : Stp (DS tNext W n ρ N R B C) (N n ρ) := ⟨ds_next⟩
instance st_drop : Stp (DS (tDrop te) W n ρ N R B C) (DE te W n ρ fun n _ => N n ρ) := ⟨ds_drop⟩
instance (priority := high) st_app {ds : List D} [h : Get ρ i (some (true, .lst ds))] [k : SetF ρ i f] : Stp (DS (tDrop (tBM K "list" rAppend (tVar i) (tCons te tNil))) W n ρ N R B C) (DE te W n ρ fun n d => ds.length < sizeLine ∧ N n (f (some (true, .lst (ds ++ [d]))))) := ⟨fun q => ds_append h.h (by simpa only [k.h] using q)⟩
instance (priority := high) st_dropPop {ds : List D} [h : Get ρ i (some (true, .lst (ds ++ [d])))] [k : SetF ρ i f] : Stp (DS (tDrop (tBM0 K "list" rPop (tVar i))) W n ρ N R B C) (N n (f (some (true, .lst ds)))) := ⟨fun q => ds_dropPop h.h (by simpa only [k.h] using q)⟩
instance (priority := high) st_ownL [k : SetF ρ i f] : Stp (DS (tAsg (tLst tas) (gName i)) W n ρ N R B C) (DA tas W n ρ fun n ds => ds.length ≤ sizeLine ∧ N n (f (some (true, .lst ds)))) := ⟨fun q => ds_own (df_lst (by simpa only [k.h] using q))⟩
instance (priority := high) st_ownD [k : SetF ρ i f] : Stp (DS (tAsg tDNewK (gName i)) W n ρ N R B C) (N n (f (some (true, .dic [] [])))) := ⟨fun q => ds_own (df_dnew (by simpa only [k.h] using q))⟩
instance (priority := high) st_ownLs [k : SetF ρ i f] : Stp (DS (tAsg (tCB (rList K) tas) (gName i)) W n ρ N R B C) (DA tas W n ρ fun n ds => ∃ d l, ds = [d] ∧ (d = .lst l ∨ d = .tup l) ∧ N n (f (some (true, .lst l)))) := ⟨fun q => ds_own (df_list (by simpa only [k.h] using q))⟩
instance sg_lsL {l : List D} {Q : List D → Prop} : Stp (∃ d m, [D.lst l] = [d] ∧ (d = .lst m ∨ d = .tup m) ∧ Q m) (Q l) := ⟨fun q => ⟨_, _, rfl, .inl rfl, q⟩⟩
instance sg_lsT {l : List D} {Q : List D → Prop} : Stp (∃ d m, [D.tup l] = [d] ∧ (d = .lst m ∨ d = .tup m) ∧ Q m) (Q l) := ⟨fun q => ⟨_, _, rfl, .inr rfl, q⟩⟩
instance (priority := high) st_ownAdd [h : Get ρ i (some (true, d1))] [k : SetF ρ j f] : Stp (DS (tAsg (tOp (rAddU K) (tVar i) tb) (gName j)) W n ρ N R B C) (DE tb W n ρ fun n d2 => DRF (rAddU K) W n ρ d1 d2 fun n d => N n (f (some (true, d)))) := ⟨fun q => ds_ownAdd h.h (by simpa only [k.h] using q)⟩
instance st_set [k : SetF ρ i f] : Stp (DS (tAsg te (gName i)) W n ρ N R B C) (DE te W n ρ fun n d => N n (f (some (false, d)))) := ⟨fun q => ds_set (by simpa only [k.h] using q)⟩
instance (priority := low) st_asg {m : Nat} {gs : TGs} : Stp (DS (tAsg te (gTup K m gs)) W n ρ N R B C) (DE te W n ρ fun n d => ∃ S, DG (gTup K m gs) S d W ρ (N n)) := ⟨ds_asgx⟩
instance (priority := high) st_start {Ns : List Str} {ds : List D} [h : StartF Ns ds ρ'] : Stp (DS t W n (startR Ns ds) N R B C) (DS t W n ρ' N R B C) := ⟨ds_start h.h⟩
instance st_tgt {Q : Rho → Prop} [h : Tgt g d ρ ρ'] : Stp (∃ S, DG g S d W ρ Q) (Q ρ') := ⟨h.h W Q⟩
instance (priority := high) st_nrm {s : Option (Bool × D)} [h : NrmC (ρ.set i s) ρ'] : Stp (DS t W n (ρ.set i s) N R B C) (DS t W n ρ' N R B C) := ⟨fun q => h.h ▸ q⟩
instance (priority := high) se_nrm {s : Option (Bool × D)} [h : NrmC (ρ.set i s) ρ'] : Stp (DE te W n (ρ.set i s) P) (DE te W n ρ' P) := ⟨fun q => h.h ▸ q⟩
instance (priority := high) sv_nrm {s : Option (Bool × D)} [h : NrmC (ρ.set i s) ρ'] : Stp (DT tt W n (ρ.set i s) PB) (DT tt W n ρ' PB) := ⟨fun q => h.h ▸ q⟩
instance st_par : Stp (DS (tPar i j tas) W n ρ N R B C) (DA tas W n ρ fun n ds => ∃ d1 d2, ds = [d1, d2] ∧ N n ((ρ.set i (some (false, d1))).set j (some (false, d2)))) := ⟨ds_par⟩
instance sg_par {a b : D} {Q : D → D → Prop} : Stp (∃ d1 d2, [a, b] = [d1, d2] ∧ Q d1 d2) (Q a b) := ⟨fun q => ⟨a, b, rfl, q⟩⟩
/-! expressions -/
instance se_var [h : Get ρ i (some (false, d))] : Stp (DE (tVar i) W n ρ P) (P n d) := ⟨de_var h.h⟩
instance se_non : Stp (DE (tC .non) W n ρ P) (P n .non) := ⟨de_non⟩
instance se_bl {b : Bool} : Stp (DE (tC (.bl b)) W n ρ P) (P n (.bl b)) := ⟨de_bl⟩
instance se_int {z : Int} : Stp (DE (tC (.int z)) W n ρ P) (P n (.int z)) := ⟨de_int⟩
instance se_str {x : Str} : Stp (DE (tC (.str x)) W n ρ P) (P n (.str x)) := ⟨de_str⟩
instance se_ty {x : String} : Stp (DE (tC (.ty x)) W n ρ P) (P n (.ty x)) := ⟨de_ty⟩
instance se_raw {a : Addr} : Stp (DE (tC (.ref a)) W n ρ P) (P n (.raw a)) := ⟨de_raw⟩
instance (priority := high) se_opO [h : Get ρ i (some (true, d1))] : Stp (DE (tOp r (tVar i) tb) W n ρ P) (DE tb W n ρ fun n d2 => DR r W n ρ d1 d2 P) := ⟨de_op_o h.h⟩
instance (priority := high) se_op2O [h : Get ρ i (some (true, d2))] : Stp (DE (tOp r ta (tVar i)) W n ρ P) (DE ta W n ρ fun n d1 => DR r W n ρ d1 d2 P) := ⟨de_op_2o h.h⟩
instance se_op : Stp (DE (tOp r ta tb) W n ρ P) (DE ta W n ρ fun n d1 => DE tb W n ρ fun n d2 => DR r W n ρ d1 d2 P) := ⟨de_op⟩
instance se_un {q : L2.V → Hp → VK → Prop} : Stp (DE (tUn q ta) W n ρ P) (DE ta W n ρ fun n d1 => DU q W n ρ d1 P) := ⟨de_un⟩
instance se_neg {z : Int} : Stp (DU (rU fun i => .int (-i)) W n ρ (.int z) P) (P n (.int (-z))) := ⟨du_neg⟩
instance se_and : Stp (DE (tAndV ta tb) W n ρ P) (DE ta W n ρ fun n d => ∃ b, d = .bl b ∧ (b = true → DE tb W n ρ P) ∧ (b = false → P n (.bl false))) := ⟨de_andV⟩
instance se_or : Stp (DE (tOrV ta tb) W n ρ P) (DE ta W n ρ fun n d => ∃ b, d = .bl b ∧ (b = true → P n (.bl true)) ∧ (b = false → DE tb W n ρ P)) := ⟨de_orV⟩
instance se_not : Stp (DE (tNotV ta) W n ρ P) (DE ta W n ρ fun n d => ∃ b, d = .bl b ∧ P n (.bl (!b))) := ⟨de_notV⟩
instance se_if : Stp (DE (tIf tt ta tb) W n ρ P) (DT tt W n ρ fun n b => (b = true → DE ta W n ρ P) ∧ (b = false → DE tb W n ρ P)) := ⟨de_if⟩
instance se_chain : Stp (DE (tChain r r' ta tb tc) W n ρ P) (DE ta W n ρ fun n d1 => DE tb W n ρ fun n d2 => DR r W n ρ d1 d2 fun n z => ∃ b, z = .bl b ∧ (b = true → DE tc W n ρ fun n d3 => DR r' W n ρ d2 d3 P) ∧ (b = false → P n (.bl false))) := ⟨de_chain⟩
instance se_tup : Stp (DE (tTup tas) W n ρ P) (DA tas W n ρ fun n ds => ds.length ≤ sizeLine ∧ P n (.tup ds)) := ⟨de_tup⟩
instance se_lst : Stp (DE (tLst tas) W n ρ P) (DA tas W n ρ fun n ds => ds.length ≤ sizeLine ∧ P n (.lst ds)) := ⟨fun q => DF.de (df_lst q)⟩
instance (priority := high) se_cbO {q : List L2.V → Hp → VK → Prop} [h : Get ρ i (some (true, d))] : Stp (DE (tCB q (tCons (tVar i) tNil)) W n ρ P) (DC q W n ρ [d] P) := ⟨de_cb_o h.h⟩
instance (priority := high) se_cbO2 {q : List L2.V → Hp → VK → Prop} [h : Get ρ i (some (true, d1))] : Stp (DE (tCB q (tCons (tVar i) (tCons tb tNil))) W n ρ P) (DE tb W n ρ fun n d2 => DC q W n ρ [d1, d2] P) := ⟨de_cb_o2 h.h⟩
instance se_cb {q : List L2.V → Hp → VK → Prop} : Stp (DE (tCB q tas) W n ρ P) (DA tas W n ρ fun n ds => DC q W n ρ ds P) := ⟨de_cb⟩
instance (priority := high) se_slO {tl th : TO} {q : L2.V → Option Int → Option Int → Hp → VK → Prop} [h : Get ρ i (some (true, d1))] : Stp (DE (tSl q (tVar i) tl th) W n ρ P) (DO tl W n ρ fun n lo => DO th W n ρ fun n hi => DSl q W n ρ d1 lo hi P) := ⟨de_sl_o h.h⟩
instance se_sl {tl th : TO} {q : L2.V → Option Int → Option Int → Hp → VK → Prop} : Stp (DE (tSl q ta tl th) W n ρ P) (DE ta W n ρ fun n d1 => DO tl W n ρ fun n lo => DO th W n ρ fun n hi => DSl q W n ρ d1 lo hi P) := ⟨de_sl⟩
instance so_none {PO : Nat → Option Int → Prop} : Stp (DO tNoPart W n ρ PO) (PO n none) := ⟨do_none⟩
instance so_some {PO : Nat → Option Int → Prop} : Stp (DO (tPart te) W n ρ PO) (DE te W n ρ fun n d => ∃ i, d = .int i ∧ PO n (some i)) := ⟨do_some⟩
instance ssl_T {ds : List D} {lo hi : Option Int} : Stp (DSl (rSlU K) W n ρ (.tup ds) lo hi P) (P n (.tup (cutD ds lo hi))) := ⟨r_slT⟩
instance ssl_L {ds : List D} {lo hi : Option Int} : Stp (DSl (rSlU K) W n ρ (.lst ds) lo hi P) (P n (.lst (cutD ds lo hi))) := ⟨sl_lst⟩
/-! arguments -/
instance sa_nil : Stp (DA tNil W n ρ PA) (PA n []) := ⟨da_nil⟩
instance sa_cons : Stp (DA (tCons ta tr) W n ρ PA) (DE ta W n ρ fun n d => DA tr W n ρ fun n ds => PA n (d :: ds)) := ⟨da_cons⟩
/-! tests -/
instance sv_test : Stp (DT (tTest te) W n ρ PB) (DE te W n ρ fun n d => ∃ b, d = .bl b ∧ PB n b) := ⟨dt_test⟩
instance sv_B : Stp (DT (tB te) W n ρ PB) (DE te W n ρ fun n d => ∃ b, d = .bl b ∧ PB n b) := ⟨dt_B⟩
instance sv_and : Stp (DT (tAnd tt tv) W n ρ PB) (DT tt W n ρ fun n b => (b = true → DT tv W n ρ PB) ∧ (b = false → PB n false)) := ⟨dt_and⟩
instance sv_or : Stp (DT (tOr tt tv) W n ρ PB) (DT tt W n ρ fun n b => (b = true → PB n true) ∧ (b = false → DT tv W n ρ PB)) := ⟨dt_or⟩
instance sv_not : Stp (DT (tNot tt) W n ρ PB) (DT tt W n ρ fun n b => PB n (!b)) := ⟨dt_not⟩
instance sv_yes : Stp (DT tYes W n ρ PB) (PB n true) := ⟨dt_yes⟩
/-! operators -/
instance sr_add {x y : Int} : Stp (DR (rAddU K) W n ρ (.int x) (.int y) P) (P n (.int (x + y))) := ⟨r_add⟩
instance sr_sub {x y : Int} : Stp (DR rSub' W n ρ (.int x) (.int y) P) (P n (.int (x - y))) := ⟨r_sub⟩
instance sr_lt {x y : Int} : Stp (DR rLt W n ρ (.int x) (.int y) P) (P n (.bl (decide (x < y)))) := ⟨r_lt⟩
instance sr_le {x y : Int} : Stp (DR rLe W n ρ (.int x) (.int y) P) (P n (.bl (decide (x ≤ y)))) := ⟨r_le⟩
instance sr_gt {x y : Int} : Stp (DR rGt' W n ρ (.int x) (.int y) P) (P n (.bl (decide (y < x)))) := ⟨r_gt⟩
instance sr_ge {x y : Int} : Stp (DR rGe' W n ρ (.int x) (.int y) P) (P n (.bl (decide (y ≤ x)))) := ⟨r_ge⟩
instance sr_eqI {x y : Int} : Stp (DR (rEqD K) W n ρ (.int x) (.int y) P) (P n (.bl (decide (x = y)))) := ⟨r_eqI⟩
instance sr_neI {x y : Int} : Stp (DR (rNeD K) W n ρ (.int x) (.int y) P) (P n (.bl (!decide (x = y)))) := ⟨r_neI⟩
instance sr_eqB {x y : Bool} : Stp (DR (rEqD K) W n ρ (.bl x) (.bl y) P) (P n (.bl (x == y))) := ⟨r_eqBB⟩
instance sr_neB {x y : Bool} : Stp (DR (rNeD K) W n ρ (.bl x) (.bl y) P) (P n (.bl (x != y))) := ⟨r_neBB⟩
instance sr_isN : Stp (DR rIsU W n ρ d1 .non P) (P n (.bl d1.isNon)) := ⟨r_isN⟩
instance sr_isnN : Stp (DR rIsnU W n ρ d1 .non P) (P n (.bl (!d1.isNon))) := ⟨r_isnN⟩
instance sr_isB {a b : Bool} : Stp (DR rIsU W n ρ (.bl a) (.bl b) P) (P n (.bl (decide (a = b)))) := ⟨r_isB⟩
instance sr_isnB {a b : Bool} : Stp (DR rIsnU W n ρ (.bl a) (.bl b) P) (P n (.bl (!decide (a = b)))) := ⟨r_isnB⟩
class At (ds : List D) (i : Int) (d : outParam D) : Prop where
  h : atI ds i = some d
section
variable {a b c e : D} {l : List D}
theorem at_of {l : List D} {i : Int} {d : D} (h0 : 0 ≤ i) (h : l[i.toNat]? = some d) : atI l i = some d := by
  have hl : i.toNat < l.length := (List.getElem?_eq_some_iff.mp h).1
  rw [atI_int h0 (by omega)]; exact h
instance at0 : At (a :: l) 0 a := ⟨at_of (by decide) rfl⟩
instance at1 : At (a :: b :: l) 1 b := ⟨at_of (by decide) rfl⟩
instance at2 : At (a :: b :: c :: l) 2 c := ⟨at_of (by decide) rfl⟩
instance at3 : At (a :: b :: c :: e :: l) 3 e := ⟨at_of (by decide) rfl⟩
end
instance sr_ixT {ds : List D} {z : Int} [h : At ds z d] : Stp (DR (rIxU K) W n ρ (.tup ds) (.int z) P) (P n d) := ⟨r_ixT h.h⟩
instance sr_ixL {ds : List D} {z : Int} [h : At ds z d] : Stp (DR (rIxU K) W n ρ (.lst ds) (.int z) P) (P n d) := ⟨r_ixL h.h⟩
/-! built-ins -/
instance sb_lenT {ds : List D} : Stp (DC (rLenU K) W n ρ [.tup ds] P) (P n (.int (ds.length : Int))) := ⟨b_lenT⟩
instance sb_lenL {ds : List D} : Stp (DC (rLenU K) W n ρ [.lst ds] P) (P n (.int (ds.length : Int))) := ⟨b_lenL⟩
instance sb_abs {z : Int} : Stp (DC rAbs W n ρ [.int z] P) (P n (.int (if z < 0 then -z else z))) := ⟨b_abs⟩
instance sb_gcd {i j : Int} : Stp (DC rGcd W n ρ [.int i, .int j] P) (P n (.int (Int.gcd i j : Int))) := ⟨fun p => b_gcd p⟩
instance sb_min2 {x y : Int} : Stp (DC rMin2 W n ρ [.int x, .int y] P) (P n (.int (if y < x then y else x))) := ⟨b_min2⟩
instance sb_max2 {x y : Int} : Stp (DC rMax2 W n ρ [.int x, .int y] P) (P n (.int (if y > x then y else x))) := ⟨b_max2⟩
instance sb_int {z : Int} : Stp (DC rInt1 W n ρ [.int z] P) (P n (.int z)) := ⟨b_int⟩
end
/-! answers -/
section
variable {A B : Prop}
instance sg_bl {e : Bool} {P : Bool → Prop} : Stp (∃ b, D.bl e = D.bl b ∧ P b) (P e) := ⟨fun q => ⟨e, rfl, q⟩⟩
instance sg_int {e : Int} {P : Int → Prop} : Stp (∃ b, D.int e = D.int b ∧ P b) (P e) := ⟨fun q => ⟨e, rfl, q⟩⟩
instance sg_lst {e : List D} {P : List D → Prop} : Stp (∃ b, D.lst e = D.lst b ∧ P b) (P e) := ⟨fun q => ⟨e, rfl, q⟩⟩
instance sg_tup {e : List D} {P : List D → Prop} : Stp (∃ b, D.tup e = D.tup b ∧ P b) (P e) := ⟨fun q => ⟨e, rfl, q⟩⟩
instance sg_T : Stp ((true = true → A) ∧ (true = false → B)) A := ⟨bT⟩
instance sg_F : Stp ((false = true → A) ∧ (false = false → B)) B := ⟨bF⟩
instance sg_nT : Stp (((!true) = true → A) ∧ ((!true) = false → B)) B := ⟨bF⟩
instance sg_nF : Stp (((!false) = true → A) ∧ ((!false) = false → B)) A := ⟨bT⟩
end
/-! known truths -/
class BV (b : Bool) (v : outParam Bool) : Prop where
  h : b = v
instance bvT : BV true true := ⟨rfl⟩
instance bvF : BV false false := ⟨rfl⟩
instance bvNT {b : Bool} [h : BV b true] : BV (!b) false := ⟨by rw [h.h]; rfl⟩
instance bvNF {b : Bool} [h : BV b false] : BV (!b) true := ⟨by rw [h.h]; rfl⟩
instance  : BV (D.isNon .non) true := ⟨rfl⟩
instance {b : Bool} : BV (D.isNon (.bl b)) false := ⟨rfl⟩
instance {i : Int} : BV (D.isNon (.int i)) false := ⟨rfl⟩
instance {x : Str} : BV (D.isNon (.str x)) false := ⟨rfl⟩
instance {l : List D} : BV (D.isNon (.lst l)) false := ⟨rfl⟩
instance {l : List D} : BV (D.isNon (.tup l)) false := ⟨rfl⟩
instance {k : List Key} {l : List D} : BV (D.isNon (.dic k l)) false := ⟨rfl⟩
instance  : BV (is_int .non) false := ⟨rfl⟩
instance {b : Bool} : BV (is_int (.bl b)) true := ⟨rfl⟩
instance {i : Int} : BV (is_int (.int i)) true := ⟨rfl⟩
instance {x : Str} : BV (is_int (.str x)) false := ⟨rfl⟩
instance {l : List D} : BV (is_int (.lst l)) false := ⟨rfl⟩
instance {l : List D} : BV (is_int (.tup l)) false := ⟨rfl⟩
instance {k : List Key} {l : List D} : BV (is_int (.dic k l)) false := ⟨rfl⟩
instance  : BV (is_bool .non) false := ⟨rfl⟩
instance {b : Bool} : BV (is_bool (.bl b)) true := ⟨rfl⟩
instance {i : Int} : BV (is_bool (.int i)) false := ⟨rfl⟩
instance {x : Str} : BV (is_bool (.str x)) false := ⟨rfl⟩
instance {l : List D} : BV (is_bool (.lst l)) false := ⟨rfl⟩
instance {l : List D} : BV (is_bool (.tup l)) false := ⟨rfl⟩
instance {k : List Key} {l : List D} : BV (is_bool (.dic k l)) false := ⟨rfl⟩
instance  : BV (is_tuple .non) false := ⟨rfl⟩
instance {b : Bool} : BV (is_tuple (.bl b)) false := ⟨rfl⟩
instance {i : Int} : BV (is_tuple (.int i)) false := ⟨rfl⟩
instance {x : Str} : BV (is_tuple (.str x)) false := ⟨rfl⟩
instance {l : List D} : BV (is_tuple (.lst l)) false := ⟨rfl⟩
instance {l : List D} : BV (is_tuple (.tup l)) true := ⟨rfl⟩
instance {k : List Key} {l : List D} : BV (is_tuple (.dic k l)) false := ⟨rfl⟩
instance  : BV (is_list .non) false := ⟨rfl⟩
instance {b : Bool} : BV (is_list (.bl b)) false := ⟨rfl⟩
instance {i : Int} : BV (is_list (.int i)) false := ⟨rfl⟩
instance {x : Str} : BV (is_list (.str x)) false := ⟨rfl⟩
instance {l : List D} : BV (is_list (.lst l)) true := ⟨rfl⟩
instance {l : List D} : BV (is_list (.tup l)) false := ⟨rfl⟩
instance {k : List Key} {l : List D} : BV (is_list (.dic k l)) false := ⟨rfl⟩
instance  : BV (is_str .non) false := ⟨rfl⟩
instance {b : Bool} : BV (is_str (.bl b)) false := ⟨rfl⟩
instance {i : Int} : BV (is_str (.int i)) false := ⟨rfl⟩
instance {x : Str} : BV (is_str (.str x)) true := ⟨rfl⟩
instance {l : List D} : BV (is_str (.lst l)) false := ⟨rfl⟩
instance {l : List D} : BV (is_str (.tup l)) false := ⟨rfl⟩
instance {k : List Key} {l : List D} : BV (is_str (.dic k l)) false := ⟨rfl⟩
instance  : BV (is_dict .non) false := ⟨rfl⟩
instance {b : Bool} : BV (is_dict (.bl b)) false := ⟨rfl⟩
instance {i : Int} : BV (is_dict (.int i)) false := ⟨rfl⟩
instance {x : Str} : BV (is_dict (.str x)) false := ⟨rfl⟩
instance {l : List D} : BV (is_dict (.lst l)) false := ⟨rfl⟩
instance {l : List D} : BV (is_dict (.tup l)) false := ⟨rfl⟩
instance {k : List Key} {l : List D} : BV (is_dict (.dic k l)) true := ⟨rfl⟩
class Tn (d : D) : Prop where
  h : d.tn.isSome = true
instance  : Tn .non := ⟨rfl⟩
instance {b : Bool} : Tn (.bl b) := ⟨rfl⟩
instance {i : Int} : Tn (.int i) := ⟨rfl⟩
instance {x : Str} : Tn (.str x) := ⟨rfl⟩
instance {l : List D} : Tn (.lst l) := ⟨rfl⟩
instance {l : List D} : Tn (.tup l) := ⟨rfl⟩
instance {k : List Key} {l : List D} : Tn (.dic k l) := ⟨rfl⟩
section
variable {A B : Prop} {b : Bool}
instance sg_bv1 [h : BV b true] : Stp ((b = true → A) ∧ (b = false → B)) A := ⟨fun a => bTh h.h a⟩
instance sg_bv2 [h : BV b false] : Stp ((b = true → A) ∧ (b = false → B)) B := ⟨fun a => bFh h.h a⟩
theorem isBR (h : (b = true → A) ∧ (b = false → B)) : (b = true → A) ∧ (b = false → B) := h
end
class LnLe (l : List D) (k : Nat) : Prop where
  h : l.length ≤ k
instance lnN {k : Nat} : LnLe [] k := ⟨Nat.zero_le _⟩
instance lnC {a : D} {l : List D} {k : Nat} [h : LnLe l k] : LnLe (a :: l) (k + 1) := ⟨Nat.succ_le_succ h.h⟩
instance sg_len {l : List D} {Q : Prop} [h : LnLe l 60] : Stp (l.length ≤ sizeLine ∧ Q) Q := ⟨fun q => ⟨szl (Nat.le_trans h.h (by decide)), q⟩⟩
instance sg_len2 {l : List D} {Q : Prop} [h : LnLe l 60] : Stp (l.length < sizeLine ∧ Q) Q := ⟨fun q => ⟨szlt (Nat.lt_of_le_of_lt h.h (by decide)), q⟩⟩
section
variable {W : Wd} {n : Nat} {ρ : Rho} {K : PySem.W.Frag} {P : Nat → D → Prop} {d : D}
instance [h : Tn d] : Stp (DC (rIsiU K) W n ρ [d, .ty "int"] P) (P n (.bl (is_int d))) := ⟨u_is_int h.h⟩
instance [h : Tn d] : Stp (DC (rIsiU K) W n ρ [d, .ty "bool"] P) (P n (.bl (is_bool d))) := ⟨u_is_bool h.h⟩
instance [h : Tn d] : Stp (DC (rIsiU K) W n ρ [d, .ty "tuple"] P) (P n (.bl (is_tuple d))) := ⟨u_is_tuple h.h⟩
instance [h : Tn d] : Stp (DC (rIsiU K) W n ρ [d, .ty "list"] P) (P n (.bl (is_list d))) := ⟨u_is_list h.h⟩
instance [h : Tn d] : Stp (DC (rIsiU K) W n ρ [d, .ty "str"] P) (P n (.bl (is_str d))) := ⟨u_is_str h.h⟩
end
/-! calls of typed promises -/
class Dec (α : Type) [Enc α] (d : D) (a : outParam α) : Prop where
  h : d = Enc.e a
instance dec_D {d : D} : Dec D d d := ⟨rfl⟩
instance dec_int {i : Int} : Dec Int (.int i) i := ⟨rfl⟩
instance dec_ps {p : Ps} : Dec Ps (dPs p) p := ⟨rfl⟩
instance dec_wk {r : Int} {u : List Int} {p : List Ps} : Dec Wk (.tup [.int r, .tup (u.map D.int), .tup (p.map dPs)]) ⟨r, u, p⟩ := ⟨rfl⟩
instance (priority := high) dec_wk2 {w : Wk} : Dec Wk (.tup [.int w.room, .tup (w.pulls.map D.int), .tup (w.passes.map dPs)]) w := ⟨rfl⟩
instance dec_dl {l : List Door} : Dec DL (.tup (l.map dDoor)) ⟨l⟩ := ⟨rfl⟩
instance (priority := high) dec_dl2 {x : DL} : Dec DL (.tup (x.l.map dDoor)) x := ⟨rfl⟩
instance dec_hs {C : Addr} {h : Hs C} : Dec (Hs C) (dHs h) h := ⟨rfl⟩
abbrev CG (p : Prop) (o : Out) (Q : D → Prop) : Prop := p ∧ ∃ fr d, o = .ret fr d ∧ Q d
theorem CG.go {p : Prop} {o : Out} {Q : D → Prop} {fr : Bool} {d : D} (h : p) (h2 : o = .ret fr d) (q : Q d) : CG p o Q := ⟨h, fr, d, h2, q⟩
section
variable {W : Wd} {n : Nat} {ρ : Rho} {tas : TA} {E : XK} {Q : Nat → D → Prop} {Qd : D → Prop}
instance (priority := low) sc_det {m : Nat} {pre : List D → Prop} {f : List D → Out} {P : Nat → D → Prop} : Stp (DE (tCall (PD m pre f) [] E tas) W n ρ P) (DA tas W n ρ fun n ds => ds.length = m ∧ pre ds ∧ ∃ b d, f ds = .ret b d ∧ P n d) := ⟨de_det⟩
section
variable {α0 : Type} [Enc α0] {pre : α0 → Prop} {out : α0 → Out}
instance sc_pf1 : Stp (DE (tCall (PF1 pre out) [] E tas) W n ρ Q) (DA tas W n ρ fun n ds => ∃ (a0 : α0), ds = [Enc.e a0] ∧ pre a0 ∧ ∃ fr d, out a0 = .ret fr d ∧ Q n d) := ⟨de_pf1⟩
instance sc_cg1 {d0 : D} {a0 : α0} [h0 : Dec α0 d0 a0] : Stp (∃ (a0 : α0), [d0] = [Enc.e a0] ∧ pre a0 ∧ ∃ fr d, out a0 = .ret fr d ∧ Qd d) (CG (pre a0) (out a0) Qd) := ⟨fun q => ⟨a0, by rw [h0.h], q⟩⟩
end
section
variable {α0 α1 : Type} [Enc α0] [Enc α1] {pre : α0 → α1 → Prop} {out : α0 → α1 → Out}
instance sc_pf2 : Stp (DE (tCall (PF2 pre out) [] E tas) W n ρ Q) (DA tas W n ρ fun n ds => ∃ (a0 : α0) (a1 : α1), ds = [Enc.e a0, Enc.e a1] ∧ pre a0 a1 ∧ ∃ fr d, out a0 a1 = .ret fr d ∧ Q n d) := ⟨de_pf2⟩
instance sc_cg2 {d0 d1 : D} {a0 : α0} {a1 : α1} [h0 : Dec α0 d0 a0] [h1 : Dec α1 d1 a1] : Stp (∃ (a0 : α0) (a1 : α1), [d0, d1] = [Enc.e a0, Enc.e a1] ∧ pre a0 a1 ∧ ∃ fr d, out a0 a1 = .ret fr d ∧ Qd d) (CG (pre a0 a1) (out a0 a1) Qd) := ⟨fun q => ⟨a0, a1, by rw [h0.h, h1.h], q⟩⟩
end
section
variable {α0 α1 α2 : Type} [Enc α0] [Enc α1] [Enc α2] {pre : α0 → α1 → α2 → Prop} {out : α0 → α1 → α2 → Out}
instance sc_pf3 : Stp (DE (tCall (PF3 pre out) [] E tas) W n ρ Q) (DA tas W n ρ fun n ds => ∃ (a0 : α0) (a1 : α1) (a2 : α2), ds = [Enc.e a0, Enc.e a1, Enc.e a2] ∧ pre a0 a1 a2 ∧ ∃ fr d, out a0 a1 a2 = .ret fr d ∧ Q n d) := ⟨de_pf3⟩
instance sc_cg3 {d0 d1 d2 : D} {a0 : α0} {a1 : α1} {a2 : α2} [h0 : Dec α0 d0 a0] [h1 : Dec α1 d1 a1] [h2 : Dec α2 d2 a2] : Stp (∃ (a0 : α0) (a1 : α1) (a2 : α2), [d0, d1, d2] = [Enc.e a0, Enc.e a1, Enc.e a2] ∧ pre a0 a1 a2 ∧ ∃ fr d, out a0 a1 a2 = .ret fr d ∧ Qd d) (CG (pre a0 a1 a2) (out a0 a1 a2) Qd) := ⟨fun q => ⟨a0, a1, a2, by rw [h0.h, h1.h, h2.h], q⟩⟩
end
section
variable {α0 α1 α2 α3 : Type} [Enc α0] [Enc α1] [Enc α2] [Enc α3] {pre : α0 → α1 → α2 → α3 → Prop} {out : α0 → α1 → α2 → α3 → Out}
instance sc_pf4 : Stp (DE (tCall (PF4 pre out) [] E tas) W n ρ Q) (DA tas W n ρ fun n ds => ∃ (a0 : α0) (a1 : α1) (a2 : α2) (a3 : α3), ds = [Enc.e a0, Enc.e a1, Enc.e a2, Enc.e a3] ∧ pre a0 a1 a2 a3 ∧ ∃ fr d, out a0 a1 a2 a3 = .ret fr d ∧ Q n d) := ⟨de_pf4⟩
instance sc_cg4 {d0 d1 d2 d3 : D} {a0 : α0} {a1 : α1} {a2 : α2} {a3 : α3} [h0 : Dec α0 d0 a0] [h1 : Dec α1 d1 a1] [h2 : Dec α2 d2 a2] [h3 : Dec α3 d3 a3] : Stp (∃ (a0 : α0) (a1 : α1) (a2 : α2) (a3 : α3), [d0, d1, d2, d3] = [Enc.e a0, Enc.e a1, Enc.e a2, Enc.e a3] ∧ pre a0 a1 a2 a3 ∧ ∃ fr d, out a0 a1 a2 a3 = .ret fr d ∧ Qd d) (CG (pre a0 a1 a2 a3) (out a0 a1 a2 a3) Qd) := ⟨fun q => ⟨a0, a1, a2, a3, by rw [h0.h, h1.h, h2.h, h3.h], q⟩⟩
end
end
section
variable {a b c d e : D} {p : Prop} {o : Out} {Q : D → Prop}
instance sd1 : Stp (([a] : List D).length = 1 ∧ p ∧ ∃ fr d, o = .ret fr d ∧ Q d) (CG p o Q) := ⟨fun q => ⟨rfl, q⟩⟩
instance sd2 : Stp (([a, b] : List D).length = 2 ∧ p ∧ ∃ fr d, o = .ret fr d ∧ Q d) (CG p o Q) := ⟨fun q => ⟨rfl, q⟩⟩
instance sd3 : Stp (([a, b, c] : List D).length = 3 ∧ p ∧ ∃ fr d, o = .ret fr d ∧ Q d) (CG p o Q) := ⟨fun q => ⟨rfl, q⟩⟩
instance sd4 : Stp (([a, b, c, d] : List D).length = 4 ∧ p ∧ ∃ fr d, o = .ret fr d ∧ Q d) (CG p o Q) := ⟨fun q => ⟨rfl, q⟩⟩
end
end HD

namespace HD
open PySem PySem.Spec PyProof.Rows L2
/-! ### moves undone -/
theorem carryL_undo {lv ar : LF} {t : Int} : ∀ {i : Nat} {xs : List Int} {ps : List Ps}, carryL lv ar i (0 - t) (carryL lv ar i t xs ps) ps = xs := by
  intro i
  induction i with
  | zero =>
    intro xs ps
    cases ps with
    | nil => cases xs with
      | nil => rfl
      | cons u xs => cases xs <;> rfl
    | cons p ps => cases xs with
      | nil => rfl
      | cons u xs => cases xs with
        | nil => rfl
        | cons v xs =>
          show (u - lv p * t - lv p * (0 - t)) :: (v + ar p * t + ar p * (0 - t)) :: xs = u :: v :: xs
          rw [Int.mul_sub, Int.mul_zero, Int.mul_sub, Int.mul_zero]
          congr 1
          · omega
          · congr 1; omega
  | succ i ih =>
    intro xs ps
    cases ps with
    | nil => cases xs <;> rfl
    | cons p ps => cases xs with
      | nil => rfl
      | cons u xs => exact congrArg (u :: ·) ih
theorem carry_undo {lv ar : LF} (w : Wk) (i : Nat) (t : Int) : carryW lv ar (carryW lv ar w i t) i (0 - t) = w := by
  show (⟨w.room, carryL lv ar i (0 - t) (carryL lv ar i t w.pulls w.passes) w.passes, w.passes⟩ : Wk) = w
  rw [carryL_undo]
theorem cancel_undo {w : Wk} (hl : w.pulls.length = w.passes.length + 1) {i : Nat} (ht : turn w i) (h0 : uAt w (i + 1) = 0) : putW (cancelW w i) i (pAt w i) (uAt w i) = w := by
  have key : ∀ (i : Nat) (xs : List Int) (ps : List Ps), xs.length = ps.length + 1 → i + 1 < ps.length → xs.getD (i + 1) 0 = 0 → ps.getD (i + 1) (0, 0) = bk (ps.getD i (0, 0)) →
      (cancP i xs).take i ++ ([xs.getD i 0, 0, (cancP i xs).getD i 0 - xs.getD i 0] ++ (cancP i xs).drop (i + 1)) = xs ∧ (cancS i ps).take i ++ ([ps.getD i (0, 0), bk (ps.getD i (0, 0))] ++ (cancS i ps).drop i) = ps := by
    intro i
    induction i with
    | zero =>
      intro xs ps h hi hz hb
      rcases ps with _ | ⟨p, _ | ⟨q, ps⟩⟩
      · simp at hi
      · simp at hi
      rcases xs with _ | ⟨x, _ | ⟨y, _ | ⟨z, xs⟩⟩⟩
      · simp at h
      · simp at h
      · simp at h
      have hz : y = 0 := hz
      have hb : q = bk p := hb
      subst hz hb
      refine ⟨?_, rfl⟩
      show x :: 0 :: (x + z - x) :: xs = x :: 0 :: z :: xs
      rw [show x + z - x = z by omega]
    | succ i ih =>
      intro xs ps h hi hz hb
      cases xs with
      | nil => simp at h
      | cons x xs =>
        cases ps with
        | nil => simp at hi
        | cons q ps =>
          obtain ⟨h2, h3⟩ := ih xs ps (by simpa using h) (by simpa using hi) hz hb
          refine ⟨?_, ?_⟩
          · exact congrArg (x :: ·) h2
          · exact congrArg (q :: ·) h3
  obtain ⟨h2, h3⟩ := key i w.pulls w.passes hl ht.1 h0 ht.2
  obtain ⟨r, xs, ps⟩ := w
  exact congr (congrArg (Wk.mk r) h2) h3
theorem chain_near {dl : List Door} : ∀ {i : Nat} {r : Int} {ps : List Ps}, chain dl r ps → i < ps.length → psOk dl (ps.getD i (0, 0)) ∧ (gat dl (ps.getD i (0, 0))).near = endR dl r (ps.take i)
  | _, _, [], _, h => by simp at h
  | 0, r, p :: ps, ⟨h1, h2, _⟩, _ => ⟨h1, h2⟩
  | i + 1, r, p :: ps, ⟨_, _, h3⟩, h => chain_near (i := i) h3 (by simpa using h)
theorem cancS_take : ∀ {i : Nat} {ps : List Ps}, i + 1 < ps.length → (cancS i ps).take i = ps.take i
  | 0, _, _ => rfl
  | i + 1, [], h => by simp at h
  | i + 1, p :: ps, h => congrArg (p :: ·) (cancS_take (i := i) (by simpa using h))
end HD

namespace HD
open PySem PySem.Spec PyProof.Rows L2
/-! ### functions as values: a local that holds one of several defs is called -/
def tCallL (i : Nat) (cs : List (Addr × Sp)) (E : XK) (t : TA) : TE := fun σ H Q => ∃ p, p ∈ cs ∧ σ[i]? = some (some (.ref p.1)) ∧ tCall p.2 [] E t σ H Q
structure FnV (P : Program) (w : World) (K : PySem.W.Frag) (mg : Str → Option Value) (base : Heap) (k : Nat) (x : Str) (f : Addr) (sp : Sp) : Prop where
  gl : mg x = some (.ref f)
  kp : PySem.W.keepIn K (.ref f) = true
  fn : FnR P w K mg base (L2.CX P w) k f (fun vs H Q E => sp (vs ++ []) H Q E)
theorem Cal.fnv {P : Program} {w : World} {K : PySem.W.Frag} {mg : Str → Option Value} {base : Heap} {k : Nat} {x : Str} {st : Stmt} {ps : List Str} {sp : Sp} (C : Cal P w K mg base k x st ps sp) : ∃ f, FnV P w K mg base k x f sp := by
  obtain ⟨f, fd, F, hm, hk, hb, _⟩ := C.ex
  exact ⟨f, hm, hk, F.raw hb .nil⟩
/-- all of them can be called -/
inductive FnL (P : Program) (w : World) (K : PySem.W.Frag) (mg : Str → Option Value) (base : Heap) (k : Nat) : List (Addr × Sp) → Prop
  | nil : FnL P w K mg base k []
  | cons {x : Str} {f : Addr} {sp : Sp} {j : Nat} {cs : List (Addr × Sp)} : FnV P w K mg base j x f sp → j ≤ k → FnL P w K mg base k cs → FnL P w K mg base k ((f, sp) :: cs)
theorem FnL.get {P : Program} {w : World} {K : PySem.W.Frag} {mg : Str → Option Value} {base : Heap} {k : Nat} : ∀ {cs : List (Addr × Sp)}, FnL P w K mg base k cs → ∀ p ∈ cs, FnR P w K mg base (L2.CX P w) k p.1 (fun vs H Q E => p.2 (vs ++ []) H Q E) ∧ PySem.W.keepIn K (.ref p.1) = true
  | _, .cons h hj r, p, hp => by
    rcases List.mem_cons.mp hp with e | e
    · rw [e]; exact ⟨h.fn.mono hj, h.kp⟩
    · exact r.get p e
theorem pe_callL {X : Cx} {k i : Nat} {cs : List (Addr × Sp)} {E : XK} {x : Str} {e : Expr} {es : List Expr} {t : TA} {p pos : Pos} (Fs : FnL X.prog X.w X.K X.mg X.base k cs) (hr : Room k X.A) (hx : Passes (L2.CX X.prog X.w) X E) (hN : X.N[i]? = some x) (hv : Vis X.env.scope x) (ha : PA X (e :: es) t)
    (hd : (x == ("__debug__" : Str)) = false := by decide) (hcd : (x == ("__classdict__" : Str)) = false := by decide)
    (he : starEach (e :: es) X.env = (false, eval e X.env) :: starEach es X.env := by rfl) (hpl : (backTo pos (starEach es X.env)).any (·.1) = false := by rfl) : PE X (.Call (.Name x p) (e :: es) [] pos) (tCallL i cs E t) :=
  ⟨fun pins s σ H Q I ⟨q, hq, hs, h⟩ => (ItX.pe_callV (CX := L2.CX X.prog X.w) (Fs.get q hq).1 hr (Fs.get q hq).2 hx hN hv ha hd hcd he hpl).run pins s σ H Q I ⟨hs, h⟩⟩
section
variable {W : Wd} {n : Nat} {ρ : Rho}
theorem de_callL {i : Nat} {cs : List (Addr × Sp)} {f : Addr} {sp : Sp} {E : XK} {tas : TA} {P : Nat → D → Prop} (hi : ρ[i]? = some (some (false, .raw f))) (hm : (f, sp) ∈ cs) (h : DE (tCall sp [] E tas) W n ρ P) : DE (tCallL i cs E tas) W n ρ P := fun Z T σ H e Q k => by
  obtain ⟨v, h1, h2⟩ := e.sh i _ hi
  cases h2
  exact ⟨(f, sp), hm, h1, h Z T σ H e Q k⟩
end
end HD

namespace HD
open PySem PySem.Spec PyProof.Rows L2
/-! ### cores -/
section
variable {lv ar : LF} {dl : List Door}
def leadW (r u : Int) (p : Ps) : Wk := ⟨r, [u, 0], [p]⟩
theorem joinP_lead (u : Int) : ∀ (xs : List Int), xs ≠ [] → joinP [u, 0] xs = u :: xs
  | [], h => absurd rfl h
  | x :: xs, _ => by
    show u :: (0 + x) :: xs = u :: x :: xs
    rw [Int.zero_add]
theorem joinP_snoc (x y z : Int) : ∀ (xs : List Int), joinP (xs ++ [x]) [y, z] = xs ++ [x + y, z]
  | [] => rfl
  | a :: xs => by
    show joinP (a :: (xs ++ [x])) [y, z] = _
    rw [joinP_cons (by simp), joinP_snoc x y z xs]; rfl
/-- a walk of two passes more, the last one the back of the first -/
theorem carryL_last {t a b : Int} {p q : Ps} : ∀ (us : List Int) (mid : List Ps), us.length = mid.length → carryL lv ar mid.length t (us ++ [a, b]) (mid ++ [q]) = us ++ [a - lv q * t, b + ar q * t]
  | [], [], _ => rfl
  | u :: us, m :: mid, h => congrArg (u :: ·) (carryL_last (p := p) us mid (by simpa using h))
theorem shut_lead {r u a b t : Int} {us : List Int} {p q : Ps} {mid : List Ps} (hl : us.length = mid.length) (hq : bk p = q) (ht : ar q * t = b + u) :
    joinW (joinW (leadW r u p) ⟨(gat dl p).far, us ++ [a + lv q * t], mid⟩) (backW dl (leadW r u p)) = carryW lv ar ⟨r, u :: (us ++ [a, b]), p :: (mid ++ [q])⟩ (mid.length + 1) (0 - t) := by
  have h1 : joinP (joinP [u, 0] (us ++ [a + lv q * t])) [0 - 0, 0 - u] = carryL lv ar (mid.length + 1) (0 - t) (u :: (us ++ [a, b])) (p :: (mid ++ [q])) := by
    rw [joinP_lead _ _ (by simp)]
    show joinP ((u :: us) ++ [a + lv q * t]) [0 - 0, 0 - u] = u :: carryL lv ar mid.length (0 - t) (us ++ [a, b]) (mid ++ [q])
    rw [joinP_snoc, carryL_last (p := p) us mid hl, Int.mul_sub, Int.mul_sub, Int.mul_zero, Int.mul_zero, ht]
    show u :: (us ++ _) = u :: (us ++ _)
    congr 3
    · omega
    · congr 1; omega
  have h2 : ([p] ++ mid) ++ [bk p] = p :: (mid ++ [q]) := by rw [hq]; rfl
  exact congr (congrArg (Wk.mk r) h1) h2
theorem joinP_back : ∀ {xs ys : List Int}, xs ≠ [] → ys ≠ [] → (joinP xs ys).reverse.map (0 - ·) = joinP (ys.reverse.map (0 - ·)) (xs.reverse.map (0 - ·)) := by
  intro xs ys hx hy
  obtain ⟨m, x, rfl⟩ : ∃ m x, xs = m ++ [x] := ⟨xs.dropLast, xs.getLast hx, (List.dropLast_concat_getLast hx).symm⟩
  cases ys with
  | nil => exact absurd rfl hy
  | cons y ys =>
    rw [joinP_eq (x := x) (y := y) (by simp) rfl, joinP_eq (x := 0 - y) (y := 0 - x) (by simp) (by simp)]
    simp only [List.dropLast_concat, List.tail_cons, List.reverse_append, List.reverse_cons, List.map_append, List.map_cons, List.map_nil, List.append_assoc, List.cons_append, List.nil_append, List.reverse_nil, List.map_reverse]
    congr 2
    omega
theorem back_join {a b : Wk} (ha : a.pulls ≠ []) (hb : b.pulls ≠ []) (e : b.room = endR dl a.room a.passes) : backW dl (joinW a b) = joinW (backW dl b) (backW dl a) := by
  have h1 : endR dl (joinW a b).room (joinW a b).passes = endR dl b.room b.passes := join_end e
  have h2 : (joinP a.pulls b.pulls).reverse.map (0 - ·) = joinP (b.pulls.reverse.map (0 - ·)) (a.pulls.reverse.map (0 - ·)) := joinP_back ha hb
  have h3 : (a.passes ++ b.passes).reverse.map bk = b.passes.reverse.map bk ++ a.passes.reverse.map bk := by rw [List.reverse_append, List.map_append]
  show (⟨_, _, _⟩ : Wk) = ⟨_, _, _⟩
  exact congr (congr (congrArg Wk.mk h1) h2) h3
theorem ne_ln {w : Wk} (h : w.pulls.length = w.passes.length + 1) : w.pulls ≠ [] := fun e => by rw [e] at h; simp at h
/-! a walk whose first pass can be cancelled with the last one -/
def shutP (ar : LF) (w : Wk) : Prop := 2 ≤ w.passes.length ∧ pAt w 0 = bk (pAt w (w.passes.length - 1)) ∧ ar (pAt w (w.passes.length - 1)) ∣ uAt w w.passes.length + uAt w 0
instance (ar : LF) (w : Wk) : Decidable (shutP ar w) := by unfold shutP; infer_instance
def shutT (ar : LF) (w : Wk) : Int := (uAt w w.passes.length + uAt w 0) / ar (pAt w (w.passes.length - 1))
def innerW (lv ar : LF) (dl : List Door) (w : Wk) : Wk := ⟨(gat dl (pAt w 0)).far, (w.pulls.drop 1).take (w.passes.length - 2) ++ [uAt w (w.passes.length - 1) + lv (pAt w (w.passes.length - 1)) * shutT ar w], (w.passes.drop 1).take (w.passes.length - 2)⟩
theorem snoc_of {α : Type} {l : List α} (h : l ≠ []) : ∃ m x, l = m ++ [x] := ⟨l.dropLast, l.getLast h, (List.dropLast_concat_getLast h).symm⟩
theorem shape2 {w : Wk} (hl : w.pulls.length = w.passes.length + 1) (h2 : 2 ≤ w.passes.length) : ∃ u us a b p mid q, us.length = mid.length ∧ w = ⟨w.room, u :: (us ++ [a, b]), p :: (mid ++ [q])⟩ := by
  obtain ⟨r, xs, ps⟩ := w
  dsimp only at hl h2 ⊢
  cases ps with
  | nil => simp at h2
  | cons p ps =>
    obtain ⟨mid, q, rfl⟩ := snoc_of (l := ps) (fun e => by rw [e] at h2; simp at h2)
    cases xs with
    | nil => simp at hl
    | cons u xs =>
      obtain ⟨ys, b, rfl⟩ := snoc_of (l := xs) (fun e => by rw [e] at hl; simp at hl)
      obtain ⟨us, a, rfl⟩ := snoc_of (l := ys) (fun e => by rw [e] at hl; simp at hl)
      refine ⟨u, us, a, b, p, mid, q, ?_, ?_⟩
      · simp at hl; exact hl
      · rw [List.append_assoc]; rfl
section
variable {r u a b : Int} {us : List Int} {p q : Ps} {mid : List Ps} (hl : us.length = mid.length)
include hl
theorem shape_n : (⟨r, u :: (us ++ [a, b]), p :: (mid ++ [q])⟩ : Wk).passes.length = mid.length + 2 := by simp
theorem shape_p0 : pAt ⟨r, u :: (us ++ [a, b]), p :: (mid ++ [q])⟩ 0 = p := rfl
theorem shape_pn : pAt ⟨r, u :: (us ++ [a, b]), p :: (mid ++ [q])⟩ (mid.length + 1) = q := by
  show (p :: (mid ++ [q])).getD (mid.length + 1) (0, 0) = q
  simp
theorem shape_u0 : uAt ⟨r, u :: (us ++ [a, b]), p :: (mid ++ [q])⟩ 0 = u := rfl
theorem shape_un : uAt ⟨r, u :: (us ++ [a, b]), p :: (mid ++ [q])⟩ (mid.length + 1) = a := by
  show (u :: (us ++ [a, b])).getD (mid.length + 1) 0 = a
  rw [← hl]
  simp
theorem shape_um : uAt ⟨r, u :: (us ++ [a, b]), p :: (mid ++ [q])⟩ (mid.length + 2) = b := by
  show (u :: (us ++ [a, b])).getD (mid.length + 2) 0 = b
  rw [← hl]
  simp
theorem shape_inner : innerW lv ar dl ⟨r, u :: (us ++ [a, b]), p :: (mid ++ [q])⟩ = ⟨(gat dl p).far, us ++ [a + lv q * ((b + u) / ar q)], mid⟩ := by
  unfold innerW shutT
  rw [shape_n hl, show mid.length + 2 - 1 = mid.length + 1 by omega, shape_pn hl, shape_un hl, shape_um hl, shape_p0 hl, shape_u0 hl]
  have h1 : ((u :: (us ++ [a, b])).drop 1).take (mid.length + 2 - 2) = us := by
    show (us ++ [a, b]).take mid.length = us
    rw [← hl, List.take_left']
    rfl
  have h2 : ((p :: (mid ++ [q])).drop 1).take (mid.length + 2 - 2) = mid := by
    show (mid ++ [q]).take mid.length = mid
    rw [List.take_left']
    rfl
  show (⟨_, ((u :: (us ++ [a, b])).drop 1).take (mid.length + 2 - 2) ++ _, ((p :: (mid ++ [q])).drop 1).take (mid.length + 2 - 2)⟩ : Wk) = _
  rw [h1, h2]
theorem shape_shut : shutP ar ⟨r, u :: (us ++ [a, b]), p :: (mid ++ [q])⟩ ↔ p = bk q ∧ ar q ∣ b + u := by
  unfold shutP
  rw [shape_n hl, show mid.length + 2 - 1 = mid.length + 1 by omega, shape_pn hl, shape_um hl, shape_p0 hl, shape_u0 hl]
  exact ⟨fun h => h.2, fun h => ⟨by omega, h⟩⟩
end
structure Shut (lv ar : LF) (dl : List Door) (r : Int) (w : Wk) : Prop where
  I : WkOk r dl (innerW lv ar dl w)
  hI : endR dl (innerW lv ar dl w).room (innerW lv ar dl w).passes = (innerW lv ar dl w).room
  len : (innerW lv ar dl w).passes.length + 2 = w.passes.length
  l : WkOk r dl (leadW w.room (uAt w 0) (pAt w 0))
  lI : (innerW lv ar dl w).room = endR dl (leadW w.room (uAt w 0) (pAt w 0)).room (leadW w.room (uAt w 0) (pAt w 0)).passes
  ef : pf lv ar (joinW (joinW (leadW w.room (uAt w 0) (pAt w 0)) (innerW lv ar dl w)) (backW dl (leadW w.room (uAt w 0) (pAt w 0)))) = pf lv ar w
theorem shut_ok (F : Flip (psOk dl) lv ar) {r : Int} (hg : ∀ p, psOk dl p → 0 ≤ (gat dl p).far ∧ (gat dl p).far < r) {w : Wk} (o : WkOk r dl w) (hs : shutP ar w) : Shut lv ar dl r w := by
  obtain ⟨u, us, a, b, p, mid, q, hl, e⟩ := shape2 o.ln hs.1
  obtain ⟨rm, xs, ps⟩ := w
  simp only [Wk.mk.injEq, true_and] at e
  obtain ⟨rfl, rfl⟩ := e
  obtain ⟨h1, h2⟩ := (shape_shut hl).mp hs
  obtain ⟨c1, c2, c3⟩ : psOk dl p ∧ (gat dl p).near = rm ∧ chain dl (gat dl p).far (mid ++ [q]) := o.ch
  obtain ⟨c4, c5, c6, _⟩ := chain_app.mp c3
  have hq : bk p = q := by rw [h1, bk_bk]
  have hnear : (gat dl q).near = (gat dl p).far := by rw [← hq, gat_bk c1]; rfl
  have hgp := hg p c1
  refine ⟨?_, ?_, ?_, ?_, ?_, ?_⟩
  · rw [shape_inner hl]
    exact ⟨hgp.1, hgp.2, c4, by simp [hl]⟩
  · rw [shape_inner hl]
    show endR dl (gat dl p).far mid = (gat dl p).far
    rw [← c6, hnear]
  · rw [shape_inner hl, shape_n hl]
  · exact ⟨o.r0, o.r1, ⟨c1, c2, True.intro⟩, rfl⟩
  · rw [shape_inner hl]; rfl
  · rw [shape_inner hl, shape_p0 hl, shape_u0 hl]
    have ht : ar q * ((b + u) / ar q) = b + u := Int.mul_ediv_cancel' h2
    rw [shut_lead hl hq ht]
    exact carry_pf F.toNums _ _ _
/-- what the core told keeps -/
structure CInv (lv ar : LF) (dl : List Door) (r : Int) (w l v : Wk) : Prop where
  ol : WkOk r dl l
  ov : WkOk r dl v
  rm : l.room = w.room
  en : v.room = endR dl l.room l.passes
  hv : endR dl v.room v.passes = v.room
  pl : pf lv ar v = v
  ef : pf lv ar (joinW (joinW l v) (backW dl l)) = pf lv ar w
  len : l.passes.length + v.passes.length ≤ w.passes.length
theorem CInv.init (F : Flip (psOk dl) lv ar) {r : Int} {w : Wk} (o : WkOk r dl w) (hh : endR dl w.room w.passes = w.room) : CInv lv ar dl r w (standW w.room) (pf lv ar w) where
  ol := ⟨o.r0, o.r1, True.intro, rfl⟩
  ov := (pf_WkOk o).1
  rm := rfl
  en := rfl
  hv := (pf_WkOk o).2.trans hh
  pl := pf_pf F (chain_all o.ch)
  ef := by
    have e : joinW (joinW (standW w.room) (pf lv ar w)) (backW dl (standW w.room)) = pf lv ar w := by
      have h0 := pf_len (lv := lv) (ar := ar) w
      have hr : (pf lv ar w).room = w.room := rfl
      generalize pf lv ar w = v at h0 hr
      obtain ⟨vr, vu, vp⟩ := v
      dsimp only at h0 hr
      subst hr
      obtain ⟨m, x, rfl⟩ := snoc_of (l := vu) (fun e => by rw [e] at h0; simp at h0)
      show (⟨w.room, joinP (joinP [0] (m ++ [x])) [0 - 0], [] ++ vp ++ []⟩ : Wk) = _
      have h1 : joinP [0] (m ++ [x]) = m ++ [x] := by
        cases m with
        | nil => show [0 + x] = [x]; rw [Int.zero_add]
        | cons y m => show (0 + y) :: (m ++ [x]) = y :: (m ++ [x]); rw [Int.zero_add]
      have h2 : joinP (m ++ [x]) [0 - 0] = m ++ [x] := by
        rw [joinP_eq (x := x) (y := 0) (by simp) (by simp)]
        simp
      rw [h1, h2]
      simp
    rw [e]
    exact pf_pf F (chain_all o.ch)
  len := by
    have := pf_short (lv := lv) (ar := ar) (w := w)
    show 0 + _ ≤ _
    omega
theorem CInv.step (F : Flip (psOk dl) lv ar) {r : Int} (hg : ∀ p, psOk dl p → 0 ≤ (gat dl p).far ∧ (gat dl p).far < r) {w l v : Wk} (c : CInv lv ar dl r w l v) (hs : shutP ar v) : CInv lv ar dl r w (joinW l (leadW v.room (uAt v 0) (pAt v 0))) (pf lv ar (innerW lv ar dl v)) := by
  have S := shut_ok (lv := lv) F hg c.ov hs
  have e1 : (leadW v.room (uAt v 0) (pAt v 0)).room = endR dl l.room l.passes := c.en
  have oL := join_WkOk c.ol S.l e1
  have oI' := (pf_WkOk (lv := lv) (ar := ar) S.I)
  have b1 := back_WkOk hg S.l
  have b2 := back_WkOk hg c.ol
  have n1 := S.l.ln
  have n2 := c.ol.ln
  have nI := S.I.ln
  have hlen := S.len
  refine ⟨oL, oI'.1, c.rm, ?_, ?_, pf_pf F (chain_all S.I.ch), ?_, ?_⟩
  · rw [join_end e1, ← S.lI]; rfl
  · exact oI'.2.trans S.hI
  · have jE : joinW (joinW (joinW l (leadW v.room (uAt v 0) (pAt v 0))) (innerW lv ar dl v)) (backW dl (joinW l (leadW v.room (uAt v 0) (pAt v 0)))) = joinW (joinW l (joinW (joinW (leadW v.room (uAt v 0) (pAt v 0)) (innerW lv ar dl v)) (backW dl (leadW v.room (uAt v 0) (pAt v 0))))) (backW dl l) := by
      have o1 := join_WkOk S.l S.I S.lI
      rw [back_join (ne_ln n2) (ne_ln n1) e1, ← join_assoc (join_WkOk oL S.I (by rw [join_end e1]; exact S.lI)).ln b1.ln b2.ln, join_assoc (a := l) n2 n1 nI, join_assoc (a := l) n2 o1.ln b1.ln]
    have oLI := join_WkOk oL S.I (by rw [join_end e1]; exact S.lI)
    have oLI' := join_WkOk oL oI'.1 (by rw [join_end e1]; exact S.lI)
    have bL := back_WkOk hg oL
    have k1 : pf lv ar (joinW (joinW (joinW l (leadW v.room (uAt v 0) (pAt v 0))) (pf lv ar (innerW lv ar dl v))) (backW dl (joinW l (leadW v.room (uAt v 0) (pAt v 0))))) = pf lv ar (joinW (joinW (joinW l (leadW v.room (uAt v 0) (pAt v 0))) (innerW lv ar dl v)) (backW dl (joinW l (leadW v.room (uAt v 0) (pAt v 0))))) :=
      (pf_behind F bL oLI' oLI rfl).mpr ((pf_ahead F oL oI'.1 S.I rfl).mpr (pf_pf F (chain_all S.I.ch)))
    have o1 := join_WkOk S.l S.I S.lI
    have e2 : (backW dl (leadW v.room (uAt v 0) (pAt v 0))).room = endR dl (joinW (leadW v.room (uAt v 0) (pAt v 0)) (innerW lv ar dl v)).room (joinW (leadW v.room (uAt v 0) (pAt v 0)) (innerW lv ar dl v)).passes := by
      rw [join_end S.lI, S.hI]
      exact S.lI.symm
    have o2 := join_WkOk o1 b1 e2
    have o3 := join_WkOk c.ol o2 e1
    have o4 := join_WkOk c.ol c.ov c.en
    have k2 : pf lv ar (joinW (joinW l (joinW (joinW (leadW v.room (uAt v 0) (pAt v 0)) (innerW lv ar dl v)) (backW dl (leadW v.room (uAt v 0) (pAt v 0))))) (backW dl l)) = pf lv ar (joinW (joinW l v) (backW dl l)) :=
      (pf_behind F b2 o3 o4 rfl).mpr ((pf_ahead F c.ol o2 c.ov rfl).mpr S.ef)
    rw [k1, jE, k2, c.ef]
  · have h1 := c.len
    have h2 := pf_short (lv := lv) (ar := ar) (w := innerW lv ar dl v)
    show (l.passes ++ [_]).length + _ ≤ _
    rw [List.length_append, List.length_singleton]
    omega
variable (lv ar dl) in
def coreF : Nat → Wk → Wk → Wk × Wk
  | 0, l, v => (l, v)
  | k + 1, l, v => if shutP ar v then coreF k (joinW l (leadW v.room (uAt v 0) (pAt v 0))) (pf lv ar (innerW lv ar dl v)) else (l, v)
theorem coreF_no {k : Nat} {l v : Wk} (h : ¬ shutP ar v) : coreF lv ar dl k l v = (l, v) := by
  cases k with
  | zero => rfl
  | succ k => exact if_neg h
theorem coreF_yes {k : Nat} {l v : Wk} (h : shutP ar v) : coreF lv ar dl (k + 1) l v = coreF lv ar dl k (joinW l (leadW v.room (uAt v 0) (pAt v 0))) (pf lv ar (innerW lv ar dl v)) := if_pos h
theorem inner_len {v : Wk} (h : v.pulls.length = v.passes.length + 1) (hs : shutP ar v) : (pf lv ar (innerW lv ar dl v)).passes.length + 2 ≤ v.passes.length := by
  have h1 := pf_short (lv := lv) (ar := ar) (w := innerW lv ar dl v)
  have h2 : (innerW lv ar dl v).passes.length ≤ v.passes.length - 2 := by
    show ((v.passes.drop 1).take (v.passes.length - 2)).length ≤ _
    exact List.length_take_le _ _
  have := hs.1
  omega
theorem coreF_fuel : ∀ (k j : Nat) (l v : Wk), v.pulls.length = v.passes.length + 1 → v.passes.length ≤ k → v.passes.length ≤ j → coreF lv ar dl k l v = coreF lv ar dl j l v
  | 0, j, l, v, _, h, _ => by rw [coreF_no (k := j) fun q => by have := q.1; omega]; rfl
  | k + 1, 0, l, v, _, _, h => by rw [coreF_no (k := k + 1) fun q => by have := q.1; omega]; rfl
  | k + 1, j + 1, l, v, hl, h1, h2 => by
    by_cases hs : shutP ar v
    · have hi := inner_len (lv := lv) (dl := dl) hl hs
      rw [coreF_yes hs, coreF_yes hs, coreF_fuel k j _ _ (pf_len _) (by omega) (by omega)]
    · rw [coreF_no hs, coreF_no hs]
variable (lv ar dl) in
/-- the lead and the core -/
def coreW (w : Wk) : Wk × Wk := coreF lv ar dl w.passes.length (standW w.room) (pf lv ar w)
theorem core_ok (F : Flip (psOk dl) lv ar) {r : Int} (hg : ∀ p, psOk dl p → 0 ≤ (gat dl p).far ∧ (gat dl p).far < r) {w : Wk} : ∀ (k : Nat) (l v : Wk), v.passes.length ≤ k → CInv lv ar dl r w l v → CInv lv ar dl r w (coreF lv ar dl k l v).1 (coreF lv ar dl k l v).2 ∧ ¬ shutP ar (coreF lv ar dl k l v).2
  | 0, l, v, h, c => ⟨c, fun q => by have := q.1; have : v.passes.length ≤ 0 := h; exact absurd q.1 (by show ¬ 2 ≤ v.passes.length; omega)⟩
  | k + 1, l, v, h, c => by
    by_cases hs : shutP ar v
    · have hi := inner_len (lv := lv) (dl := dl) c.ov.ln hs
      rw [coreF_yes hs]
      exact core_ok F hg k _ _ (by omega) (c.step F hg hs)
    · rw [coreF_no hs]
      exact ⟨c, hs⟩
end
end HD

namespace HD
open PySem PySem.Spec PyProof.Rows L2
/-! ### how many passes cores have -/
section
variable {lv ar : LF} {dl : List Door} {r : Int}
/-- a walk from a room to a room -/
structure Fr (dl : List Door) (r a b : Int) (w : Wk) : Prop where
  ok : WkOk r dl w
  s : w.room = a
  e : endR dl w.room w.passes = b
theorem jn_stand {w : Wk} {a : Int} (hl : w.pulls.length = w.passes.length + 1) : joinW w (standW a) = w := by
  obtain ⟨rm, us, ps⟩ := w
  dsimp only at hl
  obtain ⟨m, x, rfl⟩ := snoc_of (l := us) (fun e => by rw [e] at hl; simp at hl)
  show (⟨rm, joinP (m ++ [x]) [0], ps ++ []⟩ : Wk) = _
  rw [joinP_eq (x := x) (y := 0) (by simp) (by simp), List.append_nil]
  simp
theorem stand_jn {w : Wk} {a : Int} (hl : w.pulls.length = w.passes.length + 1) (e : w.room = a) : joinW (standW a) w = w := by
  obtain ⟨rm, us, ps⟩ := w
  dsimp only at hl e
  subst e
  cases us with
  | nil => simp at hl
  | cons x us =>
    show (⟨rm, (0 + x) :: us, ps⟩ : Wk) = _
    rw [Int.zero_add]
theorem Fr.stand {a : Int} (a0 : 0 ≤ a) (a1 : a < r) : Fr dl r a a (standW a) := ⟨⟨a0, a1, True.intro, rfl⟩, rfl, rfl⟩
section
variable {a b c d : Int} {x y z x' y' : Wk}
theorem Fr.ln (h : Fr dl r a b x) : x.pulls.length = x.passes.length + 1 := h.ok.ln
theorem Fr.ps (h : Fr dl r a b x) : ∀ p ∈ x.passes, psOk dl p := chain_all h.ok.ch
theorem Fr.join (h : Fr dl r a b x) (k : Fr dl r b c y) : Fr dl r a c (joinW x y) := by
  have e : y.room = endR dl x.room x.passes := by rw [k.s, h.e]
  exact ⟨join_WkOk h.ok k.ok e, h.s, by rw [join_end e]; exact k.e⟩
theorem Fr.pf (h : Fr dl r a b x) : Fr dl r a b (pf lv ar x) := ⟨(pf_WkOk h.ok).1, h.s, (pf_WkOk h.ok).2.trans h.e⟩
theorem Fr.back (hg : ∀ p, psOk dl p → 0 ≤ (gat dl p).far ∧ (gat dl p).far < r) (h : Fr dl r a b x) : Fr dl r b a (backW dl x) := ⟨back_WkOk hg h.ok, h.e, by rw [back_end h.ok.ch]; exact h.s⟩
theorem Fr.start (h : Fr dl r a b x) : Fr dl r a a (standW a) := .stand (by rw [← h.s]; exact h.ok.r0) (by rw [← h.s]; exact h.ok.r1)
theorem Fr.fin (h : Fr dl r a b x) (hg : ∀ p, psOk dl p → 0 ≤ (gat dl p).far ∧ (gat dl p).far < r) : Fr dl r b b (standW b) := (h.back hg).start
theorem as3 (h : Fr dl r a b x) (k : Fr dl r b c y) (j : Fr dl r c d z) : joinW (joinW x y) z = joinW x (joinW y z) := join_assoc h.ln k.ln j.ln
theorem Fr.bb (h : Fr dl r a b x) : backW dl (backW dl x) = x := back_back h.ok.ch
theorem Fr.bj (h : Fr dl r a b x) (k : Fr dl r b c y) : backW dl (joinW x y) = joinW (backW dl y) (backW dl x) := back_join (ne_ln h.ln) (ne_ln k.ln) (by rw [k.s, h.e])
variable (F : Flip (psOk dl) lv ar)
include F
theorem Fr.cong (h : Fr dl r a b x) (h' : Fr dl r a b x') (k : Fr dl r b c y) (k' : Fr dl r b c y') (e1 : HD.pf lv ar x = HD.pf lv ar x') (e2 : HD.pf lv ar y = HD.pf lv ar y') : HD.pf lv ar (joinW x y) = HD.pf lv ar (joinW x' y') :=
  pf_join F h.ln k.ln h.ps k.ps h'.ln k'.ln h'.ps k'.ps e1 e2
theorem Fr.inv1 (h : Fr dl r a b x) : HD.pf lv ar (joinW x (backW dl x)) = HD.pf lv ar (standW a) := by
  rw [join_back F h.ok, h.s]; rfl
theorem Fr.inv2 (hg : ∀ p, psOk dl p → 0 ≤ (gat dl p).far ∧ (gat dl p).far < r) (h : Fr dl r a b x) : HD.pf lv ar (joinW (backW dl x) x) = HD.pf lv ar (standW b) := by
  have := (h.back hg).inv1 (lv := lv) (ar := ar) F
  rwa [h.bb] at this
theorem Fr.pp (h : Fr dl r a b x) : HD.pf lv ar (HD.pf lv ar x) = HD.pf lv ar x := pf_pf F h.ps
theorem Fr.cback (h : Fr dl r a b x) (k : Fr dl r a b y) (e : HD.pf lv ar x = HD.pf lv ar y) : HD.pf lv ar (backW dl x) = HD.pf lv ar (backW dl y) := pf_back F h.ok k.ok (by rw [h.e, k.e]) e
end
/-- led along and back -/
def cj (dl : List Door) (g x : Wk) : Wk := joinW (joinW g x) (backW dl g)
def powN (r : Int) (w : Wk) : Nat → Wk
  | 0 => standW r
  | n + 1 => joinW (powN r w n) w
section
variable (hg : ∀ p, psOk dl p → 0 ≤ (gat dl p).far ∧ (gat dl p).far < r) {a b : Int} {g x y : Wk}
theorem Fr.pow (h : Fr dl r a a x) : ∀ n, Fr dl r a a (powN a x n)
  | 0 => h.start
  | n + 1 => (h.pow n).join h
theorem pow_len : ∀ n, (powN a x n).passes.length = n * x.passes.length
  | 0 => by show 0 = _; omega
  | n + 1 => by
    show ((powN a x n).passes ++ x.passes).length = _
    rw [List.length_append, pow_len n, Nat.succ_mul]
theorem Fr.pow_add (h : Fr dl r a a x) (m : Nat) : ∀ n, joinW (powN a x m) (powN a x n) = powN a x (m + n)
  | 0 => jn_stand (h.pow m).ln
  | n + 1 => by
    show joinW _ (joinW _ _) = joinW (powN a x (m + n)) x
    rw [← as3 (h.pow m) (h.pow n) h, h.pow_add m n]
theorem Fr.pow_one (h : Fr dl r a a x) : powN a x 1 = x := stand_jn h.ln h.s
theorem Fr.pow_mul (h : Fr dl r a a x) (t : Nat) : ∀ n, powN a (powN a x t) n = powN a x (t * n)
  | 0 => rfl
  | n + 1 => by
    show joinW (powN a (powN a x t) n) (powN a x t) = _
    rw [h.pow_mul t n, h.pow_add, Nat.mul_succ]
include hg in
theorem Fr.pow_back (h : Fr dl r a a x) : ∀ n, powN a (backW dl x) n = backW dl (powN a x n)
  | 0 => rfl
  | n + 1 => by
    have e : powN a x (n + 1) = joinW x (powN a x n) := by
      have := h.pow_add 1 n
      rw [h.pow_one, Nat.add_comm] at this
      exact this.symm
    rw [e, h.bj (h.pow n), ← h.pow_back n]; rfl
include hg in
theorem Fr.cj (h : Fr dl r b a g) (k : Fr dl r a a x) : Fr dl r b b (cj dl g x) := (h.join k).join (h.back hg)
theorem cj_len : (HD.cj dl g x).passes.length = x.passes.length + 2 * g.passes.length := by
  show ((g.passes ++ x.passes) ++ (g.passes.reverse).map bk).length = _
  simp only [List.length_append, List.length_map, List.length_reverse]
  omega
variable (F : Flip (psOk dl) lv ar)
include F
theorem Fr.pow_cong (h : Fr dl r a a x) (k : Fr dl r a a y) (e : HD.pf lv ar x = HD.pf lv ar y) : ∀ n, HD.pf lv ar (powN a x n) = HD.pf lv ar (powN a y n)
  | 0 => rfl
  | n + 1 => (h.pow n).cong F (k.pow n) h k (h.pow_cong k e n) e
include hg
theorem Fr.cj_cong (h : Fr dl r b a g) (k : Fr dl r a a x) (k' : Fr dl r a a y) (e : HD.pf lv ar x = HD.pf lv ar y) : HD.pf lv ar (HD.cj dl g x) = HD.pf lv ar (HD.cj dl g y) :=
  (h.join k).cong F (h.join k') (h.back hg) (h.back hg) (h.cong F h k k' rfl e) rfl
theorem cj_mul (h : Fr dl r b a g) (k : Fr dl r a a x) (j : Fr dl r a a y) : pf lv ar (joinW (cj dl g x) (cj dl g y)) = pf lv ar (cj dl g (joinW x y)) := by
  have hb := h.back hg
  unfold cj
  rw [as3 (h.join k) hb ((h.join j).join hb), ← as3 hb (h.join j) hb, ← as3 hb h j]
  have e1 : pf lv ar (joinW (joinW (backW dl g) g) y) = pf lv ar y := by
    have := (hb.join h).cong F (h.fin hg) j j (x' := standW a) (h.inv2 F hg) rfl
    rwa [stand_jn j.ln j.s] at this
  have e2 := ((hb.join h).join j).cong F j hb hb e1 rfl
  have e3 := (h.join k).cong F (h.join k) (((hb.join h).join j).join hb) (j.join hb) rfl e2
  rw [e3, ← as3 (h.join k) j hb, as3 h k j]
theorem cj_pow (h : Fr dl r b a g) (k : Fr dl r a a x) : ∀ n, pf lv ar (powN b (cj dl g x) n) = pf lv ar (cj dl g (powN a x n))
  | 0 => by
    show pf lv ar (standW b) = pf lv ar (joinW (joinW g (standW a)) (backW dl g))
    rw [jn_stand h.ln]
    exact (h.inv1 F).symm
  | n + 1 => by
    have h0 := h.cj hg k
    rw [← show pf lv ar (joinW (cj dl g (powN a x n)) (cj dl g x)) = pf lv ar (cj dl g (powN a x (n + 1))) from cj_mul hg F h (k.pow n) k]
    exact (h0.pow n).cong F (h.cj hg (k.pow n)) h0 h0 (cj_pow h k n) rfl
/-- what is led along and back, back again -/
theorem cj_undo (h : Fr dl r b a g) (k : Fr dl r a a x) : pf lv ar (cj dl (backW dl g) (cj dl g x)) = pf lv ar x := by
  have hb := h.back hg
  have e0 : backW dl (backW dl g) = g := h.bb
  unfold cj
  rw [e0, as3 hb ((h.join k).join hb) h, as3 (h.join k) hb h]
  have e1 : pf lv ar (joinW (joinW g x) (joinW (backW dl g) g)) = pf lv ar (joinW g x) := by
    have := (h.join k).cong F (h.join k) (hb.join h) (h.fin hg) (y' := standW a) rfl (h.inv2 F hg)
    rwa [jn_stand (h.join k).ln] at this
  have e2 := hb.cong F hb ((h.join k).join (hb.join h)) (h.join k) rfl e1
  rw [e2, ← as3 hb h k]
  have := (hb.join h).cong F (h.fin hg) k k (x' := standW a) (h.inv2 F hg) rfl
  rwa [stand_jn k.ln k.s] at this
theorem cj_short (h : Fr dl r b a g) (k : Fr dl r a a x) : (pf lv ar (cj dl g x)).passes.length ≤ (pf lv ar x).passes.length + 2 * g.passes.length := by
  rw [h.cj_cong hg F k (k.pf (lv := lv) (ar := ar)) (k.pp F).symm]
  have := pf_short (lv := lv) (ar := ar) (w := cj dl g (pf lv ar x))
  rwa [cj_len] at this
theorem back_short (k : Fr dl r a b x) : (pf lv ar (backW dl x)).passes.length ≤ (pf lv ar x).passes.length := by
  rw [k.cback F (k.pf (lv := lv) (ar := ar)) (k.pp F).symm]
  have := pf_short (lv := lv) (ar := ar) (w := backW dl (pf lv ar x))
  have e : (backW dl (pf lv ar x)).passes.length = (pf lv ar x).passes.length := by
    show ((pf lv ar x).passes.reverse.map bk).length = _
    rw [List.length_map, List.length_reverse]
  omega
end
/-! spots of walks joined -/
theorem getD_l {α : Type} {l m : List α} {d : α} {j : Nat} (h : j < l.length) : (l ++ m).getD j d = l.getD j d := by
  rw [List.getD_eq_getElem?_getD, List.getD_eq_getElem?_getD, List.getElem?_append_left h]
theorem getD_r {α : Type} {l m : List α} {d : α} {j : Nat} (h : l.length ≤ j) : (l ++ m).getD j d = m.getD (j - l.length) d := by
  rw [List.getD_eq_getElem?_getD, List.getD_eq_getElem?_getD, List.getElem?_append_right h]
theorem join_p {x y : Wk} (j : Nat) : pAt (joinW x y) j = if j < x.passes.length then pAt x j else pAt y (j - x.passes.length) := by
  show (x.passes ++ y.passes).getD j (0, 0) = _
  split
  · rw [getD_l (by assumption)]; rfl
  · rw [getD_r (by omega)]; rfl
theorem join_u {x y : Wk} (hx : x.pulls.length = x.passes.length + 1) (hy : y.pulls.length = y.passes.length + 1) (j : Nat) : uAt (joinW x y) j = if j < x.passes.length then uAt x j else if j = x.passes.length then uAt x x.passes.length + uAt y 0 else uAt y (j - x.passes.length) := by
  obtain ⟨m, u, e1⟩ := snoc_of (l := x.pulls) (ne_ln hx)
  obtain ⟨v, t, e2⟩ : ∃ v t, y.pulls = v :: t := by
    cases e : y.pulls with
    | nil => exact absurd e (ne_ln hy)
    | cons v t => exact ⟨v, t, rfl⟩
  have hm : m.length = x.passes.length := by rw [e1] at hx; simpa using hx
  show (joinP x.pulls y.pulls).getD j 0 = _
  rw [joinP_eq (x := u) (y := v) (by rw [e1]; simp) (by rw [e2]; simp), e1, e2]
  simp only [List.dropLast_concat, List.tail_cons]
  have xu : ∀ i, uAt x i = (m ++ [u]).getD i 0 := fun i => by unfold uAt; rw [e1]
  have yu : ∀ i, uAt y i = (v :: t).getD i 0 := fun i => by unfold uAt; rw [e2]
  rw [xu, xu, yu, yu, ← hm]
  by_cases h1 : j < m.length
  · rw [if_pos h1, getD_l h1, getD_l h1]
  · rw [if_neg h1, getD_r (by omega)]
    by_cases h2 : j = m.length
    · rw [if_pos h2, h2]; simp
    · rw [if_neg h2]
      obtain ⟨i, hi⟩ : ∃ i, j - m.length = i + 1 := ⟨j - m.length - 1, by omega⟩
      rw [hi]
      simp
def seam (ar : LF) (x y : Wk) : Prop := (1 ≤ x.passes.length ∧ 1 ≤ y.passes.length) ∧ pAt y 0 = bk (pAt x (x.passes.length - 1)) ∧ ar (pAt x (x.passes.length - 1)) ∣ uAt x x.passes.length + uAt y 0
theorem join_n (x y : Wk) : (joinW x y).passes.length = x.passes.length + y.passes.length := List.length_append
theorem join_spot {x y : Wk} (hx : x.pulls.length = x.passes.length + 1) (hy : y.pulls.length = y.passes.length + 1) (i : Nat) : spot ar (joinW x y) i ↔ (i + 1 < x.passes.length ∧ spot ar x i) ∨ (i + 1 = x.passes.length ∧ seam ar x y) ∨ (x.passes.length ≤ i ∧ spot ar y (i - x.passes.length)) := by
  unfold spot turn
  rw [join_n, join_p, join_p, join_u hx hy]
  by_cases h1 : i + 1 < x.passes.length
  · rw [if_pos h1, if_pos (by omega), if_pos h1]
    constructor
    · rintro ⟨⟨_, q1⟩, q2⟩
      exact .inl ⟨h1, ⟨h1, q1⟩, q2⟩
    · rintro (⟨_, ⟨_, q1⟩, q2⟩ | ⟨q, _⟩ | ⟨q, _⟩)
      · exact ⟨⟨by omega, q1⟩, q2⟩
      · omega
      · omega
  · by_cases h2 : i + 1 = x.passes.length
    · rw [if_neg h1, if_pos (by omega), if_neg h1, if_pos h2, h2, Nat.sub_self]
      have e : x.passes.length - 1 = i := by omega
      unfold seam
      rw [e]
      constructor
      · rintro ⟨⟨q0, q1⟩, q2⟩
        exact .inr (.inl ⟨rfl, ⟨by omega, by omega⟩, q1, q2⟩)
      · rintro (⟨q, _⟩ | ⟨_, ⟨_, q0⟩, q1, q2⟩ | ⟨q, _⟩)
        · omega
        · exact ⟨⟨by omega, q1⟩, q2⟩
        · omega
    · rw [if_neg h1, if_neg (by omega), if_neg h1, if_neg h2, show i + 1 - x.passes.length = i - x.passes.length + 1 by omega]
      constructor
      · rintro ⟨⟨q0, q1⟩, q2⟩
        exact .inr (.inr ⟨by omega, ⟨by omega, q1⟩, q2⟩)
      · rintro (⟨q, _⟩ | ⟨q, _⟩ | ⟨_, ⟨q0, q1⟩, q2⟩)
        · omega
        · omega
        · exact ⟨⟨by omega, q1⟩, q2⟩
theorem join_noS {x y : Wk} (hx : x.pulls.length = x.passes.length + 1) (hy : y.pulls.length = y.passes.length + 1) : (∀ i, ¬ spot ar (joinW x y) i) ↔ (∀ i, ¬ spot ar x i) ∧ (∀ i, ¬ spot ar y i) ∧ ¬ seam ar x y := by
  constructor
  · intro h
    refine ⟨fun i q => h i ((join_spot hx hy i).mpr (.inl ⟨q.1.1, q⟩)), fun i q => h (x.passes.length + i) ((join_spot hx hy _).mpr (.inr (.inr ⟨by omega, by rw [Nat.add_sub_cancel_left]; exact q⟩))), fun q => h (x.passes.length - 1) ((join_spot hx hy _).mpr (.inr (.inl ⟨?_, q⟩)))⟩
    have := q.1.1
    omega
  · rintro ⟨h1, h2, h3⟩ i q
    rcases (join_spot hx hy i).mp q with ⟨_, q⟩ | ⟨_, q⟩ | ⟨_, q⟩
    · exact h1 i q
    · exact h3 q
    · exact h2 _ q
theorem seam_l {x y z : Wk} (hx : x.pulls.length = x.passes.length + 1) (hy : y.pulls.length = y.passes.length + 1) (h : 1 ≤ y.passes.length) : seam ar (joinW x y) z ↔ seam ar y z := by
  unfold seam
  rw [join_n, join_p, join_u hx hy, if_neg (by omega), if_neg (by omega), if_neg (by omega), show x.passes.length + y.passes.length - 1 - x.passes.length = y.passes.length - 1 by omega, Nat.add_sub_cancel_left]
  exact ⟨fun q => ⟨⟨h, q.1.2⟩, q.2⟩, fun q => ⟨⟨by omega, q.1.2⟩, q.2⟩⟩
theorem seam_r {x y z : Wk} (hy : y.pulls.length = y.passes.length + 1) (hz : z.pulls.length = z.passes.length + 1) (h : 1 ≤ y.passes.length) : seam ar x (joinW y z) ↔ seam ar x y := by
  unfold seam
  rw [join_n, join_p, join_u hy hz, if_pos (by omega), if_pos (by omega)]
  exact ⟨fun q => ⟨⟨q.1.1, h⟩, q.2⟩, fun q => ⟨⟨q.1.1, by omega⟩, q.2⟩⟩
theorem seam_self {x : Wk} (hp : ∀ p ∈ x.passes, psOk dl p) (h : seam ar x x) : shutP ar x := by
  refine ⟨?_, h.2⟩
  rcases Nat.lt_or_ge x.passes.length 2 with q | q
  · have h1 := h.1.1
    have e : x.passes.length = 1 := by omega
    have h2 := h.2.1
    rw [e] at h2
    have ok := hp (pAt x 0) (List.mem_of_getElem? (pAt_some (by omega)))
    have h3 : (pAt x 0).2 = 1 - (pAt x 0).2 := congrArg Prod.snd h2
    have := ok.2
    omega
  · exact q
theorem noS_len (F : Flip (psOk dl) lv ar) {x : Wk} (hl : x.pulls.length = x.passes.length + 1) (hp : ∀ p ∈ x.passes, psOk dl p) : (∀ i, ¬ spot ar x i) ↔ (pf lv ar x).passes.length = x.passes.length := by
  constructor
  · intro h
    rw [nospot_passes F hl hp h]
  · intro h i q
    have e := short_pf F hl hp q
    have h1 := pf_short (lv := lv) (ar := ar) (w := shortW lv ar x i)
    rw [e, short_len q.1, h] at h1
    have := q.1.1
    omega
theorem inner_noS {v : Wk} (hl : v.pulls.length = v.passes.length + 1) (hs : shutP ar v) (h : ∀ i, ¬ spot ar v i) : ∀ i, ¬ spot ar (innerW lv ar dl v) i := by
  intro i q
  have h2 := hs.1
  have len : (innerW lv ar dl v).passes.length = v.passes.length - 2 := by
    show ((v.passes.drop 1).take (v.passes.length - 2)).length = _
    rw [List.length_take, List.length_drop]; omega
  obtain ⟨⟨q0, q1⟩, q2⟩ := q
  rw [len] at q0
  have hp : ∀ j, j < v.passes.length - 2 → pAt (innerW lv ar dl v) j = pAt v (j + 1) := fun j hj => by
    show ((v.passes.drop 1).take (v.passes.length - 2)).getD j (0, 0) = v.passes.getD (j + 1) (0, 0)
    rw [List.getD_eq_getElem?_getD, List.getD_eq_getElem?_getD, List.getElem?_take, if_pos hj, List.getElem?_drop, Nat.add_comm 1 j]
  have hu : ∀ j, j < v.passes.length - 2 → uAt (innerW lv ar dl v) j = uAt v (j + 1) := fun j hj => by
    show ((v.pulls.drop 1).take (v.passes.length - 2) ++ [_]).getD j 0 = v.pulls.getD (j + 1) 0
    rw [getD_l (by rw [List.length_take, List.length_drop]; omega), List.getD_eq_getElem?_getD, List.getD_eq_getElem?_getD, List.getElem?_take, if_pos hj, List.getElem?_drop, Nat.add_comm 1 j]
  rw [hp _ q0, hp i (by omega)] at q1
  rw [hu _ q0, hp i (by omega)] at q2
  exact h (i + 1) ⟨⟨by omega, q1⟩, q2⟩
/-! what grows by so many with each step -/
def Grow (f : Nat → Nat) (k : Nat) : Prop := ∃ M, ∀ n, n * k ≤ f n + M ∧ f n ≤ n * k + M
theorem Grow.le {f g : Nat → Nat} {k j C : Nat} (hf : Grow f k) (hg : Grow g j) (h : ∀ n, f n ≤ g n + C) : k ≤ j := by
  obtain ⟨M, hM⟩ := hf
  obtain ⟨N, hN⟩ := hg
  rcases Nat.lt_or_ge j k with q | q
  · have h1 := (hM (M + N + C + 1)).1
    have h2 := (hN (M + N + C + 1)).2
    have h3 := h (M + N + C + 1)
    have h4 : (M + N + C + 1) * (j + 1) ≤ (M + N + C + 1) * k := Nat.mul_le_mul_left _ q
    rw [Nat.mul_succ] at h4
    omega
  · exact q
theorem Grow.eq {f g : Nat → Nat} {k j C : Nat} (hf : Grow f k) (hg : Grow g j) (h : ∀ n, f n ≤ g n + C) (h' : ∀ n, g n ≤ f n + C) : k = j := Nat.le_antisymm (hf.le hg h) (hg.le hf h')
/-- passes of the plain forms of powers -/
def pl (lv ar : LF) (a : Int) (w : Wk) (n : Nat) : Nat := (pf lv ar (powN a w n)).passes.length
/-- the core and its lead -/
structure Cor (lv ar : LF) (dl : List Door) (r : Int) (w l c : Wk) : Prop where
  I : CInv lv ar dl r w l c
  ns : ¬ shutP ar c
  ln : 2 * l.passes.length + c.passes.length = (pf lv ar w).passes.length
theorem core_ln (F : Flip (psOk dl) lv ar) (hg : ∀ p, psOk dl p → 0 ≤ (gat dl p).far ∧ (gat dl p).far < r) {w : Wk} : ∀ (k : Nat) (l v : Wk), CInv lv ar dl r w l v → 2 * l.passes.length + v.passes.length = (pf lv ar w).passes.length → 2 * (coreF lv ar dl k l v).1.passes.length + (coreF lv ar dl k l v).2.passes.length = (pf lv ar w).passes.length
  | 0, l, v, c, h => h
  | k + 1, l, v, c, h => by
    by_cases hs : shutP ar v
    · rw [coreF_yes hs]
      refine core_ln F hg k _ _ (c.step F hg hs) ?_
      have S := shut_ok (lv := lv) F hg c.ov hs
      have nv : ∀ i, ¬ spot ar v i := (noS_len F c.ov.ln (chain_all c.ov.ch)).mpr (by rw [c.pl])
      have e := (noS_len F S.I.ln (chain_all S.I.ch)).mp (inner_noS c.ov.ln hs nv)
      have := S.len
      rw [join_n, e]
      show 2 * (l.passes.length + 1) + _ = _
      omega
    · rw [coreF_no hs]; exact h
theorem cor_of (F : Flip (psOk dl) lv ar) (hg : ∀ p, psOk dl p → 0 ≤ (gat dl p).far ∧ (gat dl p).far < r) {w : Wk} (o : WkOk r dl w) (hh : endR dl w.room w.passes = w.room) : Cor lv ar dl r w (coreW lv ar dl w).1 (coreW lv ar dl w).2 := by
  obtain ⟨h1, h2⟩ := core_ok F hg w.passes.length _ _ pf_short (CInv.init F o hh)
  exact ⟨h1, h2, core_ln F hg _ _ _ (CInv.init F o hh) (by show 2 * 0 + _ = _; omega)⟩
section
variable (F : Flip (psOk dl) lv ar) (hg : ∀ p, psOk dl p → 0 ≤ (gat dl p).far ∧ (gat dl p).far < r) {w l c : Wk}
theorem Cor.fl (C : Cor lv ar dl r w l c) : Fr dl r w.room c.room l := ⟨C.I.ol, C.I.rm, C.I.en.symm⟩
theorem Cor.fc (C : Cor lv ar dl r w l c) : Fr dl r c.room c.room c := ⟨C.I.ov, rfl, C.I.hv⟩
theorem Cor.ecj (C : Cor lv ar dl r w l c) : pf lv ar (cj dl l c) = pf lv ar w := C.I.ef
include F in
theorem Cor.noS (C : Cor lv ar dl r w l c) : ∀ i, ¬ spot ar c i := (noS_len F C.fc.ln C.fc.ps).mpr (by rw [C.I.pl])
include F hg in
theorem Cor.noL (C : Cor lv ar dl r w l c) : ∀ i, ¬ spot ar (cj dl l c) i := by
  have h := C.fl.cj hg C.fc
  exact (noS_len F h.ln h.ps).mpr (by rw [C.ecj, cj_len, ← C.ln]; omega)
theorem Cor.nse (C : Cor lv ar dl r w l c) : ¬ seam ar c c := fun q => C.ns (seam_self C.fc.ps q)
include F in
theorem Cor.pow_noS (C : Cor lv ar dl r w l c) : ∀ n, ∀ i, ¬ spot ar (powN c.room c n) i
  | 0 => fun i q => by have : i + 1 < 0 := q.1.1; omega
  | n + 1 => by
    refine (join_noS (C.fc.pow n).ln C.fc.ln).mpr ⟨C.pow_noS n, C.noS F, fun q => ?_⟩
    cases n with
    | zero => have : 1 ≤ 0 := q.1.1; omega
    | succ n => exact C.nse ((seam_l (C.fc.pow n).ln C.fc.ln q.1.2).mp q)
include F hg
theorem Cor.grow (C : Cor lv ar dl r w l c) (h : Fr dl r w.room w.room w) : Grow (pl lv ar w.room w) c.passes.length := by
  refine ⟨2 * l.passes.length, fun n => ?_⟩
  have hp := C.fc.pow n
  have e1 : pf lv ar (powN w.room w n) = pf lv ar (cj dl l (powN c.room c n)) := by
    rw [← cj_pow hg F C.fl C.fc n]
    exact h.pow_cong F (C.fl.cj hg C.fc) C.ecj.symm n
  have e2 : (pf lv ar (powN c.room c n)).passes.length = n * c.passes.length := by
    rw [(noS_len F hp.ln hp.ps).mp (C.pow_noS F n), pow_len]
  unfold pl
  constructor
  · rw [← e2, ← cj_undo hg F C.fl hp]
    have h3 := cj_short hg F (C.fl.back hg) (C.fl.cj hg hp)
    have e : (backW dl l).passes.length = l.passes.length := by
      show ((l.passes.reverse).map bk).length = _
      rw [List.length_map, List.length_reverse]
    rw [e, ← e1] at h3
    exact h3
  · have h3 := cj_short hg F C.fl hp
    rw [← e1, e2] at h3
    exact h3
/-- by the plain forms of the walk and of it done twice -/
theorem Cor.due (C : Cor lv ar dl r w l c) (h : Fr dl r w.room w.room w) : (c.passes.length : Int) = if ((pf lv ar (joinW w w)).passes.length : Int) - (pf lv ar w).passes.length > 0 then ((pf lv ar (joinW w w)).passes.length : Int) - (pf lv ar w).passes.length else 0 := by
  have hcj := C.fl.cj hg C.fc
  have e1 : pf lv ar (joinW w w) = pf lv ar (cj dl l (joinW c c)) := by
    rw [← cj_mul hg F C.fl C.fc C.fc]
    exact h.cong F hcj h hcj C.ecj.symm C.ecj.symm
  have hln := C.ln
  have hb := C.fl.back hg
  rcases Nat.eq_zero_or_pos c.passes.length with q | q
  · have h2 := pf_short (lv := lv) (ar := ar) (w := cj dl l (joinW c c))
    rw [← e1, cj_len, join_n, q] at h2
    rw [if_neg (by omega)]
    omega
  · have e3 : cj dl l (joinW c c) = joinW (joinW l c) (joinW c (backW dl l)) := by
      unfold cj
      rw [← as3 C.fl C.fc C.fc, as3 (C.fl.join C.fc) C.fc hb]
    have n0 := C.noL F hg
    have n1 := ((join_noS (C.fl.join C.fc).ln hb.ln).mp n0).1
    have n2 : ∀ i, ¬ spot ar (joinW c (backW dl l)) i := by
      unfold cj at n0
      rw [as3 C.fl C.fc hb] at n0
      exact ((join_noS C.fl.ln (C.fc.join hb).ln).mp n0).2.1
    have n3 : ∀ i, ¬ spot ar (cj dl l (joinW c c)) i := by
      rw [e3]
      refine (join_noS (C.fl.join C.fc).ln (C.fc.join hb).ln).mpr ⟨n1, n2, fun z => C.nse ?_⟩
      exact (seam_r C.fc.ln hb.ln q).mp ((seam_l C.fl.ln C.fc.ln q).mp z)
    have hcc := C.fl.cj hg (C.fc.join C.fc)
    have e4 := (noS_len F hcc.ln hcc.ps).mp n3
    rw [← e1, cj_len, join_n] at e4
    rw [if_pos (by omega)]
    omega
end
variable (lv ar dl) in
def nst (w : Wk) : Nat := (coreW lv ar dl w).2.passes.length
section
variable (F : Flip (psOk dl) lv ar) (hg : ∀ p, psOk dl p → 0 ≤ (gat dl p).far ∧ (gat dl p).far < r) {a b : Int} {w g x : Wk}
include F hg
theorem Fr.cor (h : Fr dl r a a w) : Cor lv ar dl r w (coreW lv ar dl w).1 (coreW lv ar dl w).2 := cor_of F hg h.ok (by rw [h.e, h.s])
theorem Fr.grow (h : Fr dl r a a w) : Grow (pl lv ar a w) (nst lv ar dl w) := by
  have e := h.s
  subst e
  exact (h.cor F hg).grow F hg h
theorem steps_due (h : Fr dl r a a w) : (nst lv ar dl w : Int) = if ((pf lv ar (joinW w w)).passes.length : Int) - (pf lv ar w).passes.length > 0 then ((pf lv ar (joinW w w)).passes.length : Int) - (pf lv ar w).passes.length else 0 := by
  have e := h.s
  subst e
  exact (h.cor F hg).due F hg h
theorem steps_cj (h : Fr dl r b a g) (k : Fr dl r a a x) (j : Fr dl r b b w) (e : pf lv ar (cj dl g x) = pf lv ar w) : nst lv ar dl x = nst lv ar dl w := by
  have e1 : ∀ n, pf lv ar (powN b w n) = pf lv ar (cj dl g (powN a x n)) := fun n => by
    rw [← cj_pow hg F h k n]
    exact j.pow_cong F (h.cj hg k) e.symm n
  have eb : (backW dl g).passes.length = g.passes.length := by
    show ((g.passes.reverse).map bk).length = _
    rw [List.length_map, List.length_reverse]
  refine (k.grow F hg).eq (j.grow F hg) (C := 2 * g.passes.length) (fun n => ?_) fun n => ?_
  · show (pf lv ar (powN a x n)).passes.length ≤ (pf lv ar (powN b w n)).passes.length + _
    rw [e1, ← cj_undo hg F h (k.pow n)]
    have := cj_short hg F (h.back hg) (h.cj hg (k.pow n))
    rwa [eb] at this
  · show (pf lv ar (powN b w n)).passes.length ≤ (pf lv ar (powN a x n)).passes.length + _
    rw [e1]
    exact cj_short hg F h (k.pow n)
theorem steps_back (h : Fr dl r a a w) : nst lv ar dl (backW dl w) = nst lv ar dl w := by
  have hb := h.back hg
  refine (hb.grow F hg).eq (h.grow F hg) (C := 0) (fun n => ?_) fun n => ?_
  · show (pf lv ar (powN a (backW dl w) n)).passes.length ≤ (pf lv ar (powN a w n)).passes.length + 0
    rw [h.pow_back hg]
    exact back_short hg F (h.pow n)
  · show (pf lv ar (powN a w n)).passes.length ≤ (pf lv ar (powN a (backW dl w) n)).passes.length + 0
    have e : powN a w n = backW dl (powN a (backW dl w) n) := by
      rw [← hb.pow_back hg, h.bb]
    rw [e]
    exact back_short hg F (hb.pow n)
theorem steps_pow (h : Fr dl r a a w) (t : Nat) : nst lv ar dl (powN a w t) = t * nst lv ar dl w := by
  obtain ⟨M, hM⟩ := h.grow F hg
  have g2 : Grow (fun n => pl lv ar a w (t * n)) (t * nst lv ar dl w) := ⟨M, fun n => by
    have := hM (t * n)
    rw [show n * (t * nst lv ar dl w) = t * n * nst lv ar dl w by rw [← Nat.mul_assoc, Nat.mul_comm n t]]
    exact this⟩
  have e : ∀ n, pl lv ar a (powN a w t) n = pl lv ar a w (t * n) := fun n => by
    unfold pl
    rw [h.pow_mul]
  exact ((h.pow t).grow F hg).eq g2 (C := 0) (fun n => by rw [e]; exact Nat.le_refl _) fun n => by rw [e]; exact Nat.le_refl _
end
end
end HD

namespace HD
open PySem PySem.Spec PyProof.Rows L2
/-! ### a law's end where it is known that no guard stands about the call (repr) -/
/-- the promise of a def that is called from outside: no frames, no guards -/
structure RunG (P : Program) (w : World) (K : PySem.W.Frag) (mg : Str → Option Value) (base : Heap) (f : Addr) (fd : FuncData) (x : Str) (sp : Sp) : Prop where
  run : ∀ (s : Shared) (H : Hp) (u : Value) (v : L2.V) (Q : VK) (E : XK), Env0 P w K mg base callerA [] s H → BindsTo s fd ⟨[u], []⟩ [(x, u)] → RelV v u → sp [v] H Q E →
    codeAny (model P w) callerA (.call (.ref f) ⟨[u], []⟩) (CR (L2.CX P w) [] P w H s Q E) s
/-- tables and the script, nothing else is tracked -/
def startH (T : List Addr) (a : Addr) (free : Bool) (vs : List Value) (ns : List Int) : Hp := fun b =>
  if b ∈ T then some (.tbl #[]) else if b = a ∧ free = true then some (.frz { cls := .type "list", data := .seq vs.toArray } (.lst (ns.map L2.V.int))) else none
section
variable {T : List Addr} {a b : Addr} {free : Bool} {vs : List Value} {ns : List Int}
theorem startH_T (h : b ∈ T) : startH T a free vs ns b = some (.tbl #[]) := if_pos h
theorem startH_a (h : a ∉ T) : startH T a true vs ns a = some (.frz { cls := .type "list", data := .seq vs.toArray } (.lst (ns.map L2.V.int))) := by
  unfold startH; rw [if_neg h, if_pos ⟨rfl, rfl⟩]
theorem startH_no (h : b ∉ T) (h2 : b ≠ a ∨ free = false) : startH T a free vs ns b = none := by
  unfold startH
  rw [if_neg h, if_neg]
  rintro ⟨h3, h4⟩
  rcases h2 with h2 | h2
  · exact h2 h3
  · rw [h2] at h4; cases h4
theorem startH_cases {u : HO} (h : startH T a free vs ns b = some u) : (b ∈ T ∧ u = .tbl #[]) ∨ (b ∉ T ∧ b = a ∧ free = true ∧ u = .frz { cls := .type "list", data := .seq vs.toArray } (.lst (ns.map L2.V.int))) := by
  by_cases h1 : b ∈ T
  · rw [startH_T h1] at h; cases h; exact .inl ⟨h1, rfl⟩
  · by_cases h2 : b = a ∧ free = true
    · obtain ⟨rfl, rfl⟩ := h2
      rw [startH_a h1] at h; cases h; exact .inr ⟨h1, rfl, rfl, rfl⟩
    · have : startH T a free vs ns b = none := by unfold startH; rw [if_neg h1, if_neg h2]
      rw [this] at h; cases h
end
theorem law_endG {P : Program} {w : World} {K : PySem.W.Frag} {mg mb : Str → Option Value} {fa a : Addr} {cs : List (Addr × Addr)} {fd : FuncData} {x : Str} {sp : Sp} {s1 : Shared} {vs : List Value} {ns : List Int}
    (KX : K.In s1.heap) (hns : s1.heap.Ns mainGlobals mg) (hb : s1.heap.Ns builtinsNs mb) (hbb : ∀ x : Str, x ≠ "__name__" → mb x = bootBuiltins x) (hlim : s1.heap.NoLimit) (hg : s1.gens = #[])
    (hT : ∀ p ∈ cs, s1.heap.get? p.2 = some { cls := .none, data := .fields #[] }) (nT : ∀ p ∈ cs, K.lookup p.2 = none) (C : ∀ p ∈ cs, PySem.W.CodeHd s1.heap p.1 p.2)
    (hbm : ∃ (bm : Addr) (ob : Obj), mg "__builtins__" = some (.ref bm) ∧ bm ≠ builtinsNs ∧ s1.heap.get? bm = some ob ∧ ob.cls = .type "module" ∧ ob.dict = some builtinsNs ∧ ob.data = .plain)
    (ha : s1.heap.get? a = some { cls := .type "list", data := .seq vs.toArray }) (hi : IntsAre vs ns) (hl : ns.length ≤ sizeLine)
    (F : ∀ base : Heap, K.In base → base.Ns mainGlobals mg → (∀ p ∈ cs, LamX.TabB base mg p.1 p.2) → RunG P w K mg base fa fd x sp) (hbind : ∀ (s : Shared) (u : Value), BindsTo s fd ⟨[u], []⟩ [(x, u)])
    (hsp : ∀ H : Hp, (∀ p ∈ cs, H p.2 = some (.tbl #[])) → SqL K H a (ns.map L2.V.int) → sp [.ref a] H (fun v _ => v = .bl true) fun _ _ _ => False) :
    codeAny (model P w) callerA (.call (.ref fa) ⟨[.ref a], []⟩) (fun r s' => r = .ok (.ret (.bool true)) ∧ OldK s1.heap s'.heap ∧ s'.os = s1.os ∧ AllBare s'.gens) s1 := by
  have rv := vals_ints hi
  have tab : ∀ b, b ∈ cs.map (·.2) → s1.heap.get? b = some { cls := .none, data := .fields #[] } := fun b h => by
    obtain ⟨p, hp, rfl⟩ := List.mem_map.mp h
    exact hT p hp
  have aT : a ∉ cs.map (·.2) := fun h => by
    have := tab a h
    rw [ha] at this
    have e2 := congrArg Obj.data (Option.some.inj this)
    cases e2
  obtain ⟨free, hfree⟩ : ∃ free : Bool, (free = true ∧ K.lookup a = none) ∨ (free = false ∧ ∃ o, K.lookup a = some o) := by
    cases h : K.lookup a with
    | none => exact ⟨true, .inl ⟨rfl, rfl⟩⟩
    | some o => exact ⟨false, .inr ⟨rfl, o, rfl⟩⟩
  obtain ⟨H, eH⟩ : ∃ H, H = startH (cs.map (·.2)) a free vs ns := ⟨_, rfl⟩
  have HT : ∀ p ∈ cs, H p.2 = some (.tbl #[]) := fun p hp => by rw [eH]; exact startH_T (List.mem_map.mpr ⟨p, hp, rfl⟩)
  have HS : SqL K H a (ns.map L2.V.int) := by
    rcases hfree with ⟨rfl, _⟩ | ⟨rfl, o, ho⟩
    · exact .inl (.inr ⟨_, by rw [eH]; exact startH_a aT⟩)
    · have := KX a o ho
      rw [ha] at this
      cases this
      exact .inr ⟨_, vs.toArray, _, ho, rfl, rfl, rfl, by rw [List.size_toArray, hi.length]; exact hl, by simpa using rv⟩
  have hok : HOk P w H s1.heap := fun b u e => by
    rw [eH] at e
    rcases startH_cases e with ⟨hb, rfl⟩ | ⟨_, rfl, _, rfl⟩
    · exact tab b hb
    · exact ⟨ha, by rw [List.length_map]; exact hl, vs, _, rv, ha⟩
  -- what is neither the script nor a table is not tracked
  have un : ∀ {b : Addr} {o : Obj}, s1.heap.get? b = some o → (∀ ws n, o.data ≠ .seq ws n) → o.data ≠ .fields #[] → H b = none := fun {b o} e h1 h2 => by
    rw [eH]
    refine startH_no (fun hb => ?_) (.inl fun hb => ?_)
    · have := tab b hb
      rw [e] at this
      cases this
      exact h2 rfl
    · rw [hb, ha] at e
      cases e
      exact h1 _ _ rfl
  have unD : ∀ {b : Addr} {o : Obj} {es : Array DictEntry} {ep : Nat}, s1.heap.get? b = some o → o.data = .dict es ep → H b = none := fun e d =>
    un e (fun ws n z => by rw [d] at z; cases z) fun z => by rw [d] at z; cases z
  have onNs : ∀ {b : Addr} {m : Str → Option Value}, s1.heap.Ns b m → (hidT s1.heap H).Ns b m := fun ⟨o, es, ep, e, d, q⟩ => ⟨o, es, ep, hidT_get e (unD e d), d, q⟩
  have onK : K.In (hidT s1.heap H) := fun b o e => hidT_get (KX b o e) (by
    rw [eH]
    refine startH_no (fun hb => ?_) ?_
    · obtain ⟨p, hp, rfl⟩ := List.mem_map.mp hb
      rw [nT p hp] at e
      cases e
    · rcases hfree with ⟨_, h⟩ | ⟨h, _⟩
      · exact .inl fun z => by rw [z, h] at e; cases e
      · exact .inr h)
  have onM : Mod K mg (hidT s1.heap H) := ⟨onK, onNs hns, ⟨mb, onNs hb, hbb⟩, hlim.elim fun mc h => ⟨mc, onNs h.1, h.2⟩⟩
  have onT : ∀ p ∈ cs, LamX.TabB (hidT s1.heap H) mg p.1 p.2 := fun p hp => by
    obtain ⟨o, us, file, tf, flags, tg, inF, text, tt, c1, c2, c3, c4, c5, c6, c7, c8, c9, c10⟩ := C p hp
    obtain ⟨bm, ob, m1, m2, m3, m4, m5, m6⟩ := hbm
    refine ⟨⟨o, us, file, tf, flags, tg, inF, text, tt, hidT_get c1 (un c1 (fun ws n z => ?_) fun z => ?_), c2, c3, c4, c5, c6, c7, c8, c9, c10⟩, ⟨bm, ob, m1, m2, fun z => ?_, fun z => ?_, hidT_get m3 (un m3 (fun ws n z => ?_) fun z => ?_), m4, m5, m6⟩, fun z => ?_⟩
    · rw [c3] at z; cases z
    · rw [c3] at z; cases z; simp at c4
    · obtain ⟨o', es, ep, e, d, _⟩ := hns
      rw [z, e] at m3; cases m3
      rw [d] at m6; cases m6
    · rw [z, hT p hp] at m3; cases m3; cases m6
    · rw [m6] at z; cases z
    · rw [m6] at z; cases z
    · obtain ⟨o', es, ep, e, d, _⟩ := hns
      rw [z, hT p hp] at e; cases e; cases d
  have e0 : Env0 P w K mg (hidT s1.heap H) callerA [] s1 H := ⟨rfl, onM, fun b o e => of_hidT e, Nat.le_of_eq (hidT_size _ _), True.intro, fun b hb => (nomatch hb), hok, .of_eq hg⟩
  refine codeAny_mono ((F _ onK (onNs hns) onT).run s1 H (.ref a) (.ref a) _ _ e0 (hbind s1 (.ref a)) rfl (hsp H HT HS)) fun r s2 h => ?_
  cases r with
  | error e =>
    obtain ⟨_, _, _, _, _, _, _, _, _, _, _, _, z⟩ := h
    exact z.elim
  | ok fl =>
    cases fl with
    | ret u =>
      obtain ⟨v, H2, h1, h2, h3, h4, h5, h6⟩ := h
      have h6 : v = .bl true := h6
      subst h6
      obtain rfl : u = Value.bool true := h5
      have same : ∀ b o, b ∉ cs.map (·.2) → s1.heap.get? b = some o → s2.heap.get? b = some o := fun b o nb e => by
        cases q : H b with
        | none => exact h3.keep b o e q (fun z => (nomatch z)) (fun z => (nomatch z))
        | some u =>
          have q2 := q
          rw [eH] at q2
          rcases startH_cases q2 with ⟨hb, _⟩ | ⟨_, _, _, rfl⟩
          · exact absurd hb nb
          · have k1 := (hok b _ q).1
            have k2 := (h4 b _ (h3.frzs b _ _ q)).1
            rw [e] at k1
            cases k1
            exact k2
      have grown : ∀ p ∈ cs, ∃ more : Array Value, s2.heap.get? p.2 = some { cls := .none, data := .fields more } := fun p hp => by
        obtain ⟨more, z⟩ := h3.tbls p.2 #[] (HT p hp)
        exact ⟨_, h4 p.2 _ z⟩
      refine ⟨rfl, ⟨fun b o e => ?_, fun b o e => ?_⟩, h1, h2⟩
      · by_cases hb : b ∈ cs.map (·.2)
        · obtain ⟨p, hp, rfl⟩ := List.mem_map.mp hb
          obtain ⟨more, hm⟩ := grown p hp
          rw [hT p hp] at e
          cases e
          exact .inr (.inl ⟨((C p hp).tab (hT p hp)).isCodeTable, rfl, #[], more, rfl, by rw [Array.empty_append]; exact hm⟩)
        · exact .inl (same b o hb e)
      · by_cases hb : b ∈ cs.map (·.2)
        · obtain ⟨p, hp, rfl⟩ := List.mem_map.mp hb
          exact (grown p hp).elim fun more hm => ⟨_, hm⟩
        · exact ⟨o, same b o hb e⟩
    | next => exact h.elim
    | brk => exact h.elim
    | cont => exact h.elim
/-- what is known of the law's promise at the head's heap -/
def LawAtG (l : PySem.W.OpenLaw) (w : World) (K : PySem.W.Frag) (n : Nat) (x : Str) (mg : Str → Option Value) (fa : Addr) (h : Heap) : Prop :=
  ∃ (fd : FuncData) (cs : List (Addr × Addr)) (sp : Sp), (∀ p ∈ cs, h.get? p.2 = some { cls := .none, data := .fields #[] }) ∧ (∀ p ∈ cs, K.lookup p.2 = none) ∧ (∀ p ∈ cs, PySem.W.CodeHd h p.1 p.2) ∧ (∀ (s : Shared) (u : Value), BindsTo s fd ⟨[u], []⟩ [(x, u)]) ∧
    (∀ (H : Hp) (a : Addr) (ns : List Int), ns.length ≤ n → (∀ z ∈ ns, Builtin.Int.intBits z ≤ 1048576) → (∀ p ∈ cs, H p.2 = some (.tbl #[])) → SqL K H a (ns.map L2.V.int) → sp [.ref a] H (fun v _ => v = .bl true) fun _ _ _ => False) ∧
    ∀ base : Heap, K.In base → base.Ns mainGlobals mg → (∀ p ∈ cs, LamX.TabB base mg p.1 p.2) → RunG l.prog w K mg base fa fd x sp
theorem walk_ofG {l : PySem.W.OpenLaw} {n : Nat} {q : Program} {loose : List Str} {XP : (Str → Option Value) → Heap → Prop} {YP : World → Heap → Prop} {d : DefRec} {x : Str} (hn : l.most = some n) (hn2 : n ≤ sizeLine) (hdf : d.params.defaults = [])
    (F : ∀ (w : World) (mg : Str → Option Value) (fa : Addr) (h : Heap), YP w h → h.Ns mainGlobals mg → mg d.name = some (.ref fa) → ∃ K : PySem.W.Frag, K.In h ∧ LawAtG l w K n x mg fa h) : PySem.W.WalkO q loose XP YP l.row.toRowW d [] (fun f vs => PySem.call f vs) := by
  refine Att.attach_callB hn hdf fun w s0 s1 mg mb fa o pm cd doc a vs ns G Y ho hd hcd hmg hobj hints hlen hbits hg => ?_
  obtain ⟨K, KX, fd, cs, sp, hT, nT, C, hb, hsp, hF⟩ := F w mg fa _ Y G.T.g hmg
  exact law_endG KX G.T.g G.T.b G.T.builtins G.T.nolimit hg hT nT C G.T.bmain hobj hints (Nat.le_trans hlen hn2) hF hb fun H hH hS => hsp H a ns hlen hbits hH hS
/-- a law that is called from outside alone -/
structure CalG (P : Program) (w : World) (K : PySem.W.Frag) (mg : Str → Option Value) (base : Heap) (x : Str) (st : Stmt) (a : Str) (sp : Sp) : Prop where
  ex : ∃ (f : Addr) (fd : FuncData), RunG P w K mg base f fd a sp ∧ mg x = some (.ref f) ∧ Fun K x x st f fd
theorem CalG.runG {P : Program} {w : World} {K : PySem.W.Frag} {mg : Str → Option Value} {base : Heap} {x : Str} {st : Stmt} {a : Str} {sp : Sp} {f : Addr} {fd : FuncData} (C : CalG P w K mg base x st a sp) (F : FunD K x x (defArgs st) (defBody st) (defScope st) [] [] f fd) (hm : mg x = some (.ref f)) : RunG P w K mg base f fd a sp := by
  obtain ⟨f', fd', G, hm', F'⟩ := C.ex
  rw [hm] at hm'
  cases hm'
  obtain ⟨oc, od, kV, doc, pm, an, cdv, ct, osl, e, lk, _⟩ := F'.ex
  obtain ⟨oc2, od2, dV2, kV2, doc2, pm2, an2, cdv2, ct2, osl2, e2, lk2, _⟩ := F.ex
  rw [lk] at lk2
  cases lk2
  exact G
theorem DefC.rawG {P : Program} {w : World} {K : PySem.W.Frag} {mg : Str → Option Value} {base : Heap} {k : Nat} {c : Addr} {x : Str} {st : Stmt} {N : List Str} {a : Str} {sp : Sp} (Dd : DefC K mg x st [a] c) (S : FnScope N [a] (defScope st)) (hr : Room (k + 1) callerA)
    (h : ∀ (f : Addr) (s : Shared) (H : Hp) (vs : List L2.V) (Q : VK) (E : XK), Room k (callerA.deeper (envOfC x (defScope st) s.heap.objs.size f (.ref c))) → sp vs H Q E →
      ∃ t, PSs (cxD P w K mg base N x st f (.ref c) callerA [] s H E) (defBody st) t ∧ t { nx := fun _ H' => Q .non H', rt := Q } (L2.start N vs) H) : CalG P w K mg base x st a sp := by
  obtain ⟨f, oc, od, kV, doc, pm, an, ct, osl, lk, hc, hk, hm, hb⟩ := Dd.ex
  refine ⟨f, _, ⟨fun s H u v Q E e0 bd hv hsp => ?_⟩, hm, ⟨⟨oc, od, kV, doc, pm, an, .ref c, ct, osl, rfl, lk, hc⟩, hk⟩⟩
  exact LamX.run_ofS (us := [u]) (vs := [v]) (ps := [a]) lk hc S hr e0 bd (.cons hv .nil) rfl fun hr' => h f s H [v] Q E hr' hsp
/-! ### repr -/
theorem bb_repr : bootBuiltins "repr" = some (.builtin "repr") := by decide +kernel
def rReprD (K : PySem.W.Frag) : List L2.V → Hp → VK → Prop := fun xs H Q => ∃ x d, xs = [x] ∧ Dp K H x d ∧ d.showable = true ∧ d.hasDict = false ∧ d.depth ≤ 60 ∧ d.shown.length ≤ sizeLine ∧ Q (.str d.shown) H
theorem call_reprD {X : Cx} (hg : X.A.guards = some []) (hu : X.A.units + 64 < cLine) : CallR X (.builtin "repr") (rReprD X.K) := by
  intro pins s σ H xs us Q I r h
  obtain ⟨x, d, rfl, hd, h1, h2, h3, h4, q⟩ := h
  cases r with
  | cons r rr =>
  cases rr
  rename_i u
  obtain ⟨as, R⟩ := Dp.reads I d x u hd r
  have onR : ∀ a, u = .ref a → wpAny (model X.prog X.w) X.A (call (.builtin "repr") [u]) (EP X pins σ Q) X.xe s := fun a e => by
    subst e
    exact repr_of_reads' R h1 (fun z => by rw [h2] at z; cases z) hg (by omega) (fun _ _ z => z) (fun h' u tk hk => ⟨.str d.shown, H, I.kept hk, ⟨u, rfl⟩, q⟩) h4
  cases hd with
  | non => cases r; exact PySem.P.repr_of_none ⟨.str _, H, I.tok _, ⟨_, rfl⟩, q⟩
  | bl b => cases r; exact PySem.P.repr_of_bool ⟨.str _, H, I.tok _, ⟨_, rfl⟩, q⟩
  | int i =>
    obtain ⟨t, rfl⟩ := r
    exact PySem.P.repr_of_int (of_decide_eq_true h1) ⟨.str _, H, I.tok _, ⟨_, rfl⟩, q⟩
  | str y =>
    obtain ⟨t, rfl⟩ := r
    exact PySem.P.repr_of_str ⟨.str _, H, I.tok _, ⟨_, rfl⟩, q⟩ h4
  | lst _ _ => cases r; exact onR _ rfl
  | tup _ _ => cases r; exact onR _ rfl
/-- the text of data -/
def shD (d : D) : Str := match d.toP with
  | some p => p.shown
  | none => Str.empty
/-- data that can be shown, of so many signs at the most, so deep -/
def Sho (b k : Nat) (d : D) : Prop := ∃ p, d.toP = some p ∧ p.showable = true ∧ p.hasDict = false ∧ p.depth ≤ k ∧ p.shown.length ≤ b
def Shos (b k : Nat) (l : List D) : Prop := ∃ ps, toPs l = some ps ∧ PyData.showableAll ps = true ∧ PyData.hasDictAll ps = false ∧ PyData.depthAll ps ≤ k ∧ piled (PyData.shownAll ps) ≤ l.length * (b + 2) ∧ ps.length = l.length
theorem Sho.mono {b b' k k' : Nat} {d : D} (h : Sho b k d) (h1 : b ≤ b') (h2 : k ≤ k') : Sho b' k' d := h.elim fun p q => ⟨p, q.1, q.2.1, q.2.2.1, Nat.le_trans q.2.2.2.1 h2, Nat.le_trans q.2.2.2.2 h1⟩
theorem sho_int {i : Int} (h : i.natAbs < 2 ^ 1920) : Sho 1921 0 (.int i) := by
  have hl : i.natAbs.log2 < 1920 := by
    by_cases e : i.natAbs = 0
    · rw [e]; decide
    · exact (Nat.log2_lt e).mpr h
  exact ⟨.int i, rfl, decide_eq_true hl, rfl, Nat.le_refl _, int_text_len_1921 hl⟩
theorem sho_non {b : Nat} (h : 4 ≤ b) : Sho b 0 .non := ⟨.none, rfl, rfl, rfl, Nat.le_refl _, h⟩
theorem sho_bl {b : Nat} {z : Bool} (h : 5 ≤ b) : Sho b 0 (.bl z) := ⟨.bool z, rfl, rfl, rfl, Nat.le_refl _, by
  cases z
  · exact h
  · exact Nat.le_trans (by decide) h⟩
theorem shos {b k : Nat} : ∀ {l : List D}, (∀ d ∈ l, Sho b k d) → Shos b k l
  | [], _ => ⟨[], rfl, rfl, rfl, Nat.zero_le _, by show 0 ≤ _; exact Nat.zero_le _, rfl⟩
  | d :: l, h => by
    obtain ⟨p, e1, a1, a2, a3, a4⟩ := h d List.mem_cons_self
    obtain ⟨ps, e2, b1, b2, b3, b4, b5⟩ := shos fun x hx => h x (List.mem_cons_of_mem _ hx)
    refine ⟨p :: ps, by unfold toPs; rw [e1, e2], ?_, ?_, ?_, ?_, by rw [List.length_cons, List.length_cons, b5]⟩
    · show (p.showable && PyData.showableAll ps) = true
      rw [a1, b1]; rfl
    · show (p.hasDict || PyData.hasDictAll ps) = false
      rw [a2, b2]; rfl
    · show max p.depth (PyData.depthAll ps) ≤ k
      omega
    · show piled (p.shown :: PyData.shownAll ps) ≤ _
      rw [piled_cons, List.length_cons, Nat.succ_mul]
      omega
theorem textFrom_le : ∀ (ts : List Str) (k : Nat) (acc : Str), (textFrom k acc ts).length ≤ acc.length + piled ts
  | [], k, acc => Nat.le_add_right _ _
  | t :: r, k, acc => by
    have h := textFrom_le r (k + 1) (acc ++ (if k > 0 then ", " else "" : String) ++ t)
    have e : (acc ++ (if k > 0 then ", " else "" : String) ++ t).length ≤ acc.length + 2 + t.length := by
      rw [strLen_append, strLen_append]
      have : (((if k > 0 then ", " else "" : String) : Str)).length ≤ 2 := by split <;> decide
      omega
    rw [piled_cons]
    exact Nat.le_trans h (by omega)
theorem sho_lst {b k : Nat} {l : List D} (h : ∀ d ∈ l, Sho b k d) : Sho (2 + l.length * (b + 2)) (k + 1) (.lst l) := by
  obtain ⟨ps, e, b1, b2, b3, b4, _⟩ := shos h
  refine ⟨.list ps, by unfold D.toP; rw [e], b1, b2, Nat.succ_le_succ b3, ?_⟩
  show (textFrom 0 "[" (PyData.shownAll ps) ++ ("]" : String)).length ≤ _
  rw [strLen_append]
  have h1 := textFrom_le (PyData.shownAll ps) 0 "["
  have h2 : (("[" : String) : Str).length = 1 := rfl
  have h3 : (("]" : String) : Str).length = 1 := rfl
  omega
theorem sho_tup {b k : Nat} {l : List D} (h : ∀ d ∈ l, Sho b k d) : Sho (3 + l.length * (b + 2)) (k + 1) (.tup l) := by
  obtain ⟨ps, e, b1, b2, b3, b4, _⟩ := shos h
  refine ⟨.tuple ps, by unfold D.toP; rw [e], b1, b2, Nat.succ_le_succ b3, ?_⟩
  show (tupleText (PyData.shownAll ps)).length ≤ _
  unfold tupleText
  rw [strLen_append, strLen_append]
  have h2 : (("(" : String) : Str).length = 1 := rfl
  have h3 : (((if (PyData.shownAll ps).length == 1 then ",)" else ")" : String) : Str)).length ≤ 2 := by split <;> decide
  have h4 : (Str.join ", " (PyData.shownAll ps)).length ≤ piled (PyData.shownAll ps) := by
    by_cases h : PyData.shownAll ps = []
    · rw [h]; exact Nat.zero_le _
    · have := join_length_add _ h
      omega
  omega
section
variable {W : Wd} {n : Nat} {ρ : Rho} {K : PySem.W.Frag} {P : Nat → D → Prop}
theorem b_repr {b : Nat} {d : D} (h : Sho b 60 d) (hb : b ≤ 100000) (p : P n (.str (shD d))) : DC (rReprD K) W n ρ [d] P := fun Z T σ H vs e ia Q k => by
  obtain ⟨v, rfl, i1⟩ := ws1 ia
  obtain ⟨q, e1, h1, h2, h3, h4⟩ := h
  have es : shD d = q.shown := by unfold shD; rw [e1]
  rw [es] at p
  exact ⟨v, q, rfl, i1.dp e1, h1, h2, h3, szl (by omega), k _ _ _ H p e (.str _)⟩
theorem r_neS {a b : Str} (p : P n (.bl (!decide (V.str a = V.str b)))) : DR rNe W n ρ (.str a) (.str b) P := fun Z T σ H v1 v2 e i1 i2 Q k => by
  cases isw_str i1
  cases isw_str i2
  exact ⟨rfl, k _ _ _ H p e (.bl _)⟩
/-- texts of the same -/
theorem r_neSS {a : Str} (p : P n (.bl false)) : DR rNe W n ρ (.str a) (.str a) P := r_neS (by rw [decide_eq_true rfl]; exact p)
end
/-! ### C(k = v, ..) -/
section
variable {X : Cx} {k : Nat} {x q : Str} {st : Stmt} {ps ks : List Str} {C : Addr} {sp : Sp} {E : XK} {p pos : Pos} {kws : List Keyword} {tk : TA}
theorem pe_mkK0 (Cc : CalC X.prog X.w X.K X.mg X.base k x q st ps C sp) (perm : List Nat)
    (hb : ∀ (kV doc pm : Value) (an : Option Addr) (cdv ct : Value) (u : Value) (ws : List Value), ws.length = ks.length → bindArgs (PySem.W.fnOf "__init__" q (defArgs st) (defBody st) (defScope st) .none kV doc pm an cdv ct) ⟨[u], ks.zip ws⟩ = pure ((("self" : Str) :: ps).zip (u :: gPerm Value.none perm [] ws)))
    (hr : Room (k + 1) X.A) (hx : Passes (L2.CX X.prog X.w) X E) (hg : Gl X x) (hkw : PK X kws tk)
    (hall : (backToKw pos (keywordEach kws X.env)).all (·.1.isSome) = true := by rfl) (hks : (backToKw pos (keywordEach kws X.env)).filterMap (·.1) = ks := by rfl) (hdb : (x == ("__debug__" : Str)) = false := by decide)
    (hpl : ((backTo pos (starEach [] X.env)).any (·.1) || (backToKw pos (keywordEach kws X.env)).any (·.1.isNone)) = false := by rfl) :
    PE X (.Call (.Name x p) [] kws pos) (tCalK 0 ks.length sp perm E tNil tk) := by
  obtain ⟨f, fd, F, M, hm, _, hF⟩ := Cc.ex
  obtain ⟨oc, od, kV, doc, pm, an, cdv, ct, osl, rfl, lk, _⟩ := hF.ex
  have hB : KBn X.K _ ("self" :: ps) (0 + 1) ks (fun us ws => us ++ gPerm Value.none perm [] ws) (fun vs zs => vs ++ gPerm L2.V.non perm [] zs) :=
    ⟨fun s us ws _ h1 h2 => (by
      rcases us with _ | ⟨u, _ | ⟨u2, us⟩⟩
      · cases h1
      · exact .of_eq (hb kV doc pm an cdv ct u ws h2)
      · cases h1), fun {us vs ws zs} (r1 : Vals _ _) (r2 : Vals _ _) => r1.append (perm_vals r2 perm)⟩
  refine ⟨fun pins s σ H Q I h => wpAny_Call_Name_kw (ld_glob I hg hm ?_ hdb)⟩
  refine PySem.W.callWith_KW0 (h₀ := X.base) I.ok.mod.kin M.kp hall ?_ hpl
  refine thn (hkw.run pos pins s σ H _ I h) fun ws s2 ⟨zs, H2, I2, rz, l1, l2, q2⟩ => ⟨I2.kIn, ?_⟩
  rw [hks]
  exact run_makeK (us := []) (vs := []) M F hr hB hx I2 .nil rz rfl l2 fun x dx h1 h2 h3 => ⟨x, dx, gPerm L2.V.non perm [] zs, H2, Q, rfl, h1, h2, h3, rfl, fun _ q => ⟨rfl, q⟩, q2⟩
end
section
variable {W : Wd} {n : Nat} {ρ : Rho} {N : Nat → Rho → Prop} {R : Nat → Bool → D → Prop} {B C : Nat → Rho → Prop} {K : PySem.W.Frag} {ta tb : TE}
/-- a, b = e, new; by way of a tuple (a name that lambdas see) -/
theorem ds_tup_so {i j : Nat} (h : DE ta W n ρ fun n d1 => DF tb W n ρ fun n d2 => N n ((ρ.set i (some (false, d1))).set j (some (true, d2)))) : DS (tAsg (tTup (tCons ta (tCons tb tNil))) (gTup K 2 (gCons (gName i) (gCons (gName j) gNil)))) W n ρ N R B C := fun Z T σ H e De f =>
  h Z T σ H e _ fun n v d1 H1 p1 e1 iv => p1 Z ((v, d1) :: T) σ H1 (e1.push iv) _ fun n a o d2 H2 p2 e2 ho => by
    refine ⟨szl (by show 2 ≤ 100000; decide), fun p hp => ⟨p, [v, .ref a], rfl, .of upd_same, rfl, v, _, rfl, .ref a, _, rfl, rfl, ?_⟩⟩
    have e3 : Env W n ((a, o) :: Z) (zipT (oVs o) (dVs d2) ++ ((v, d1) :: T)) ρ σ H2 := e2.pushAll ho.all
    have e5 := (e3.lay (p := p) (o := .tup [v, .ref a]) hp).zpop
    have t1 := e5.set (i := i) (e5.popAll).top
    have hoo : Ob (XX W ((a, o) :: Z) (ρ.set i (some (false, d1))) (σ.set i (some v))) (upd H2 p (.tup [v, .ref a])) o d2 := ho.re (t1.topAll ho.all.len)
    have t2 := t1.take (i := j) hoo
    exact f.nx _ _ _ _ p2 (t2.popAll).pop1
end
end HD

namespace HD
open PySem PySem.Spec PyProof.Rows L2
/-! ### ratios of passes, lengths that fit (plain Lean) -/
/-- lowest terms -/
def lowF (a b : Int) : Int × Int := if 0 < b then (a / (Int.gcd a b : Int), b / (Int.gcd a b : Int)) else (-(a / (Int.gcd a b : Int)), -(b / (Int.gcd a b : Int)))
structure Low (q : Int × Int) : Prop where
  pos : 0 < q.2
  co : Int.gcd q.1 q.2 = 1
theorem low_ok {a b : Int} (h : b ≠ 0) : Low (lowF a b) ∧ (lowF a b).1 * b = (lowF a b).2 * a ∧ (lowF a b).1.natAbs ≤ a.natAbs ∧ (lowF a b).2.natAbs ≤ b.natAbs := by
  have g0 : 0 < Int.gcd a b := Int.gcd_pos_of_ne_zero_right a h
  obtain ⟨x, hx⟩ := Int.gcd_dvd_left a b
  obtain ⟨y, hy⟩ := Int.gcd_dvd_right a b
  have hg : Int.gcd a b = Int.gcd a b * Int.gcd x y := by
    have : Int.gcd ((Int.gcd a b : Int) * x) ((Int.gcd a b : Int) * y) = Int.gcd a b * Int.gcd x y := by rw [Int.gcd_mul_left]; rfl
    rw [← hx, ← hy] at this
    exact this
  have hxy : Int.gcd x y = 1 := Nat.eq_of_mul_eq_mul_left g0 (by rw [← hg, Nat.mul_one])
  have ea : a / (Int.gcd a b : Int) = x := Int.ediv_eq_of_eq_mul_right (by omega) hx
  have eb : b / (Int.gcd a b : Int) = y := Int.ediv_eq_of_eq_mul_right (by omega) hy
  have y0 : y ≠ 0 := fun z => h (by rw [hy, z, Int.mul_zero])
  have l1 : x.natAbs ≤ a.natAbs := by rw [← ea]; exact Int.natAbs_ediv_le_natAbs _ _
  have l2 : y.natAbs ≤ b.natAbs := by rw [← eb]; exact Int.natAbs_ediv_le_natAbs _ _
  have hc : x * b = y * a := by
    generalize (Int.gcd a b : Int) = g at hx hy
    rw [hx, hy]; ac_rfl
  have hs : 0 < b ↔ 0 < y := by
    have gp : (0 : Int) < (Int.gcd a b : Int) := by omega
    generalize (Int.gcd a b : Int) = g at hy gp
    rw [hy]
    refine ⟨fun q => ?_, fun q => Int.mul_pos gp q⟩
    rcases Int.lt_or_le 0 y with z | z
    · exact z
    · have := Int.mul_le_mul_of_nonneg_left z (Int.le_of_lt gp)
      rw [Int.mul_zero] at this
      omega
  unfold lowF
  rw [ea, eb]
  split
  · rename_i q
    exact ⟨⟨hs.mp q, hxy⟩, hc, l1, l2⟩
  · rename_i q
    refine ⟨⟨?_, ?_⟩, ?_, ?_, ?_⟩
    · show 0 < -y
      have := mt hs.mpr q
      omega
    · show Int.gcd (-x) (-y) = 1
      rw [Int.neg_gcd, Int.gcd_neg, hxy]
    · show -x * b = -y * a
      rw [Int.neg_mul, Int.neg_mul, hc]
    · show (-x).natAbs ≤ _
      rw [Int.natAbs_neg]; exact l1
    · show (-y).natAbs ≤ _
      rw [Int.natAbs_neg]; exact l2
/-- numbers of passes as they are in houses -/
def NumD (dl : List Door) : Prop := ∀ p : Ps, ((gat dl p).first ≠ 0 ∧ -999 ≤ (gat dl p).first ∧ (gat dl p).first ≤ 999) ∧ ((gat dl p).second ≠ 0 ∧ -999 ≤ (gat dl p).second ∧ (gat dl p).second ≤ 999)
/-- one pass more -/
def stepQ (dl : List Door) (q : Int × Int) (p : Ps) : Int × Int := lowF (q.1 * (gat dl p).second) (q.2 * (gat dl p).first)
def ratF (dl : List Door) : Int × Int → List Ps → Int × Int
  | q, [] => q
  | q, p :: ps => ratF dl (stepQ dl q p) ps
def ratG (dl : List Door) (ps : List Ps) : Int × Int := ratF dl (1, 1) ps
def prA (dl : List Door) : List Ps → Int
  | [] => 1
  | p :: ps => (gat dl p).second * prA dl ps
def prL (dl : List Door) : List Ps → Int
  | [] => 1
  | p :: ps => (gat dl p).first * prL dl ps
section
variable {dl : List Door} (O : NumD dl)
include O
/-- the greatest common divisor at a step is small -/
theorem step_small {q : Int × Int} (h : Low q) (p : Ps) : q.2 * (gat dl p).first ≠ 0 ∧ Int.gcd (q.1 * (gat dl p).second) (q.2 * (gat dl p).first) ≤ 998001 := by
  obtain ⟨⟨l0, l1, l2⟩, r0, r1, r2⟩ := O p
  generalize (gat dl p).second = a at *
  generalize (gat dl p).first = l at *
  have q0 : q.2 ≠ 0 := by have := h.pos; omega
  refine ⟨Int.mul_ne_zero q0 l0, ?_⟩
  obtain ⟨g, hg⟩ : ∃ g, g = Int.gcd (q.1 * a) (q.2 * l) := ⟨_, rfl⟩
  have h1 : (g : Int) ∣ (a * l) * q.1 := by
    rw [hg]
    have := Int.dvd_mul_of_dvd_left (b := q.1 * a) (c := l) (Int.gcd_dvd_left (q.1 * a) (q.2 * l))
    rwa [show (a * l) * q.1 = q.1 * a * l by ac_rfl]
  have h2 : (g : Int) ∣ (a * l) * q.2 := by
    rw [hg]
    have := Int.dvd_mul_of_dvd_left (b := q.2 * l) (c := a) (Int.gcd_dvd_right (q.1 * a) (q.2 * l))
    rwa [show (a * l) * q.2 = q.2 * l * a by ac_rfl]
  have h3 := Int.dvd_gcd h1 h2
  rw [Int.gcd_mul_left, h.co, Nat.mul_one] at h3
  rw [← hg]
  have al0 : 0 < (a * l).natAbs := by
    have := Int.mul_ne_zero r0 l0
    omega
  refine Nat.le_trans (Nat.le_of_dvd al0 h3) ?_
  rw [Int.natAbs_mul]
  have b1 : a.natAbs ≤ 999 := by omega
  have b2 : l.natAbs ≤ 999 := by omega
  exact Nat.mul_le_mul b1 b2
theorem step_low {q : Int × Int} (h : Low q) (p : Ps) : Low (stepQ dl q p) ∧ (stepQ dl q p).1 * (q.2 * (gat dl p).first) = (stepQ dl q p).2 * (q.1 * (gat dl p).second) ∧ (stepQ dl q p).1.natAbs ≤ q.1.natAbs * 999 ∧ (stepQ dl q p).2.natAbs ≤ q.2.natAbs * 999 := by
  obtain ⟨h1, h2, h3, h4⟩ := low_ok (a := q.1 * (gat dl p).second) (step_small O h p).1
  obtain ⟨⟨l0, l1, l2⟩, r0, r1, r2⟩ := O p
  rw [Int.natAbs_mul] at h3 h4
  have b1 : (gat dl p).second.natAbs ≤ 999 := by omega
  have b2 : (gat dl p).first.natAbs ≤ 999 := by omega
  exact ⟨h1, h2, Nat.le_trans h3 (Nat.mul_le_mul_left _ b1), Nat.le_trans h4 (Nat.mul_le_mul_left _ b2)⟩
theorem prA_nz : ∀ {ps : List Ps}, prA dl ps ≠ 0
  | [] => by show (1 : Int) ≠ 0; decide
  | p :: ps => Int.mul_ne_zero (O p).2.1 prA_nz
theorem prL_nz : ∀ {ps : List Ps}, prL dl ps ≠ 0
  | [] => by show (1 : Int) ≠ 0; decide
  | p :: ps => Int.mul_ne_zero (O p).1.1 prL_nz
theorem ratF_ok : ∀ {ps : List Ps} {q : Int × Int}, Low q → Low (ratF dl q ps) ∧ (ratF dl q ps).1 * (q.2 * prL dl ps) = (ratF dl q ps).2 * (q.1 * prA dl ps) ∧ (ratF dl q ps).1.natAbs ≤ q.1.natAbs * 999 ^ ps.length ∧ (ratF dl q ps).2.natAbs ≤ q.2.natAbs * 999 ^ ps.length
  | [], q, h => ⟨h, by show q.1 * (q.2 * 1) = q.2 * (q.1 * 1); rw [Int.mul_one, Int.mul_one, Int.mul_comm], by show _ ≤ _ * 1; rw [Nat.mul_one]; exact Nat.le_refl _, by show _ ≤ _ * 1; rw [Nat.mul_one]; exact Nat.le_refl _⟩
  | p :: ps, q, h => by
    obtain ⟨s1, s2, s3, s4⟩ := step_low O h p
    obtain ⟨i1, i2, i3, i4⟩ := ratF_ok (ps := ps) s1
    show Low (ratF dl (stepQ dl q p) ps) ∧ (ratF dl (stepQ dl q p) ps).1 * (q.2 * ((gat dl p).first * prL dl ps)) = (ratF dl (stepQ dl q p) ps).2 * (q.1 * ((gat dl p).second * prA dl ps)) ∧ (ratF dl (stepQ dl q p) ps).1.natAbs ≤ q.1.natAbs * 999 ^ (p :: ps).length ∧ (ratF dl (stepQ dl q p) ps).2.natAbs ≤ q.2.natAbs * 999 ^ (p :: ps).length
    have n2 : (stepQ dl q p).2 ≠ 0 := by have := s1.pos; omega
    generalize ratF dl (stepQ dl q p) ps = R at *
    generalize stepQ dl q p = S at *
    refine ⟨i1, Int.eq_of_mul_eq_mul_left n2 ?_, ?_, ?_⟩
    · generalize prL dl ps = PL at *
      generalize prA dl ps = PA at *
      calc S.2 * (R.1 * (q.2 * ((gat dl p).first * PL))) = (R.1 * (S.2 * PL)) * (q.2 * (gat dl p).first) := by ac_rfl
        _ = (R.2 * PA) * (S.1 * (q.2 * (gat dl p).first)) := by rw [i2]; ac_rfl
        _ = S.2 * (R.2 * (q.1 * ((gat dl p).second * PA))) := by rw [s2]; ac_rfl
    · rw [List.length_cons, Nat.pow_succ, Nat.mul_comm (999 ^ ps.length), ← Nat.mul_assoc]
      exact Nat.le_trans i3 (Nat.mul_le_mul_right _ s3)
    · rw [List.length_cons, Nat.pow_succ, Nat.mul_comm (999 ^ ps.length), ← Nat.mul_assoc]
      exact Nat.le_trans i4 (Nat.mul_le_mul_right _ s4)
theorem low1 : Low ((1, 1) : Int × Int) := ⟨by decide, by decide⟩
theorem ratG_ok {ps : List Ps} : Low (ratG dl ps) ∧ (ratG dl ps).1 * prL dl ps = (ratG dl ps).2 * prA dl ps ∧ (ratG dl ps).1.natAbs ≤ 999 ^ ps.length ∧ (ratG dl ps).2.natAbs ≤ 999 ^ ps.length ∧ (ratG dl ps).1 ≠ 0 := by
  obtain ⟨h1, h2, h3, h4⟩ := ratF_ok O (ps := ps) (low1 O)
  have h2 : (ratG dl ps).1 * (1 * prL dl ps) = (ratG dl ps).2 * (1 * prA dl ps) := h2
  have h3 : (ratG dl ps).1.natAbs ≤ 1 * 999 ^ ps.length := h3
  have h4 : (ratG dl ps).2.natAbs ≤ 1 * 999 ^ ps.length := h4
  rw [Int.one_mul, Int.one_mul] at h2
  rw [Nat.one_mul] at h3 h4
  refine ⟨h1, h2, h3, h4, fun z => ?_⟩
  rw [z, Int.zero_mul] at h2
  have h1 : Low (ratG dl ps) := h1
  have := h1.pos
  exact Int.mul_ne_zero (by omega) (prA_nz O) h2.symm
end
theorem prA_app {dl : List Door} : ∀ {a b : List Ps}, prA dl (a ++ b) = prA dl a * prA dl b
  | [], b => (Int.one_mul _).symm
  | p :: a, b => by show _ * prA dl (a ++ b) = _ * prA dl a * _; rw [prA_app, Int.mul_assoc]
theorem prL_app {dl : List Door} : ∀ {a b : List Ps}, prL dl (a ++ b) = prL dl a * prL dl b
  | [], b => (Int.one_mul _).symm
  | p :: a, b => by show _ * prL dl (a ++ b) = _ * prL dl a * _; rw [prL_app, Int.mul_assoc]
/-! lengths -/
structure Lens (r : Int) (dl : List Door) (ls : List Int) : Prop where
  len : (ls.length : Int) = r
  pos : ∀ x ∈ ls, 1 ≤ x
  fit : ∀ d ∈ dl, (d.first.natAbs : Int) * ls.getD d.near.toNat 0 = (d.second.natAbs : Int) * ls.getD d.far.toNat 0
theorem Lens.gt {r : Int} {dl : List Door} {ls : List Int} (L : Lens r dl ls) {i : Int} (i0 : 0 ≤ i) (i1 : i < r) : 1 ≤ ls.getD i.toNat 0 := by
  have h := L.len
  rw [List.getD_eq_getElem?_getD, List.getElem?_eq_getElem (by omega)]
  exact L.pos _ (List.getElem_mem _)
/-- a pass of a door that is there -/
theorem gat_mem {dl : List Door} {p : Ps} (h : psOk dl p) : ∃ d ∈ dl, gat dl p = (if p.2 = 0 then d else d.flip) := by
  obtain ⟨⟨h1, h2⟩, _⟩ := h
  have hlt : p.1.toNat < dl.length := by omega
  refine ⟨dl[p.1.toNat], List.getElem_mem hlt, ?_⟩
  unfold gat
  rw [List.getD_eq_getElem?_getD, List.getElem?_eq_getElem hlt]; rfl
theorem Lens.gate {r : Int} {dl : List Door} {ls : List Int} (L : Lens r dl ls) {p : Ps} (h : psOk dl p) : ((gat dl p).first.natAbs : Int) * ls.getD (gat dl p).near.toNat 0 = ((gat dl p).second.natAbs : Int) * ls.getD (gat dl p).far.toNat 0 := by
  obtain ⟨d, hd, e⟩ := gat_mem h
  rw [e]
  split
  · exact L.fit d hd
  · exact (L.fit d hd).symm
theorem Lens.walk {r : Int} {dl : List Door} {ls : List Int} (L : Lens r dl ls) : ∀ {ps : List Ps} {a : Int}, chain dl a ps → ((prL dl ps).natAbs : Int) * ls.getD a.toNat 0 = ((prA dl ps).natAbs : Int) * ls.getD (endR dl a ps).toNat 0
  | [], a, _ => rfl
  | p :: ps, a, h => by
    obtain ⟨h1, h2, h3⟩ := h
    have g := L.gate h1
    have ih := L.walk h3
    rw [h2] at g
    show (((gat dl p).first * prL dl ps).natAbs : Int) * _ = (((gat dl p).second * prA dl ps).natAbs : Int) * ls.getD (endR dl (gat dl p).far ps).toNat 0
    rw [Int.natAbs_mul, Int.natAbs_mul, Int.natCast_mul, Int.natCast_mul]
    generalize ((prL dl ps).natAbs : Int) = PL at *
    generalize ((prA dl ps).natAbs : Int) = PA at *
    calc ((gat dl p).first.natAbs : Int) * PL * ls.getD a.toNat 0 = PL * (((gat dl p).first.natAbs : Int) * ls.getD a.toNat 0) := by ac_rfl
      _ = ((gat dl p).second.natAbs : Int) * (PL * ls.getD (gat dl p).far.toNat 0) := by rw [g]; ac_rfl
      _ = _ := by rw [ih]; ac_rfl
/-- what a ratio says of lengths -/
theorem Lens.rat {r : Int} {dl : List Door} {ls : List Int} (O : NumD dl) (L : Lens r dl ls) {ps : List Ps} {a : Int} (h : chain dl a ps) : (ratG dl ps).2 * ls.getD a.toNat 0 = ((ratG dl ps).1.natAbs : Int) * ls.getD (endR dl a ps).toNat 0 := by
  have w := L.walk h
  obtain ⟨h1, h2, _, _, h3⟩ := ratG_ok O (ps := ps)
  have h4 : ((ratG dl ps).1.natAbs : Int) * ((prL dl ps).natAbs : Int) = (ratG dl ps).2 * ((prA dl ps).natAbs : Int) := by
    have := congrArg Int.natAbs h2
    rw [Int.natAbs_mul, Int.natAbs_mul] at this
    have e : ((ratG dl ps).2.natAbs : Int) = (ratG dl ps).2 := Int.natAbs_of_nonneg (Int.le_of_lt h1.pos)
    rw [← e, ← Int.natCast_mul, ← Int.natCast_mul, this]
  have n0 : ((prA dl ps).natAbs : Int) ≠ 0 := by have := prA_nz O (ps := ps); omega
  refine Int.eq_of_mul_eq_mul_left n0 ?_
  generalize ((prL dl ps).natAbs : Int) = PL at *
  generalize ((prA dl ps).natAbs : Int) = PA at *
  calc PA * ((ratG dl ps).2 * ls.getD a.toNat 0) = ((ratG dl ps).2 * PA) * ls.getD a.toNat 0 := by ac_rfl
    _ = ((ratG dl ps).1.natAbs : Int) * (PL * ls.getD a.toNat 0) := by rw [← h4]; ac_rfl
    _ = _ := by rw [w]; ac_rfl
/-! greatest common divisors and least common multiples of lists -/
def gcdF : Int → List Int → Int
  | c, [] => c
  | c, x :: xs => gcdF (Int.gcd c x : Int) xs
def lcmF : Int → List Int → Int
  | f, [] => f
  | f, x :: xs => lcmF ((f * (x.natAbs : Int)) / (Int.gcd f x : Int)) xs
theorem gcdF_dvd : ∀ {xs : List Int} {c : Int}, gcdF c xs ∣ c ∧ ∀ x ∈ xs, gcdF c xs ∣ x
  | [], c => ⟨Int.dvd_refl _, fun _ h => (nomatch h)⟩
  | y :: xs, c => by
    obtain ⟨h1, h2⟩ := gcdF_dvd (xs := xs) (c := (Int.gcd c y : Int))
    refine ⟨Int.dvd_trans h1 (Int.gcd_dvd_left _ _), fun x hx => ?_⟩
    rcases List.mem_cons.mp hx with rfl | hx
    · exact Int.dvd_trans h1 (Int.gcd_dvd_right _ _)
    · exact h2 x hx
theorem gcdF_nn : ∀ {xs : List Int} {c : Int}, 0 ≤ c → 0 ≤ gcdF c xs
  | [], c, h => h
  | y :: xs, c, _ => gcdF_nn (xs := xs) (by omega)
theorem gcdF_mul {a : Int} (h : 0 ≤ a) : ∀ {xs : List Int} {c : Int}, gcdF (a * c) (xs.map fun x => a * x) = a * gcdF c xs
  | [], c => rfl
  | y :: xs, c => by
    show gcdF (Int.gcd (a * c) (a * y) : Int) (xs.map fun x => a * x) = a * gcdF (Int.gcd c y : Int) xs
    rw [Int.gcd_mul_left, Int.natCast_mul, Int.natAbs_of_nonneg h, gcdF_mul h]
theorem gcdF_pos {xs : List Int} (h : ∃ x ∈ xs, 1 ≤ x) : 1 ≤ gcdF 0 xs ∧ ∀ x ∈ xs, 1 ≤ x → gcdF 0 xs ≤ x := by
  have n := gcdF_nn (xs := xs) (c := 0) (Int.le_refl 0)
  have d := (gcdF_dvd (xs := xs) (c := 0)).2
  refine ⟨?_, fun x hx x1 => Int.le_of_dvd (by omega) (d x hx)⟩
  obtain ⟨x, hx, x1⟩ := h
  rcases Int.lt_or_le 0 (gcdF 0 xs) with q | q
  · omega
  · have e : gcdF 0 xs = 0 := by omega
    have := d x hx
    rw [e] at this
    have := Int.zero_dvd.mp this
    omega
theorem lcm_step {f x : Int} (hf : 1 ≤ f) (hx : x ≠ 0) : f ∣ (f * (x.natAbs : Int)) / (Int.gcd f x : Int) ∧ x ∣ (f * (x.natAbs : Int)) / (Int.gcd f x : Int) ∧ 1 ≤ (f * (x.natAbs : Int)) / (Int.gcd f x : Int) ∧ (f * (x.natAbs : Int)) / (Int.gcd f x : Int) ≤ f * (x.natAbs : Int) ∧ ∀ m, f ∣ m → x ∣ m → (f * (x.natAbs : Int)) / (Int.gcd f x : Int) ∣ m := by
  have e : (f * (x.natAbs : Int)) / (Int.gcd f x : Int) = (Int.lcm f x : Int) := by
    have h := Int.gcd_mul_lcm f x
    have g0 : 0 < Int.gcd f x := Int.gcd_pos_of_ne_zero_right f hx
    refine Int.ediv_eq_of_eq_mul_right (by omega) ?_
    have e : f * (x.natAbs : Int) = ((f.natAbs * x.natAbs : Nat) : Int) := by rw [Int.natCast_mul, Int.natAbs_of_nonneg (by omega : 0 ≤ f)]
    rw [e, ← h, Int.natCast_mul]
  have p0 : Int.lcm f x ≠ 0 := Int.lcm_ne_zero (by omega) hx
  rw [e]
  refine ⟨Int.dvd_lcm_left _ _, Int.dvd_lcm_right _ _, by omega, ?_, fun m h1 h2 => Int.coe_lcm_dvd h1 h2⟩
  rw [← e]
  exact Int.ediv_le_self _ (Int.mul_nonneg (by omega) (by omega))
theorem lcmF_ok : ∀ {xs : List Int} {f : Int}, 1 ≤ f → (∀ x ∈ xs, x ≠ 0) → f ∣ lcmF f xs ∧ (∀ x ∈ xs, x ∣ lcmF f xs) ∧ 1 ≤ lcmF f xs ∧ ∀ m, f ∣ m → (∀ x ∈ xs, x ∣ m) → lcmF f xs ∣ m
  | [], f, h, _ => ⟨Int.dvd_refl _, fun _ h => (nomatch h), h, fun m h1 _ => h1⟩
  | y :: xs, f, h, hx => by
    obtain ⟨s1, s2, s3, _, s4⟩ := lcm_step h (hx y List.mem_cons_self)
    obtain ⟨i1, i2, i3, i4⟩ := lcmF_ok (xs := xs) s3 fun x h => hx x (List.mem_cons_of_mem _ h)
    refine ⟨Int.dvd_trans s1 i1, fun x hx => ?_, i3, fun m h1 h2 => i4 m (s4 m h1 (h2 y List.mem_cons_self)) fun x hx => h2 x (List.mem_cons_of_mem _ hx)⟩
    rcases List.mem_cons.mp hx with rfl | hx
    · exact Int.dvd_trans s2 i1
    · exact i2 x hx
theorem lcmF_le {B : Nat} : ∀ {xs : List Int} {f : Int}, 1 ≤ f → (∀ x ∈ xs, x ≠ 0 ∧ x.natAbs < 2 ^ B) → ∀ {A : Nat}, f.natAbs < 2 ^ A → (lcmF f xs).natAbs < 2 ^ (A + B * xs.length)
  | [], f, _, _, A, h => by simpa [lcmF] using h
  | y :: xs, f, h, hx, A, hA => by
    obtain ⟨y0, yB⟩ := hx y List.mem_cons_self
    obtain ⟨_, _, s3, s5, _⟩ := lcm_step h y0
    have hb : ((f * (y.natAbs : Int)) / (Int.gcd f y : Int)).natAbs < 2 ^ (A + B) := by
      have h1 : ((f * (y.natAbs : Int)) / (Int.gcd f y : Int)).natAbs ≤ f.natAbs * y.natAbs := by
        have : (f * (y.natAbs : Int)).natAbs = f.natAbs * y.natAbs := by rw [Int.natAbs_mul, Int.natAbs_natCast]
        omega
      refine Nat.lt_of_le_of_lt h1 ?_
      rw [Nat.pow_add]
      exact Nat.mul_lt_mul'' hA yB
    have ih := lcmF_le (xs := xs) s3 (fun x h => hx x (List.mem_cons_of_mem _ h)) hb
    rw [List.length_cons, Nat.mul_succ, Nat.add_comm (B * xs.length), ← Nat.add_assoc]
    exact ih
/-! lengths without a common divisor -/
def Prim (r : Int) (dl : List Door) (ls : List Int) : Prop := Lens r dl ls ∧ gcdF 0 ls = 1
open Classical in
/-- the lengths without a common divisor, if there are any -/
noncomputable def lensO (r : Int) (dl : List Door) : Option (List Int) := if h : ∃ ls, Prim r dl ls then some h.choose else none
/-- from the ratios: bottom and top without sign -/
def wholeF (f : List (Int × Int)) : Int := lcmF 1 (f.map (·.2))
def kF (f : List (Int × Int)) : List Int := f.map fun p => p.1 * wholeF f / p.2
def toldF (f : List (Int × Int)) : List Int := (kF f).map fun k => k / gcdF 0 (kF f)
/-- such ratios of ways from room 0 -/
def Ways (r : Int) (dl : List Door) (f : List (Int × Int)) : Prop := (f.length : Int) = r ∧ ∀ (i : Nat) (p : Int × Int), f[i]? = some p → ∃ ps, chain dl 0 ps ∧ endR dl 0 ps = (i : Int) ∧ ps.length ≤ 11 ∧ p = ((ratG dl ps).2, ((ratG dl ps).1.natAbs : Int))
section
variable {r : Int} {dl : List Door} {f : List (Int × Int)}
theorem Ways.pos (O : NumD dl) (h : Ways r dl f) : ∀ p ∈ f, (1 ≤ p.1 ∧ p.1.natAbs < 2 ^ 110) ∧ (1 ≤ p.2 ∧ p.2.natAbs < 2 ^ 110) := fun p hp => by
  obtain ⟨i, hi, e⟩ := List.mem_iff_getElem.mp hp
  obtain ⟨ps, _, _, hl, e2⟩ := h.2 i p (by rw [List.getElem?_eq_getElem hi, e])
  obtain ⟨h1, _, h3, h4, h5⟩ := ratG_ok O (ps := ps)
  have hb : 999 ^ ps.length < 2 ^ 110 := Nat.lt_of_le_of_lt (Nat.pow_le_pow_right (by decide) hl) (by decide)
  have := h1.pos
  subst e2
  exact ⟨⟨by show 1 ≤ (ratG dl ps).2; omega, Nat.lt_of_le_of_lt h4 hb⟩, by show 1 ≤ ((ratG dl ps).1.natAbs : Int); omega, by show ((ratG dl ps).1.natAbs : Int).natAbs < _; rw [Int.natAbs_natCast]; exact Nat.lt_of_le_of_lt h3 hb⟩
theorem Ways.whole (O : NumD dl) (h : Ways r dl f) : (∀ p ∈ f, p.2 ∣ wholeF f) ∧ 1 ≤ wholeF f := by
  have hp := h.pos O
  obtain ⟨_, h2, h3, _⟩ := lcmF_ok (xs := f.map (·.2)) (Int.le_refl 1) fun x hx => by
    obtain ⟨p, hq, rfl⟩ := List.mem_map.mp hx
    have := (hp p hq).2.1
    omega
  exact ⟨fun p hq => h2 _ (List.mem_map_of_mem hq), h3⟩
theorem Ways.wholeB (O : NumD dl) (h : Ways r dl f) (hr : r ≤ 12) : (wholeF f).natAbs < 2 ^ 1321 := by
  have hp := h.pos O
  have := lcmF_le (B := 110) (xs := f.map (·.2)) (Int.le_refl 1) (fun x hx => by
    obtain ⟨p, hq, rfl⟩ := List.mem_map.mp hx
    have := (hp p hq).2
    exact ⟨by omega, this.2⟩) (A := 1) (by decide)
  refine Nat.lt_of_lt_of_le this (Nat.pow_le_pow_right (by decide) ?_)
  rw [List.length_map]
  have := h.1
  omega
theorem Ways.k (O : NumD dl) (h : Ways r dl f) {p : Int × Int} (hp : p ∈ f) : p.1 * wholeF f / p.2 * p.2 = p.1 * wholeF f ∧ 1 ≤ p.1 * wholeF f / p.2 := by
  obtain ⟨h1, h2⟩ := h.whole O
  obtain ⟨⟨p1, _⟩, p2, _⟩ := h.pos O p hp
  have hd : p.2 ∣ p.1 * wholeF f := Int.dvd_mul_of_dvd_right (h1 p hp)
  have e := Int.ediv_mul_cancel hd
  refine ⟨e, ?_⟩
  have h3 : 1 ≤ p.1 * wholeF f := by
    have := Int.mul_le_mul p1 h2 (by decide) (by omega)
    omega
  rcases Int.lt_or_le 0 (p.1 * wholeF f / p.2) with q | q
  · omega
  · have := Int.mul_le_mul_of_nonneg_right q (show 0 ≤ p.2 by omega)
    omega
theorem Ways.ne (h : Ways r dl f) (hr : 1 ≤ r) : ∃ p, p ∈ f := by
  cases f with
  | nil => have := h.1; simp at this; omega
  | cons p _ => exact ⟨p, List.mem_cons_self⟩
theorem Ways.gc (O : NumD dl) (h : Ways r dl f) (hr : 1 ≤ r) : 1 ≤ gcdF 0 (kF f) ∧ (∀ k ∈ kF f, 1 ≤ k) ∧ gcdF 0 (toldF f) = 1 ∧ ∀ k ∈ kF f, k / gcdF 0 (kF f) * gcdF 0 (kF f) = k ∧ 1 ≤ k / gcdF 0 (kF f) := by
  have hk : ∀ k ∈ kF f, 1 ≤ k := fun k hk => by
    obtain ⟨p, hp, rfl⟩ := List.mem_map.mp hk
    exact (h.k O hp).2
  obtain ⟨p, hp⟩ := h.ne hr
  have hg := (gcdF_pos (xs := kF f) ⟨_, List.mem_map_of_mem hp, (h.k O hp).2⟩).1
  have hd := (gcdF_dvd (xs := kF f) (c := 0)).2
  have hq : ∀ k ∈ kF f, k / gcdF 0 (kF f) * gcdF 0 (kF f) = k ∧ 1 ≤ k / gcdF 0 (kF f) := fun k hm => by
    have e := Int.ediv_mul_cancel (hd k hm)
    refine ⟨e, ?_⟩
    have k1 := hk k hm
    rcases Int.lt_or_le 0 (k / gcdF 0 (kF f)) with q | q
    · omega
    · have := Int.mul_le_mul_of_nonneg_right q (show 0 ≤ gcdF 0 (kF f) by omega)
      omega
  refine ⟨hg, hk, ?_, hq⟩
  have e : (toldF f).map (fun x => gcdF 0 (kF f) * x) = kF f := by
    unfold toldF
    rw [List.map_map]
    refine (List.map_congr_left (g := id) fun k hm => ?_).trans (List.map_id _)
    show gcdF 0 (kF f) * (k / gcdF 0 (kF f)) = k
    rw [Int.mul_comm]; exact (hq k hm).1
  have m := gcdF_mul (a := gcdF 0 (kF f)) (by omega) (xs := toldF f) (c := 0)
  rw [Int.mul_zero, e] at m
  exact Int.eq_of_mul_eq_mul_left (by omega : gcdF 0 (kF f) ≠ 0) (by rw [← m, Int.mul_one])
theorem told_len (h : Ways r dl f) : ((toldF f).length : Int) = r := by
  unfold toldF kF
  rw [List.length_map, List.length_map]; exact h.1
/-- lengths that fit are what is told, so many times -/
theorem Ways.prop (O : NumD dl) (h : Ways r dl f) (hr : 1 ≤ r) {ls : List Int} (L : Lens r dl ls) : ∃ B : Int, 1 ≤ B ∧ ls.map (fun x => wholeF f * x) = (toldF f).map fun x => B * x := by
  obtain ⟨g1, _, _, hq⟩ := h.gc O hr
  have l0 := L.gt (i := 0) (Int.le_refl 0) (by omega)
  refine ⟨ls.getD 0 0 * gcdF 0 (kF f), ?_, ?_⟩
  · have l0 : 1 ≤ ls.getD 0 0 := l0
    have := Int.mul_le_mul l0 g1 (by decide) (by omega)
    omega
  · have hl : ls.length = f.length := by have := L.len; have := h.1; omega
    refine List.ext_getElem (by rw [List.length_map, List.length_map, hl]; unfold toldF kF; rw [List.length_map, List.length_map]) fun i h1 h2 => ?_
    have hi : i < ls.length := by rw [List.length_map] at h1; exact h1
    have hf : i < f.length := by omega
    rw [List.getElem_map, List.getElem_map]
    have et : (toldF f)[i]'(by rw [List.length_map] at h2; exact h2) = f[i].1 * wholeF f / f[i].2 / gcdF 0 (kF f) := by
      unfold toldF
      rw [List.getElem_map]
      unfold kF
      rw [List.getElem_map]
    rw [et]
    have hm : f[i] ∈ f := List.getElem_mem hf
    obtain ⟨ps, c1, c2, _, e⟩ := h.2 i f[i] (List.getElem?_eq_getElem hf)
    have R := L.rat O c1
    rw [c2] at R
    have k1 := (h.k O hm).1
    have k2 := (hq _ (List.mem_map_of_mem (f := fun p : Int × Int => p.1 * wholeF f / p.2) hm)).1
    have p2 := (h.pos O _ hm).2.1
    have e1 : (ratG dl ps).2 = f[i].1 := by rw [e]
    have e2 : ((ratG dl ps).1.natAbs : Int) = f[i].2 := by rw [e]
    rw [e1, e2] at R
    have ei : ls.getD ((i : Int)).toNat 0 = ls[i] := by
      rw [Int.toNat_natCast, List.getD_eq_getElem?_getD, List.getElem?_eq_getElem hi]; rfl
    have e0 : ls.getD ((0 : Int)).toNat 0 = ls.getD 0 0 := rfl
    rw [ei, e0] at R
    generalize f[i].1 * wholeF f / f[i].2 / gcdF 0 (kF f) = T at *
    generalize ls[i] = x at *
    generalize ls.getD 0 0 = y at *
    generalize gcdF 0 (kF f) = g at *
    refine Int.eq_of_mul_eq_mul_left (show f[i].2 ≠ 0 by omega) ?_
    calc f[i].2 * (wholeF f * x) = wholeF f * (f[i].2 * x) := by ac_rfl
      _ = (f[i].1 * wholeF f) * y := by rw [← R]; ac_rfl
      _ = (T * g * f[i].2) * y := by rw [← k1, k2]
      _ = f[i].2 * (y * g * T) := by ac_rfl
theorem map_getD {c : Int} : ∀ (l : List Int) (i : Nat), (l.map fun x => c * x).getD i 0 = c * l.getD i 0
  | [], i => by simp
  | x :: l, 0 => by simp
  | x :: l, i + 1 => by
    have := map_getD (c := c) l i
    simpa using this
/-- lengths that fit: those told do -/
theorem Ways.told (O : NumD dl) (h : Ways r dl f) (hr : 1 ≤ r) {ls : List Int} (L : Lens r dl ls) : Lens r dl (toldF f) := by
  obtain ⟨B, hB, e⟩ := h.prop O hr L
  refine ⟨told_len h, fun x hx => ?_, fun d hd => ?_⟩
  · obtain ⟨k, hk, rfl⟩ := List.mem_map.mp hx
    exact ((h.gc O hr).2.2.2 k hk).2
  · have ft := L.fit d hd
    have w1 := (h.whole O).2
    have e1 : wholeF f * ls.getD d.near.toNat 0 = B * (toldF f).getD d.near.toNat 0 := by rw [← map_getD, e, map_getD]
    have e2 : wholeF f * ls.getD d.far.toNat 0 = B * (toldF f).getD d.far.toNat 0 := by rw [← map_getD, e, map_getD]
    refine Int.eq_of_mul_eq_mul_left (show B ≠ 0 by omega) ?_
    calc B * ((d.first.natAbs : Int) * (toldF f).getD d.near.toNat 0) = (d.first.natAbs : Int) * (B * (toldF f).getD d.near.toNat 0) := by ac_rfl
      _ = wholeF f * ((d.first.natAbs : Int) * ls.getD d.near.toNat 0) := by rw [← e1]; ac_rfl
      _ = (d.second.natAbs : Int) * (wholeF f * ls.getD d.far.toNat 0) := by rw [ft]; ac_rfl
      _ = _ := by rw [e2]; ac_rfl
theorem Ways.one (O : NumD dl) (h : Ways r dl f) (hr : 1 ≤ r) {ls : List Int} (P : Prim r dl ls) : ls = toldF f := by
  obtain ⟨B, hB, e⟩ := h.prop O hr P.1
  have w1 := (h.whole O).2
  have m1 := gcdF_mul (a := wholeF f) (by omega) (xs := ls) (c := 0)
  have m2 := gcdF_mul (a := B) (by omega) (xs := toldF f) (c := 0)
  rw [Int.mul_zero] at m1 m2
  rw [P.2, e, m2, (h.gc O hr).2.2.1, Int.mul_one, Int.mul_one] at m1
  rw [m1] at e
  have w0 : wholeF f ≠ 0 := by omega
  refine List.map_inj_right (f := fun x => wholeF f * x) (fun x y q => Int.eq_of_mul_eq_mul_left w0 q) |>.mp e
/-- what is told is the lengths, if it fits; otherwise there are none -/
theorem lens_told (O : NumD dl) (h : Ways r dl f) (hr : 1 ≤ r) : (Lens r dl (toldF f) → lensO r dl = some (toldF f)) ∧ (¬ Lens r dl (toldF f) → lensO r dl = none) := by
  constructor
  · intro L
    have ex : ∃ ls, Prim r dl ls := ⟨_, L, (h.gc O hr).2.2.1⟩
    unfold lensO
    rw [dif_pos ex]
    exact congrArg some (h.one O hr ex.choose_spec)
  · intro n
    unfold lensO
    rw [dif_neg]
    rintro ⟨ls, P⟩
    exact n (h.told O hr P.1)
theorem told_b (O : NumD dl) (h : Ways r dl f) (hr : 1 ≤ r) (h12 : r ≤ 12) : (∀ x ∈ toldF f, 1 ≤ x ∧ x.natAbs < 2 ^ 1431) ∧ (∀ k ∈ kF f, k.natAbs < 2 ^ 1431) := by
  obtain ⟨g1, hk, _, hq⟩ := h.gc O hr
  have hw := h.wholeB O h12
  have hkb : ∀ k ∈ kF f, k.natAbs < 2 ^ 1431 := fun k hk => by
    obtain ⟨p, hp, rfl⟩ := List.mem_map.mp hk
    have h1 : (p.1 * wholeF f / p.2).natAbs ≤ p.1.natAbs * (wholeF f).natAbs := by rw [← Int.natAbs_mul]; exact Int.natAbs_ediv_le_natAbs _ _
    refine Nat.lt_of_le_of_lt h1 ?_
    rw [show (2 : Nat) ^ 1431 = 2 ^ 110 * 2 ^ 1321 from by rw [← Nat.pow_add]]
    exact Nat.mul_lt_mul'' (h.pos O p hp).1.2 hw
  refine ⟨fun x hx => ?_, hkb⟩
  obtain ⟨k, hm, rfl⟩ := List.mem_map.mp hx
  exact ⟨(hq k hm).2, Nat.lt_of_le_of_lt (Int.natAbs_ediv_le_natAbs _ _) (hkb k hm)⟩
end
/-- what lengths are -/
theorem lensO_some {r : Int} {dl : List Door} {ls : List Int} (h : lensO r dl = some ls) : Prim r dl ls := by
  unfold lensO at h
  split at h
  · rename_i ex
    injection h with h
    rw [← h]; exact ex.choose_spec
  · cases h
/-- any value: whether it is lengths of a house -/
def posB : D → Bool
  | .int i => decide (1 ≤ i)
  | _ => false
def ofI : D → Int
  | .int i => i
  | _ => 0
def fitsB (dl : List Door) (ls : List Int) : Bool := dl.all fun d => decide ((d.first.natAbs : Int) * ls.getD d.near.toNat 0 = (d.second.natAbs : Int) * ls.getD d.far.toNat 0)
def lensB (r : Int) (dl : List Door) : D → Bool
  | .tup l => decide ((l.length : Int) = r) && (l.all posB && fitsB dl (l.map ofI))
  | _ => false
theorem ofI_map (ls : List Int) : (ls.map D.int).map ofI = ls := by rw [List.map_map]; exact List.map_id' _
theorem posB_all {l : List D} (h : l.all posB = true) : l = (l.map ofI).map D.int ∧ ∀ x ∈ l.map ofI, 1 ≤ x := by
  have h := List.all_eq_true.mp h
  constructor
  · rw [List.map_map]
    refine ((List.map_congr_left (g := id) fun d hd => ?_).trans (List.map_id _)).symm
    have := h d hd
    cases d <;> first | rfl | cases this
  · intro x hx
    obtain ⟨d, hd, rfl⟩ := List.mem_map.mp hx
    have := h d hd
    cases d <;> first | exact of_decide_eq_true this | cases this
theorem lensB_iff {r : Int} {dl : List Door} {ls : List Int} : lensB r dl (.tup (ls.map D.int)) = true ↔ Lens r dl ls := by
  show (decide (((ls.map D.int).length : Int) = r) && ((ls.map D.int).all posB && fitsB dl ((ls.map D.int).map ofI))) = true ↔ _
  rw [ofI_map, Bool.and_eq_true, Bool.and_eq_true, decide_eq_true_iff, List.length_map]
  unfold fitsB
  rw [List.all_eq_true, List.all_eq_true]
  constructor
  · rintro ⟨h1, h2, h3⟩
    exact ⟨h1, fun x hx => of_decide_eq_true (h2 (.int x) (List.mem_map_of_mem hx)), fun d hd => of_decide_eq_true (h3 d hd)⟩
  · intro L
    refine ⟨L.len, fun d hd => ?_, fun d hd => decide_eq_true (L.fit d hd)⟩
    obtain ⟨x, hx, rfl⟩ := List.mem_map.mp hd
    exact decide_eq_true (L.pos x hx)
end HD

namespace HD
open PySem PySem.Spec PyProof.Rows L2
/-! ### comprehensions with two fors; starred items -/
section
variable {W : Wd} {n : Nat} {ρ : Rho} {K : PySem.W.Frag} {P : Nat → D → Prop}
theorem sub_zip {xs : List L2.V} {acc : List D} {A B : TL} (h : ∀ p, p ∈ A → p ∈ B) : ∀ p, p ∈ zipT xs acc ++ A → p ∈ zipT xs acc ++ B := fun p hp => by
  rcases List.mem_append.mp hp with z | z
  · exact List.mem_append_left _ z
  · exact List.mem_append_right _ (h p z)
/-- the list so far -/
def acc2 (f : D → D → D) (es : List D) (ds : List D) : List D := (ds.map fun d => es.map (f d)).flatten
theorem acc2_snoc {f : D → D → D} {es ds : List D} {d : D} : acc2 f es (ds ++ [d]) = acc2 f es ds ++ es.map (f d) := by
  unfold acc2
  rw [List.map_append, List.flatten_append]
  simp
theorem acc2_len {f : D → D → D} {es : List D} : ∀ {ds : List D}, (acc2 f es ds).length = ds.length * es.length
  | [] => by unfold acc2; simp
  | d :: ds => by
    have ih := acc2_len (f := f) (es := es) (ds := ds)
    unfold acc2 at ih ⊢
    rw [List.map_cons, List.flatten_cons, List.length_append, ih, List.length_map, List.length_cons, Nat.succ_mul, Nat.add_comm]
theorem df_lc2 {wi wi1 : TI} {g g1 : TG} {S S1 vs vs1 : List Nat} {te : TE} (f : D → D → D) (es : List D) (hno : NoOwn ρ vs) (hS : ∀ i, i ∈ S → i ∈ vs) (hS1 : ∀ i, i ∈ S1 → i ∈ vs1)
    (h : DI wi W n ρ fun n ds => ds.length * es.length ≤ 100000 ∧ (∀ n d, d ∈ ds → DG g S d W (wipeR ρ vs) fun ρ2 => NoOwn ρ2 vs1 ∧ DI wi1 W n ρ2 fun n es' => es' = es ∧ ∀ n e, e ∈ es → DG g1 S1 e W (wipeR ρ2 vs1) fun ρ3 => DE te W n ρ3 fun _ y => y = f d e) ∧ ∀ n, P n (.lst (acc2 f es ds))) :
    DF (tLc2 wi g tYes wi1 g1 tYes te vs vs1) W n ρ P := fun Z T σ H e Q k =>
  h Z T σ H e _ fun n J ds T0 H1 ⟨hsz, hb, hd⟩ e1 ok => by
    intro D0 hD
    refine ⟨fun i m H => m = ds.length - i ∧ i ≤ ds.length ∧ ∃ n xs, xs.length = (acc2 f es (ds.take i)).length ∧ Env W n ((D0, .lst xs) :: Z) (zipT xs (acc2 f es (ds.take i)) ++ (T0 ++ T)) ρ σ H, ⟨_, rfl, Nat.zero_le _, n, [], rfl, e1.lay hD⟩, ?_⟩
    rintro i m H2 ⟨rfl, hi, n, xs, hl, e2⟩
    have o := ok n _ _ ρ σ H2 (fun p hp => List.mem_append_right _ (List.mem_append_left _ hp)) e2 i
    by_cases hlt : i < ds.length
    · refine .inr ⟨(o.1 hlt).1, fun H3 => ∃ n xs, xs.length = (acc2 f es (ds.take (i + 1))).length ∧ Env W n ((D0, .lst xs) :: Z) (zipT xs (acc2 f es (ds.take (i + 1))) ++ (T0 ++ T)) ρ σ H3, fun H3 ⟨n, xs, l3, e3⟩ => ⟨ds.length - (i + 1), by omega, rfl, hlt, n, xs, l3, e3⟩, fun x H3 y => ?_⟩
      obtain ⟨d, hd', e3⟩ := (o.1 hlt).2 x H3 y
      obtain ⟨T1, e4, back⟩ := e3.wipes vs hno
      have ix : Is (XX W ((D0, .lst xs) :: Z) (wipeR ρ vs) (wipe σ vs)) H3 x d := e4.t (x, d) (List.mem_append_right _ List.mem_cons_self)
      refine hb n d (List.mem_of_getElem? hd') n _ _ (wipe σ vs) H3 x e4 ix _ fun ρ2 σ2 ⟨hno2, p2⟩ e5 ag => ⟨wipe_agree hS ag, ?_⟩
      have hlen : (wipe σ vs).length = (wipeR ρ vs).length := by rw [wipe_length, wipeR_len]; exact e.len
      have home : ∀ (n : Nat) (H' : Hp) (Z' : ZL) (T' : TL), Env W n Z' (T1 ++ T') ρ2 σ2 H' → Env W n Z' T' ρ σ H' := fun n H' Z' T' e' => back n H' Z' T' (e'.unset ag hlen fun i b hi => wipeR_none vs i (hS i hi) b)
      have hts := take_snoc hd'
      have hacc : acc2 f es (ds.take (i + 1)) = acc2 f es (ds.take i) ++ es.map (f d) := by rw [hts, acc2_snoc]
      have hal : (acc2 f es (ds.take i)).length + es.length ≤ 100000 := by
        have h1 := acc2_len (f := f) (es := es) (ds := ds.take (i + 1))
        have h2 : (ds.take (i + 1)).length ≤ ds.length := by rw [List.length_take]; omega
        have h3 := Nat.mul_le_mul_right es.length h2
        rw [hacc, List.length_append, List.length_map] at h1
        omega
      unfold tYes
      dsimp only
      rw [if_pos rfl]
      refine p2 _ _ σ2 H3 e5 _ fun n J1 es' T2 H4 ⟨he', hbe⟩ e6 ok1 => ?_
      subst he'
      generalize acc2 f es' (ds.take i) = acc at *
      have hsub : ∀ p, p ∈ T2 ++ (T1 ++ ((x, d) :: (T0 ++ T))) → p ∈ T2 ++ (T1 ++ ((x, d) :: (zipT xs acc ++ (T0 ++ T)))) := fun p hp => by
        rcases List.mem_append.mp hp with z | z
        · exact List.mem_append_left _ z
        · rcases List.mem_append.mp z with z | z
          · exact List.mem_append_right _ (List.mem_append_left _ z)
          · rcases List.mem_cons.mp z with z | z
            · rw [z]; exact List.mem_append_right _ (List.mem_append_right _ List.mem_cons_self)
            · exact List.mem_append_right _ (List.mem_append_right _ (List.mem_cons_of_mem _ (List.mem_append_right _ z)))
      refine ⟨fun j k H => k = es'.length - j ∧ j ≤ es'.length ∧ ∃ n ys, ys.length = (acc ++ (es'.take j).map (f d)).length ∧ Env W n ((D0, .lst ys) :: Z) (zipT ys (acc ++ (es'.take j).map (f d)) ++ (T2 ++ (T1 ++ ((x, d) :: (T0 ++ T))))) ρ2 σ2 H, ⟨_, rfl, Nat.zero_le _, n, xs, by rw [List.take_zero, List.map_nil, List.append_nil]; exact hl, ?_⟩, ?_⟩
      · rw [List.take_zero, List.map_nil, List.append_nil]
        refine e6.pop fun p hp => ?_
        rcases List.mem_append.mp hp with z | z
        · exact List.mem_append_right _ (List.mem_append_right _ (List.mem_cons_of_mem _ (List.mem_append_left _ z)))
        · exact hsub p z
      rintro j k H5 ⟨rfl, hj, n, ys, hyl, e7⟩
      have o1 := ok1 n _ _ ρ2 σ2 H5 (fun p hp => List.mem_append_right _ (List.mem_append_left _ hp)) e7 j
      by_cases hjl : j < es'.length
      · refine .inr ⟨(o1.1 hjl).1, fun H => ∃ n ys, ys.length = (acc ++ (es'.take (j + 1)).map (f d)).length ∧ Env W n ((D0, .lst ys) :: Z) (zipT ys (acc ++ (es'.take (j + 1)).map (f d)) ++ (T2 ++ (T1 ++ ((x, d) :: (T0 ++ T))))) ρ2 σ2 H, fun H ⟨n, ys, l3, e3⟩ => ⟨es'.length - (j + 1), by omega, rfl, hjl, n, ys, l3, e3⟩, fun z H6 y1 => ?_⟩
        obtain ⟨de, hde, e8⟩ := (o1.1 hjl).2 z H6 y1
        obtain ⟨T3, e9, back1⟩ := e8.wipes vs1 hno2
        have iz : Is (XX W ((D0, .lst ys) :: Z) (wipeR ρ2 vs1) (wipe σ2 vs1)) H6 z de := e9.t (z, de) (List.mem_append_right _ List.mem_cons_self)
        refine hbe n de (List.mem_of_getElem? hde) n _ _ (wipe σ2 vs1) H6 z e9 iz _ fun ρ3 σ3 p3 e10 ag1 => ⟨wipe_agree hS1 ag1, ?_⟩
        have hlen1 : (wipe σ2 vs1).length = (wipeR ρ2 vs1).length := by rw [wipe_length, wipeR_len]; exact e5.len
        have home1 : ∀ (n : Nat) (H' : Hp) (Z' : ZL) (T' : TL), Env W n Z' (T3 ++ T') ρ3 σ3 H' → Env W n Z' T' ρ2 σ2 H' := fun n H' Z' T' e' => back1 n H' Z' T' (e'.unset ag1 hlen1 fun i b hi => wipeR_none vs1 i (hS1 i hi) b)
        rw [if_pos rfl]
        refine p3 _ _ σ3 H6 e10 _ fun n v y H7 hy e11 iv => ?_
        subst hy
        have hacc2 : acc ++ (es'.take (j + 1)).map (f d) = acc ++ (es'.take j).map (f d) ++ [f d de] := by rw [take_snoc hde, List.map_append, List.append_assoc]; rfl
        have hyl2 : ys.length < 100000 := by
          rw [hyl, List.length_append, List.length_map, List.length_take]
          omega
        rw [hacc2]
        generalize acc ++ (es'.take j).map (f d) = ac2 at *
        have e12 : Env W n ((D0, .lst ys) :: Z) ((v, f d de) :: (zipT ys ac2 ++ (T2 ++ (T1 ++ ((x, d) :: (T0 ++ T)))))) ρ2 σ2 H7 := by
          refine home1 _ H7 _ _ ((e11.push iv).pop fun p hp => ?_)
          rcases List.mem_append.mp hp with z | z
          · exact List.mem_cons_of_mem _ (List.mem_append_left _ z)
          · rcases List.mem_cons.mp z with z | z
            · rw [z]; exact List.mem_cons_self
            · exact List.mem_cons_of_mem _ (List.mem_append_right _ (List.mem_cons_of_mem _ z))
        refine ⟨ys, (e12.z (D0, .lst ys) List.mem_cons_self).1, szlt hyl2, n, ys ++ [v], by rw [List.length_append, List.length_append, hyl]; rfl, ?_⟩
        refine (e12.zput (o := .lst ys) (fun h => h)).pop fun p hp => ?_
        unfold zipT at hp
        rw [List.zip_append hyl, List.append_assoc] at hp
        rcases List.mem_append.mp hp with z | z
        · exact List.mem_cons_of_mem _ (List.mem_append_left _ z)
        · rcases List.mem_append.mp z with z | z
          · have : p = (v, f d de) := by simpa using z
            rw [this]; exact List.mem_cons_self
          · exact List.mem_cons_of_mem _ (List.mem_append_right _ z)
      · have e0 : j = es'.length := by omega
        subst e0
        refine .inl ⟨o1.2 (Nat.le_refl _), ?_⟩
        rw [List.take_length] at hyl e7
        show ∃ n xs, _
        rw [hacc]
        refine ⟨n, ys, hyl, home _ H5 _ _ (e7.pop fun p hp => ?_)⟩
        rcases List.mem_append.mp hp with z | z
        · exact List.mem_append_right _ (List.mem_append_right _ (List.mem_append_left _ z))
        · rcases List.mem_append.mp z with z | z
          · exact List.mem_append_left _ z
          · exact List.mem_append_right _ (List.mem_append_right _ (List.mem_append_right _ (List.mem_cons_of_mem _ z)))
    · have e0 : i = ds.length := by omega
      subst e0
      rw [List.take_length] at hl e2
      refine .inl ⟨o.2 (Nat.le_refl _), k _ D0 (.lst xs) (.lst (acc2 f es ds)) H2 (hd _) e2.popAll.popAll (.lst (e2.topAll hl))⟩
/-- *e, .. -/
theorem da_star {te : TE} {t : TA} {P : Nat → List D → Prop} (h : DE te W n ρ fun n d => ∃ l, (d = .tup l ∨ d = .lst l) ∧ DA t W n ρ fun n ds => P n (l ++ ds)) : DA (StX.tStar K te t) W n ρ P := fun Z T σ H e Q k =>
  h Z T σ H e _ fun n v d H1 ⟨l, hd, p⟩ e1 iv => by
    rcases hd with rfl | rfl
    · cases iv with
      | @tup a xs _ hx hr ha =>
        have hl := ha.len
        refine ⟨a, xs, rfl, .inl (.of hr), ?_⟩
        refine p Z (zipT xs l ++ T) σ H1 (e1.pushAll ha) _ fun n vs ds H2 q e2 i2 => ?_
        exact k _ _ _ _ q e2.popAll ((e2.topAll hl).append i2)
    · cases iv with
      | @lst a xs _ hx hr ha =>
        have hl := ha.len
        refine ⟨a, xs, rfl, .inr (.of hr), ?_⟩
        refine p Z (zipT xs l ++ T) σ H1 (e1.pushAll ha) _ fun n vs ds H2 q e2 i2 => ?_
        exact k _ _ _ _ q e2.popAll ((e2.topAll hl).append i2)
end
theorem pa_starK {X : Cx} {K : PySem.W.Frag} {e : Expr} {es : List Expr} {te : TE} {t : TA} {p : Pos} (hK : X.K = K) (he : PE X e te) (hr : PA X es t) (hs : starEach (.Starred e p :: es) X.env = (true, eval e X.env) :: starEach es X.env := by rfl) : PA X (.Starred e p :: es) (StX.tStar K te t) := by
  subst hK
  exact StX.pa_star he hr hs
section
variable {W : Wd} {n : Nat} {ρ : Rho} {N : Nat → Rho → Prop} {R : Nat → Bool → D → Prop} {B C : Nat → Rho → Prop} {K : PySem.W.Frag} {te : TE}
/-- x = xs.pop(e), xs a slot's own -/
theorem ds_popAt {i j : Nat} {es : List D} (hj : ρ[j]? = some (some (true, .lst es)))
    (k : DE te W n ρ fun n d => ∃ (q : Nat) (x : D), d = .int (q : Int) ∧ q < 2 ^ 62 ∧ es[q]? = some x ∧ N n ((ρ.set j (some (true, .lst (es.eraseIdx q)))).set i (some (false, x)))) :
    DS (tAsg (tBM K "list" rPopAt (tVar j) (tCons te tNil)) (gName i)) W n ρ N R B C := fun Z T σ H e De f => by
  obtain ⟨b, ys, g1, g2, g3⟩ := own_lst e hj
  refine ⟨.ref b, g1, tyL g2, k Z T σ H e _ fun n v d H' ⟨q, x, ed, hq, hx, pn⟩ e' iv => ?_⟩
  subst ed
  cases iv
  obtain ⟨ys', k1, k2⟩ := own_same e' e' hj g1
  have hlen := k2.len
  have hqlt : q < es.length := (List.getElem?_eq_some_iff.mp hx).1
  obtain ⟨y, hy, iy⟩ := k2.got hx
  refine ⟨b, ys', (q : Int), q, y, rfl, rfl, k1, by omega, by omega, ?_, hy, ?_⟩
  · rw [hlen]
    unfold seqIndex?
    have a1 : ¬ ((q : Int) < 0) := by omega
    have a2 : (0 ≤ (q : Int) && decide ((q : Int) < (es.length : Int))) = true := by
      rw [Bool.and_eq_true, decide_eq_true_iff, decide_eq_true_iff]; omega
    simp only [if_neg a1]
    first | rw [if_pos a2]; simp | simp [hqlt]
  · have e1 := (e'.push iy).put hj g1 (.lst (k2.eraseIdx q))
    exact f.nx _ _ _ _ pn (e1.set e1.top).pop1
end
theorem pi_seqK {X : Cx} {K : PySem.W.Frag} {tg l : Expr} {tl : TE} (hK : X.K = K) (hl : PE X l tl) : PI X tg l (iSeq K tl) := by
  subst hK
  exact pi_seq hl
end HD

namespace HD
open PySem PySem.Spec PyProof.Rows L2
/-! ### rounds: ratios of walks that come home (plain Lean) -/
theorem pr_back {dl : List Door} : ∀ {ps : List Ps}, (∀ p ∈ ps, psOk dl p) → prL dl (ps.reverse.map bk) = prA dl ps ∧ prA dl (ps.reverse.map bk) = prL dl ps
  | [], _ => ⟨rfl, rfl⟩
  | p :: ps, h => by
    obtain ⟨h1, h2⟩ := pr_back (ps := ps) fun q hq => h q (List.mem_cons_of_mem _ hq)
    have g := gat_bk (h p List.mem_cons_self)
    rw [List.reverse_cons, List.map_append, prL_app, prA_app, h1, h2]
    have e1 : prL dl ([p].map bk) = (gat dl p).second := by show (gat dl (bk p)).first * 1 = _; rw [g, Int.mul_one]; rfl
    have e2 : prA dl ([p].map bk) = (gat dl p).first := by show (gat dl (bk p)).second * 1 = _; rw [g, Int.mul_one]; rfl
    rw [e1, e2]
    exact ⟨Int.mul_comm _ _, Int.mul_comm _ _⟩
/-- neither 1 nor -1 is no stretching -/
def oneQ (q : Int × Int) : Prop := q = (1, 1) ∨ q = (-1, 1)
instance (q : Int × Int) : Decidable (oneQ q) := inferInstanceAs (Decidable (_ ∨ _))
theorem one_of_abs {q : Int × Int} (h : Low q) (e : (q.1.natAbs : Int) = q.2) : oneQ q := by
  have h1 := h.co
  have h2 := h.pos
  have : Int.gcd q.1 q.2 = q.1.natAbs := by
    rw [Int.gcd_eq_natAbs_gcd_natAbs, ← e, Int.natAbs_natCast, Nat.gcd_self]
  rw [this] at h1
  obtain ⟨a, b⟩ := q
  dsimp only at *
  rcases Int.natAbs_eq a with z | z
  · exact .inl (Prod.ext (by show a = 1; omega) (by show b = 1; omega))
  · exact .inr (Prod.ext (by show a = -1; omega) (by show b = 1; omega))
theorem abs_of_one {q : Int × Int} (h : oneQ q) : (q.1.natAbs : Int) = q.2 := by
  rcases h with h | h <;> rw [h] <;> rfl
theorem rat_abs {dl : List Door} (O : NumD dl) (ps : List Ps) : ((ratG dl ps).1.natAbs : Int) * ((prL dl ps).natAbs : Int) = (ratG dl ps).2 * ((prA dl ps).natAbs : Int) := by
  obtain ⟨h1, h2, _, _, h3⟩ := ratG_ok O (ps := ps)
  have := congrArg Int.natAbs h2
  rw [Int.natAbs_mul, Int.natAbs_mul] at this
  have e : ((ratG dl ps).2.natAbs : Int) = (ratG dl ps).2 := Int.natAbs_of_nonneg (Int.le_of_lt h1.pos)
  rw [← e, ← Int.natCast_mul, ← Int.natCast_mul, this]
/-- where lengths fit, walks that come home have the ratio 1 or -1 -/
theorem round_one {r : Int} {dl : List Door} {ls : List Int} (O : NumD dl) (L : Lens r dl ls) {a : Int} (a0 : 0 ≤ a) (a1 : a < r) {ps : List Ps} (h : chain dl a ps) (e : endR dl a ps = a) : oneQ (ratG dl ps) := by
  have R := L.rat O h
  rw [e] at R
  have x0 := L.gt a0 a1
  refine one_of_abs (ratG_ok O).1 ?_
  exact (Int.eq_of_mul_eq_mul_right (show ls.getD a.toNat 0 ≠ 0 by omega) R).symm
theorem one_prod {dl : List Door} (O : NumD dl) {ps : List Ps} (h : oneQ (ratG dl ps)) : ((prL dl ps).natAbs : Int) = ((prA dl ps).natAbs : Int) := by
  have e := rat_abs O ps
  rw [abs_of_one h] at e
  have p := (ratG_ok O (ps := ps)).1.pos
  exact Int.eq_of_mul_eq_mul_left (by omega) e
/-- ways to all rooms -/
structure WayF (r : Int) (dl : List Door) (way : Int → List Ps) : Prop where
  ch : ∀ x, 0 ≤ x → x < r → chain dl 0 (way x) ∧ endR dl 0 (way x) = x ∧ (way x).length ≤ 11
def wayR (r : Int) (dl : List Door) (way : Int → List Ps) : List (Int × Int) := (List.range r.toNat).map fun c : Nat => ((ratG dl (way (c : Int))).2, ((ratG dl (way (c : Int))).1.natAbs : Int))
theorem wayR_ok {r : Int} {dl : List Door} {way : Int → List Ps} (r0 : 0 ≤ r) (h : WayF r dl way) : Ways r dl (wayR r dl way) := by
  refine ⟨by unfold wayR; rw [List.length_map, List.length_range]; omega, fun i p e => ?_⟩
  unfold wayR at e
  rw [List.getElem?_map] at e
  cases q : (List.range r.toNat)[i]? with
  | none => rw [q] at e; cases e
  | some c =>
    rw [q] at e
    have hc := List.getElem?_eq_some_iff.mp q
    obtain ⟨hi, hc⟩ := hc
    rw [List.getElem_range] at hc
    subst hc
    rw [List.length_range] at hi
    obtain ⟨h1, h2, h3⟩ := h.ch (i : Int) (by omega) (by omega)
    exact ⟨_, h1, h2, h3, (Option.some.inj e).symm⟩
/-- there through a door and home -/
def roundP (way : Int → List Ps) (i : Nat) (d : Door) : List Ps := way d.near ++ [((i : Int), (0 : Int))] ++ (way d.far).reverse.map bk
theorem gat_at {dl : List Door} {i : Nat} {d : Door} (h : dl[i]? = some d) : gat dl ((i : Int), 0) = d := by
  unfold gat
  rw [if_pos rfl, List.getD_eq_getElem?_getD, Int.toNat_natCast, h]; rfl
theorem told_at {r : Int} {dl : List Door} {way : Int → List Ps} (O : NumD dl) (r1 : 1 ≤ r) (h : WayF r dl way) {x : Int} (x0 : 0 ≤ x) (x1 : x < r) :
    (toldF (wayR r dl way)).getD x.toNat 0 * gcdF 0 (kF (wayR r dl way)) * ((prA dl (way x)).natAbs : Int) = wholeF (wayR r dl way) * ((prL dl (way x)).natAbs : Int) := by
  have W := wayR_ok (by omega) h
  obtain ⟨_, _, _, hq⟩ := W.gc O r1
  have hlt : x.toNat < (wayR r dl way).length := by have := W.1; omega
  have hx : (wayR r dl way)[x.toNat] = ((ratG dl (way x)).2, ((ratG dl (way x)).1.natAbs : Int)) := by
    have e : (wayR r dl way)[x.toNat]? = some ((ratG dl (way x)).2, ((ratG dl (way x)).1.natAbs : Int)) := by
      unfold wayR
      rw [List.getElem?_map, List.getElem?_range (by omega)]
      show some ((ratG dl (way ((x.toNat : Nat) : Int))).2, ((ratG dl (way ((x.toNat : Nat) : Int))).1.natAbs : Int)) = _
      rw [show ((x.toNat : Nat) : Int) = x by omega]
    exact (List.getElem?_eq_some_iff.mp e).2
  have hm : (wayR r dl way)[x.toNat] ∈ wayR r dl way := List.getElem_mem hlt
  have k1 := (W.k O hm).1
  have k2 := (hq _ (List.mem_map_of_mem (f := fun p : Int × Int => p.1 * wholeF (wayR r dl way) / p.2) hm)).1
  have et : (toldF (wayR r dl way)).getD x.toNat 0 = (wayR r dl way)[x.toNat].1 * wholeF (wayR r dl way) / (wayR r dl way)[x.toNat].2 / gcdF 0 (kF (wayR r dl way)) := by
    unfold toldF
    rw [List.getD_eq_getElem?_getD, List.getElem?_map]
    unfold kF
    rw [List.getElem?_map, List.getElem?_eq_getElem hlt]; rfl
  rw [et, k2]
  rw [hx] at k1 ⊢
  have ra := rat_abs O (way x)
  have t0 := (ratG_ok O (ps := way x)).2.2.2.2
  dsimp only at k1 ⊢
  refine Int.eq_of_mul_eq_mul_left (show ((ratG dl (way x)).1.natAbs : Int) ≠ 0 by omega) ?_
  generalize ((ratG dl (way x)).1.natAbs : Int) = t at *
  generalize (ratG dl (way x)).2 = b at *
  generalize ((prA dl (way x)).natAbs : Int) = PA at *
  generalize ((prL dl (way x)).natAbs : Int) = PL at *
  generalize wholeF (wayR r dl way) = w at *
  calc t * (b * w / t * PA) = b * w / t * t * PA := by ac_rfl
    _ = (b * PA) * w := by rw [k1]; ac_rfl
    _ = t * (w * PL) := by rw [← ra]; ac_rfl
/-- no round stretches: lengths fit -/
theorem rounds_lens {r : Int} {dl : List Door} {way : Int → List Ps} (O : NumD dl) (r1 : 1 ≤ r) (h : WayF r dl way) (hr : ∀ d ∈ dl, (0 ≤ d.near ∧ d.near < r) ∧ (0 ≤ d.far ∧ d.far < r)) (q : ∀ (i : Nat) (d : Door), dl[i]? = some d → oneQ (ratG dl (roundP way i d))) : Lens r dl (toldF (wayR r dl way)) := by
  have W := wayR_ok (by omega) h
  obtain ⟨g1, _, _, hq⟩ := W.gc O r1
  refine ⟨told_len W, fun x hx => ?_, fun d hd => ?_⟩
  · obtain ⟨k, hk, rfl⟩ := List.mem_map.mp hx
    exact (hq k hk).2
  · obtain ⟨i, hi, e⟩ := List.mem_iff_getElem.mp hd
    have hi' : dl[i]? = some d := by rw [List.getElem?_eq_getElem hi, e]
    have P := one_prod O (q i d hi')
    obtain ⟨⟨n0, n1⟩, m0, m1⟩ := hr d hd
    have A := told_at O r1 h n0 n1
    have B := told_at O r1 h m0 m1
    obtain ⟨b1, b2⟩ := pr_back (dl := dl) (ps := way d.far) (chain_all (h.ch d.far m0 m1).1)
    have eL : prL dl [((i : Int), (0 : Int))] = d.first := by show (gat dl ((i : Int), 0)).first * 1 = _; rw [gat_at hi', Int.mul_one]
    have eA : prA dl [((i : Int), (0 : Int))] = d.second := by show (gat dl ((i : Int), 0)).second * 1 = _; rw [gat_at hi', Int.mul_one]
    unfold roundP at P
    rw [prL_app, prL_app, prA_app, prA_app, b1, b2, eL, eA] at P
    simp only [Int.natAbs_mul, Int.natCast_mul] at P
    have z1 : ((prA dl (way d.near)).natAbs : Int) ≠ 0 := by have := prA_nz O (ps := way d.near); omega
    have z2 : ((prA dl (way d.far)).natAbs : Int) ≠ 0 := by have := prA_nz O (ps := way d.far); omega
    have z3 : gcdF 0 (kF (wayR r dl way)) ≠ 0 := by omega
    refine Int.eq_of_mul_eq_mul_left z3 (Int.eq_of_mul_eq_mul_left z1 (Int.eq_of_mul_eq_mul_left z2 ?_))
    generalize ((prA dl (way d.near)).natAbs : Int) = PA at *
    generalize ((prL dl (way d.near)).natAbs : Int) = PL at *
    generalize ((prA dl (way d.far)).natAbs : Int) = QA at *
    generalize ((prL dl (way d.far)).natAbs : Int) = QL at *
    generalize (toldF (wayR r dl way)).getD d.near.toNat 0 = x at *
    generalize (toldF (wayR r dl way)).getD d.far.toNat 0 = y at *
    generalize gcdF 0 (kF (wayR r dl way)) = g at *
    generalize wholeF (wayR r dl way) = w at *
    calc QA * (PA * (g * ((d.first.natAbs : Int) * x))) = (x * g * PA) * ((d.first.natAbs : Int) * QA) := by ac_rfl
      _ = w * (PL * (d.first.natAbs : Int) * QA) := by rw [A]; ac_rfl
      _ = (w * QL) * (PA * (d.second.natAbs : Int)) := by rw [P]; ac_rfl
      _ = QA * (PA * (g * ((d.second.natAbs : Int) * y))) := by rw [← B]; ac_rfl
theorem lens_ex {r : Int} {dl : List Door} (O : NumD dl) (r1 : 1 ≤ r) {way : Int → List Ps} (h : WayF r dl way) : (∃ ls, Lens r dl ls) ↔ ∃ ls, lensO r dl = some ls := by
  have W := wayR_ok (by omega) h
  constructor
  · rintro ⟨ls, L⟩
    exact ⟨_, (lens_told O W r1).1 (W.told O r1 L)⟩
  · rintro ⟨ls, e⟩
    exact ⟨ls, (lensO_some e).1⟩
end HD

namespace HD
open PySem PySem.Spec PyProof.Rows L2
/-! ### lists of lambdas -/
/-- a lambda's object -/
def LamO (q : Str) (params : Arguments) (body : Expr) (scope : Scope) (cl : List (Str × Addr)) (f c' : Addr) : HO := .ext fun h => ∃ pm ctv : Value, h.get? f = some (PySem.W.kla_obj "<lambda>" q params body scope cl pm c' ctv)
section
variable {X : Cx} {pins : List (Addr × Obj)} {σ : L2.St} {H : Hp} {s : Shared}
theorem mk_lam2 {T : List (Addr × Str)} {c P : Addr} {params : Arguments} {body : Expr} {scope : Scope} {pos : Pos} {E Q : Value → Shared → Prop} (I : L2.Inv X pins σ H s) (B : LamX.TabB X.base X.mg c P) (co : X.env.code = .ref c) (mem : (P, X.env.qual ++ "<lambda>") ∈ T)
    (only : ∀ p ∈ T, p.1 = P → p.2 = X.env.qual ++ "<lambda>") (hT : LamX.Tabs T H) (nodef : defaultsOf params X.env = ([], [])) (cap : ∀ y ∈ scope.names, y.2 = .free → ∃ c, X.env.cells.lookup y.1 = some c)
    (k : ∀ (f c' : Addr) (pm ctv : Value) (H1 : Hp) (s' : Shared), L2.Inv X pins σ H1 s' → ExtP P H H1 → LamX.Tabs T H1 → s'.heap.get? f = some (lamO X params body scope pm c' ctv) → H1 f = none → s.heap.objs.size ≤ f → H1 c' = some (LamX.CodeO c' (X.env.qual ++ "<lambda>")) → Q (.ref f) s') :
    wpAny (model X.prog X.w) X.A (eval (.Lambda params body scope pos) X.env) Q E s := by
  obtain ⟨ps, hP, ok, old⟩ := hT _ mem
  have bm : s.heap.BuiltinsAt X.mg P := B.bm.keeps I.bk
  have tb : s.heap.get? P = some { cls := .none, data := .fields ps } := I.hok P _ hP
  have ltP := Heap.lt_size tb
  have hC := B.code.keeps I.bk
  have hG := I.mod.glob.keeps I.bk
  have clo := closure_ok cap
  refine PySem.W.kla_eval nodef ?_
  rcases hc : codeAmong pos ps.toList with _ | cv
  · refine PySem.W.kla_makeFunction (ps := ps) (P := P) (c := c) (mg := X.mg) clo I.ok.glob hG co hC tb ok hc B.gP bm ?_
    intro c' ctv h' tk keepH ge lt rec grown
    obtain ⟨_, oc, vs, t, e0, e1, e2, e3⟩ := rec
    cases e0
    have new : H c' = none := I.hok.fresh ge
    have sz : s.heap.objs.size ≤ h'.objs.size := by omega
    have J := LamX.inv_table (t' := tk) (c := c') (q := X.env.qual ++ "<lambda>") (more := #[rawInt pos.line, rawInt pos.col, .ref c']) (h' := h'.push (lamO X params body scope ((X.mg "__name__").getD .none) c' ctv)) I hP
      (fun b o n q => Heap.get?_push_of_some _ (keepH b o n q)) (Heap.get?_push_of_some _ grown) ge ⟨oc, vs, t, Heap.get?_push_of_some _ e1, e2, e3⟩
    refine k h'.objs.size c' _ ctv _ _ J (fun b o n q => ?_) (tabs_grown hP ok old only hT new) (Heap.get?_push_size _ rfl) ?_ sz upd_same
    · rw [upd_ne (ne_of_none q new), upd_ne n]; exact q
    · have m1 : h'.objs.size ≠ c' := fun z => absurd lt (by rw [z]; exact Nat.lt_irrefl _)
      have m2 : h'.objs.size ≠ P := fun z => absurd (Nat.lt_of_lt_of_le ltP sz) (by rw [z]; exact Nat.lt_irrefl _)
      rw [upd_ne m1, upd_ne m2]
      exact I.hok.fresh sz
  · obtain ⟨c', rfl, hco⟩ := old pos cv hc
    refine PySem.W.kla_makeFunctionHit (ps := ps) (P := P) (c := c) (mg := X.mg) clo I.ok.glob hG co hC tb ok hc bm ?_
    intro ctv h' tk keepH sz
    have J : L2.Inv X pins σ H { s with heap := h'.push (lamO X params body scope ((X.mg "__name__").getD .none) c' ctv), toks := tk } := I.kept fun b o q => Heap.get?_push_of_some _ (keepH b o q)
    exact k h'.objs.size c' _ ctv H _ J (fun _ _ _ q => q) hT (Heap.get?_push_size _ rfl) (I.hok.fresh sz) sz hco
/-- an object that nobody knows is known from now on -/
theorem track_ext {f : Addr} {o : Obj} {φ : Heap → Prop} (J : L2.Inv X pins σ H s) (e : s.heap.get? f = some o) (na : H f = none) (h0 : X.s_0.heap.get? f = none) (nL : X.env.locals ≠ f) (nC : ∀ y c, X.env.cells.lookup y = some c → c ≠ f) (nP : ∀ p ∈ X.pn ++ pins, p.1 ≠ f)
    (ph : φ s.heap) (st : ∀ h1 h2 : Heap, φ h1 → (∀ o, h1.get? f = some o → h2.get? f = some o) → φ h2) : L2.Inv X pins σ (upd H f (.ext φ)) s := by
  have neT : ∀ b u, H b = some u → b ≠ f := fun b u q => ne_of_none q na
  have ne0 : ∀ b o, X.s_0.heap.get? b = some o → b ≠ f := fun b o q z => by
    rw [z, h0] at q; cases q
  refine ⟨J.ok, J.os, J.bare, ⟨J.base.keep, J.base.slot, fun b o q n hx => ?_, J.base.there, fun b xs q => ?_, fun b o u q => ?_, fun b ps q => ?_⟩, J.loc, J.cell, ?_, fun y c q => ?_, fun p hp' => ?_, fun b u q => ?_, J.len⟩
  · rw [upd_ne (ne0 b o q)]
    exact J.base.free b o q n hx
  · have z := J.base.tups b xs q
    rw [upd_ne (neT b _ z)]
    exact z
  · have z := J.base.frzs b o u q
    rw [upd_ne (neT b _ z)]
    exact z
  · obtain ⟨m, z⟩ := J.base.tbls b ps q
    exact ⟨m, by rw [upd_ne (neT b _ z)]; exact z⟩
  · rw [upd_ne nL]
    exact J.free
  · rw [upd_ne (nC y c q)]
    exact J.freeC y c q
  · obtain ⟨p1, p2, p3⟩ := J.pin p hp'
    exact ⟨p1, by rw [upd_ne (nP p hp')]; exact p2, p3⟩
  · by_cases hb : b = f
    · subst hb
      rw [upd_same] at q
      cases q
      exact ⟨ph, ⟨o, e⟩, st⟩
    · rw [upd_ne hb] at q
      exact (J.hok b u q).stay (fun c v _ r => r) (fun c r => by rw [upd_ne (neT c _ r)]; exact r) fun c xs r => by rw [upd_ne (neT c _ r)]; exact r
end
/-- lambda: .. -/
def tMk (T : List (Addr × Str)) (P : Addr) (q : Str) (F : Addr → Addr → HO) : TE := fun σ H Q => LamX.Tabs T H ∧ ∀ (f c' : Addr) (H1 : Hp), ExtP P H H1 → LamX.Tabs T H1 → H f = none → H1 f = some (F f c') → H1 c' = some (LamX.CodeO c' q) → f ≠ c' → Q (.ref f) H1
theorem pe_mkLam {X : Cx} {T : List (Addr × Str)} {c P : Addr} {params : Arguments} {body : Expr} {scope : Scope} {pos : Pos} (B : LamX.TabB X.base X.mg c P) (co : X.env.code = .ref c) (mem : (P, X.env.qual ++ "<lambda>") ∈ T) (only : ∀ p ∈ T, p.1 = P → p.2 = X.env.qual ++ "<lambda>")
    (L : LamX.LamS X.env.scope scope) (nodef : defaultsOf params X.env = ([], [])) : PE X (.Lambda params body scope pos) (tMk T P (X.env.qual ++ "<lambda>") (LamO (X.env.qual ++ "<lambda>") params body scope (cloFrom X.env.cells scope.names []))) :=
  ⟨fun pins s σ H Q I ⟨hT, h⟩ => mk_lam2 I B co mem only hT nodef (L.has I.ok) fun f c' pm ctv H1 s' J ext T1 hf hfn hsz hco => by
    have lt : ∀ {b : Addr} {o : Obj}, s.heap.get? b = some o → b ≠ f := fun {b o} q z => absurd (Nat.lt_of_lt_of_le (Heap.lt_size q) hsz) (by rw [z]; exact Nat.lt_irrefl _)
    have hH : H f = none := I.hok.fresh hsz
    have ncf : f ≠ c' := fun z => by rw [z, hco] at hfn; cases hfn
    have J2 := track_ext (φ := fun h => ∃ pm ctv : Value, h.get? f = some (PySem.W.kla_obj "<lambda>" (X.env.qual ++ "<lambda>") params body scope (cloFrom X.env.cells scope.names []) pm c' ctv)) J hf hfn (by
        cases q : X.s_0.heap.get? f with
        | none => rfl
        | some o => exact absurd (Nat.lt_of_lt_of_le (Heap.lt_size q) (Nat.le_trans I.sz hsz)) (Nat.lt_irrefl _))
      (fun z => absurd (Nat.lt_of_lt_of_le I.lt hsz) (by rw [z]; exact Nat.lt_irrefl _)) (fun y c q => by
        obtain ⟨v, o, ho, _⟩ := I.cell y c q
        exact lt ho) (fun p hp => lt (I.pin p hp).1) ⟨pm, ctv, hf⟩ (fun h1 h2 ⟨a, b, q⟩ k => ⟨a, b, k _ q⟩)
    refine ⟨.ref f, _, J2, rfl, h f c' _ (fun b o n q => ?_) (T1.ext fun b o q => ?_) hH upd_same (by rw [upd_ne (Ne.symm ncf)]; exact hco) ncf⟩
    · rw [upd_ne (ne_of_none q hH)]; exact ext b o n q
    · rw [upd_ne (ne_of_none q hfn)]; exact q⟩
/-- what is known of a lambda in a list -/
structure LamOk (X : Cx) (k : Nat) (F : Addr → Addr → HO) (t : XK → TE) : Prop where
  ex : ∃ (params : Arguments) (body : Expr) (scope : Scope), F = LamO (X.env.qual ++ "<lambda>") params body scope (cloFrom X.env.cells scope.names []) ∧ LamX.LamS X.env.scope scope ∧
    (∀ (q : Str) (cl : List (Str × Addr)) (pm cv ctv : Value), bindArgs (PySem.W.kla_fn "<lambda>" q params body scope cl pm cv ctv) ⟨[], []⟩ = pure []) ∧
    ∀ (A : Around) (outer : List PySem.Env) (s : Shared) (H : Hp) (E : XK) (f c' : Addr), Room k (A.deeper (LamX.lamEnv X scope s.heap.objs.size f c')) → PE (LamX.lamCx X A outer s H E scope f c') body (t E)
inductive LamL (X : Cx) (k : Nat) : List ((Addr → Addr → HO) × (XK → TE)) → Prop
  | nil : LamL X k []
  | cons {F : Addr → Addr → HO} {t : XK → TE} {cs : List ((Addr → Addr → HO) × (XK → TE))} : LamOk X k F t → LamL X k cs → LamL X k ((F, t) :: cs)
theorem LamL.get {X : Cx} {k : Nat} : ∀ {cs : List ((Addr → Addr → HO) × (XK → TE))}, LamL X k cs → ∀ p ∈ cs, LamOk X k p.1 p.2
  | _, .cons h r, p, hp => by
    rcases List.mem_cons.mp hp with e | e
    · rw [e]; exact h
    · exact r.get p e
/-- x(w), w holds a lambda -/
def tLamV (i : Nat) (q : Str) (cs : List ((Addr → Addr → HO) × (XK → TE))) (TT : (XK → Hp → VK → Prop) → Hp → VK → Prop) : TE := fun σ H Q => ∃ p, p ∈ cs ∧ ∃ f c' : Addr, σ[i]? = some (some (.ref f)) ∧ H f = some (p.1 f c') ∧ H c' = some (LamX.CodeO c' q) ∧ TT (fun E H' Q' => p.2 E σ H' Q') H Q
/-- the def that calls what it got -/
def GivesP (X : Cx) (Ng : List Str) (x : Str) (sg : Scope) (g : Addr) (cdg : Value) (bg : List Stmt) (a : Str) (TT : (XK → Hp → VK → Prop) → Hp → VK → Prop) : Prop :=
  ∀ (f : Addr) (Pf : Hp → Prop) (s : Shared) (H : Hp) (Q : VK) (tl : XK → Hp → VK → Prop),
    (∀ (W : WX) (pn : List (Addr × Obj)) (xe : Value → Shared → Prop) (E : XK) (p1 p2 : Pos), Takes ((cxOf C8.CX0 X.prog X.w X.K X.mg X.base Ng x sg g cdg X.A X.stack s H C8.E0).tr pn xe) W → (∀ cls d σ' H', E cls d H' → W cls d σ' H') →
      PE ((cxOf C8.CX0 X.prog X.w X.K X.mg X.base Ng x sg g cdg X.A X.stack s H C8.E0).tr pn xe) (.Call (.Name a p1) [] [] p2) (fun σZ HZ Q => σZ[0]? = some (some (.ref f)) ∧ Pf HZ ∧ tl E HZ Q)) →
    Pf H → TT tl H Q →
    ∃ t, PSs (cxOf C8.CX0 X.prog X.w X.K X.mg X.base Ng x sg g cdg X.A X.stack s H C8.E0).nox bg t ∧ t { nx := fun _ H' => Q .non H', rt := Q } (L2.start Ng [.ref f]) H
theorem GivesP.gives {X : Cx} {Ng : List Str} {x : Str} {sg : Scope} {g : Addr} {cdg : Value} {bg : List Stmt} {a q : Str} {TT : (XK → Hp → VK → Prop) → Hp → VK → Prop} (h : GivesP X Ng x sg g cdg bg a TT) : LamX.GivesTo X Ng x sg g cdg bg a q TT := fun f c' s H Q tl act hc ht =>
  h f (fun HZ => HZ c' = some (LamX.CodeO c' q)) s H Q tl act hc ht
section
variable {X : Cx} {pins : List (Addr × Obj)} {σ : L2.St} {H HZ : Hp} {s s1 : Shared}
theorem pe_actP {CXg : CXT} {Eg : XK} {Ng : List Str} {qg : Str} {sg : Scope} {g f c' : Addr} {cdg : Value} {params : Arguments} {body : Expr} {scope : Scope} {k i : Nat} {a : Str} {pn : List (Addr × Obj)} {xe : Value → Shared → Prop} {W : WX} {E : XK} {tb : TE} {p1 p2 : Pos}
    (I : L2.Inv X pins σ H s) (L : LamX.LamS X.env.scope scope)
    (hbind : ∀ (q : Str) (cl : List (Str × Addr)) (pm cv ctv : Value), bindArgs (PySem.W.kla_fn "<lambda>" q params body scope cl pm cv ctv) ⟨[], []⟩ = pure [])
    (tk : Takes ((cxOf CXg X.prog X.w X.K X.mg X.base Ng qg sg g cdg X.A X.stack s H Eg).tr pn xe) W) (hW : ∀ cls d σ' H', E cls d H' → W cls d σ' H') (hr : Room (k + 1) (X.A.deeper (envOfC qg sg s.heap.objs.size g cdg)))
    (hbody : ∀ (A : Around) (outer : List PySem.Env) (s : Shared) (H : Hp), Room k (A.deeper (LamX.lamEnv X scope s.heap.objs.size f c')) → PE (LamX.lamCx X A outer s H E scope f c') body tb)
    (hN : Ng[i]? = some a) (hv : Vis sg a) (hd : (a == ("__debug__" : Str)) = false := by decide) (hcd : (a == ("__classdict__" : Str)) = false := by decide) :
    PE ((cxOf CXg X.prog X.w X.K X.mg X.base Ng qg sg g cdg X.A X.stack s H Eg).tr pn xe) (.Call (.Name a p1) [] [] p2)
      (fun σZ HZ Q => σZ[i]? = some (some (.ref f)) ∧ (HZ f = some (LamO (X.env.qual ++ "<lambda>") params body scope (cloFrom X.env.cells scope.names []) f c') ∧ HZ c' = some (LamX.CodeO c' (X.env.qual ++ "<lambda>"))) ∧ tb σ HZ Q) := by
  refine ⟨fun pinsZ sZ σZ HZ Q IZ h => ?_⟩
  obtain ⟨hs, ⟨hf, hc⟩, ht⟩ := h
  refine wpAny_Call_Name_kw (thn ((pe_var (pos := p1) (i := i) hN hv hd hcd).run pinsZ sZ σZ HZ (fun v H1 => v = .ref f ∧ H1 = HZ) IZ ⟨.ref f, hs, rfl, rfl⟩) fun u s1 ⟨v, H1, I1, r1, q1⟩ => ?_)
  obtain ⟨ev, eH⟩ := q1
  subst ev
  rw [eH] at I1
  obtain rfl : u = Value.ref f := r1
  obtain ⟨⟨pm, ctv, of1⟩, _, _⟩ := I1.hok f _ hf
  refine PySem.W.callWith_F0 ⟨_, _, _, _, of1⟩ ?_
  have un : Un (frs X.stack) [] H HZ s.heap s1.heap := I1.base
  obtain ⟨⟨oc, vs, t, hoc, hdc, hvc⟩, _, _⟩ := I1.hok c' _ hc
  have rc : codeAny (model X.prog X.w) (X.A.deeper (envOfC qg sg s.heap.objs.size g cdg)) (.call (.ref f) ⟨[], []⟩) (CR (L2.CX X.prog X.w) (envOfC qg sg s.heap.objs.size g cdg :: X.stack) X.prog X.w HZ s1 Q E) s1 := by
    refine PySem.W.kla_callFunE hr.depth of1 rfl L.co L.gen rfl ⟨c', oc, vs, t, rfl, hoc, hdc, hvc⟩ ?_
    rw [hbind]
    refine wpAny_pure (wpAny_newFunctionEnv (fun y hy => (L.own y hy).2) (fun y hy => absurd hy (by simp)) (fun h₁ hns hsb => ⟨I1.nolimit.fresh _ hsb, ?_⟩) L.kind)
    show codeAny _ _ (.expr body (LamX.lamEnv X scope s1.heap.objs.size f c')) _ _
    have kp : ∀ b o, s1.heap.get? b = some o → h₁.get? b = some o := fun b o e => hsb.extBut b o (Nat.ne_of_lt (Heap.lt_size e)) (Heap.get?_push_of_some _ e)
    have J : L2.Inv (LamX.lamCx X (X.A.deeper (envOfC qg sg s.heap.objs.size g cdg)) (envOfC qg sg s.heap.objs.size g cdg :: X.stack) s1 HZ E scope f c') [] σ HZ { s1 with heap := h₁, toks := s1.toks + ([] : List (Str × Value)).length } :=
      LamX.lam_start2 I L I1.env0 hr.hd un hns kp
    refine PySem.W.kla_codeExpr (wpAny_mono ((hbody _ _ s1 HZ (hr.deeper _)).run [] _ _ HZ Q J ht) (fun v s' hq => ?_) fun e s' hq => hq)
    obtain ⟨w', H', J', rv, q⟩ := hq
    exact ⟨w', H', J'.os, J'.bare, J'.base, J'.hok, rv, q⟩
  have hx : Passes (L2.CX X.prog X.w) ((cxOf CXg X.prog X.w X.K X.mg X.base Ng qg sg g cdg X.A X.stack s H Eg).tr pn xe) E := passes_call tk hW
  refine wpAny_call (codeAny_mono rc fun r s' hq => ?_)
  cases r with
  | error e => exact hx pinsZ σZ HZ s1 e s' I1 hq
  | ok fl =>
    cases fl with
    | ret u => exact I1.after hq
    | next => exact False.elim hq
    | brk => exact False.elim hq
    | cont => exact False.elim hq
end
/-- what the call x(w) asks of the def x -/
structure LamC (X : Cx) (x a : Str) (TT : (XK → Hp → VK → Prop) → Hp → VK → Prop) : Prop where
  ex : ∃ (g : Addr) (pg : Arguments) (bg : List Stmt) (sg : Scope) (dV kV doc pm cdv ct oc : Value) (an od : Option Addr) (osl : Array (Option Value)) (Ng : List Str), X.mg x = some (.ref g) ∧ PySem.W.keepIn X.K (.ref g) = true ∧
    X.K.lookup g = some ⟨oc, od, .func (PySem.W.fnOf x x pg bg sg dV kV doc pm an cdv ct), osl⟩ ∧ PySem.W.codeIn X.K cdv x = true ∧ L2.Binds X.K (PySem.W.fnOf x x pg bg sg dV kV doc pm an cdv ct) [a] [] ∧ FnScope Ng [a] sg ∧ Ng[0]? = some a ∧ Vis sg a ∧
    GivesP X Ng x sg g cdv bg a TT
theorem LamC.of {X : Cx} {x a : Str} {TT : (XK → Hp → VK → Prop) → Hp → VK → Prop} {st : Stmt} {Ng : List Str} (Dd : Def X.K X.mg x st [a]) (S : FnScope Ng [a] (defScope st)) (n0 : Ng[0]? = some a) (va : Vis (defScope st) a)
    (G : ∀ (g : Addr) (cdv : Value), GivesP X Ng x (defScope st) g cdv (defBody st) a TT) : LamC X x a TT := by
  obtain ⟨f, fd, F, hm, hb⟩ := Dd.ex
  obtain ⟨oc, od, kV, doc, pm, an, cdv, ct, osl, rfl, lk, hc⟩ := F.ex
  exact ⟨f, _, _, _, _, _, _, _, _, _, _, _, _, _, Ng, hm, F.kp, lk, hc, hb, S, n0, va, G f cdv⟩
theorem pe_lamV {X : Cx} {TT : (XK → Hp → VK → Prop) → Hp → VK → Prop} {x a w : Str} {k i : Nat} {cs : List ((Addr → Addr → HO) × (XK → TE))} {p p2 pos : Pos} (M : LamC X x a TT) (hg : Gl X x) (hr : Room (k + 2) X.A) (LL : LamL X k cs) (hN : X.N[i]? = some w) (hv : Vis X.env.scope w)
    (d1 : (x == ("__debug__" : Str)) = false := by decide) (d2 : (a == ("__debug__" : Str)) = false := by decide) (d3 : (a == ("__classdict__" : Str)) = false := by decide) (d4 : (w == ("__debug__" : Str)) = false := by decide) (d5 : (w == ("__classdict__" : Str)) = false := by decide) :
    PE X (.Call (.Name x p) [.Name w p2] [] pos) (tLamV i (X.env.qual ++ "<lambda>") cs TT) := by
  obtain ⟨g, pg, bg, sg, dV, kV, doc, pm, cdv, ct, oc, an, od, osl, Ng, hm, hk, lk, hcg, hbd, Sg, n0, va, G⟩ := M.ex
  constructor
  intro pins s σ H Q I ⟨⟨F, t⟩, hp, f, c', hs, hf, hc, h⟩
  obtain ⟨params, body, scope, eF, L, bnd, hb⟩ := (LL.get _ hp).ex
  dsimp only at eF hf h hb
  subst eF
  refine wpAny_Call_Name_kw (ld_glob I hg hm ?_ d1)
  refine PySem.W.callWith_K (h₀ := X.base) I.ok.mod.kin hk ?_ (by rfl) (by rfl)
  show wpAny _ _ (spliced ((false, eval (.Name w p2) X.env) :: backTo pos (starEach [] X.env))) _ _ s
  refine Calls.spliced_cons (thn ((pe_var (pos := p2) (i := i) hN hv d4 d5).run pins s σ H (fun v H1 => v = .ref f ∧ H1 = H) I ⟨.ref f, hs, rfl, rfl⟩) fun u s' ⟨v, H1, J, r1, q1⟩ => ?_)
  obtain ⟨ev, eH⟩ := q1
  subst ev
  subst eH
  obtain rfl : u = Value.ref f := r1
  have run : codeAny (model X.prog X.w) X.A (.call (.ref g) ⟨[.ref f], []⟩) (CR C8.CX0 X.stack X.prog X.w H1 s' Q C8.E0) s' := by
    refine LamX.run_ofS (N := Ng) (us := [.ref f]) (vs := [.ref f]) (ps := [a]) lk hcg Sg hr J.env0 (hbd s' [.ref f] J.kIn rfl) (.cons rfl .nil) rfl ?_
    intro hr'
    obtain ⟨tt, htt, hq⟩ := G f (fun HZ => HZ f = some (LamO (X.env.qual ++ "<lambda>") params body scope (cloFrom X.env.cells scope.names []) f c') ∧ HZ c' = some (LamX.CodeO c' (X.env.qual ++ "<lambda>"))) s' H1 Q (fun E H' Q' => t E σ H' Q')
      (fun W pn xe E p1 p2 tk hW => pe_actP (i := 0) J L bnd tk hW hr' (fun A outer s H hr2 => hb A outer s H E f c' hr2) n0 va d2 d3) ⟨hf, hc⟩ h
    exact ⟨tt, htt.nox, hq⟩
  refine Calls.spliced_nil ⟨J.kIn, wpAny_call (codeAny_mono run ?_)⟩
  intro r s2 hq
  cases r with
  | error e => exact (show False from hq).elim
  | ok fl =>
    cases fl with
    | ret u => exact J.after hq
    | _ => exact False.elim hq
/-- the lambdas of a list, read -/
inductive PML (X : Cx) (k : Nat) : List Expr → List ((Addr → Addr → HO) × (XK → TE)) → Prop
  | nil : PML X k [] []
  | cons {params : Arguments} {body : Expr} {scope : Scope} {lpos : Pos} {t : XK → TE} {es : List Expr} {cs : List ((Addr → Addr → HO) × (XK → TE))} : LamX.LamS X.env.scope scope → defaultsOf params X.env = ([], []) →
    (∀ (q : Str) (cl : List (Str × Addr)) (pm cv ctv : Value), bindArgs (PySem.W.kla_fn "<lambda>" q params body scope cl pm cv ctv) ⟨[], []⟩ = pure []) →
    (∀ (A : Around) (outer : List PySem.Env) (s : Shared) (H : Hp) (E : XK) (f c' : Addr), Room k (A.deeper (LamX.lamEnv X scope s.heap.objs.size f c')) → PE (LamX.lamCx X A outer s H E scope f c') body (t E)) →
    PML X k es cs → PML X k (.Lambda params body scope lpos :: es) ((LamO (X.env.qual ++ "<lambda>") params body scope (cloFrom X.env.cells scope.names []), t) :: cs)
theorem PML.lam {X : Cx} {k : Nat} {es : List Expr} {cs : List ((Addr → Addr → HO) × (XK → TE))} (h : PML X k es cs) : LamL X k cs := by
  induction h with
  | nil => exact .nil
  | cons L d b hb _ ih => exact .cons ⟨_, _, _, rfl, L, b, hb⟩ ih
def tMks (T : List (Addr × Str)) (P : Addr) (q : Str) : List ((Addr → Addr → HO) × (XK → TE)) → TA
  | [] => tNil
  | p :: cs => tCons (tMk T P q p.1) (tMks T P q cs)
theorem PML.pa {X : Cx} {k : Nat} {T : List (Addr × Str)} {c P : Addr} {es : List Expr} {cs : List ((Addr → Addr → HO) × (XK → TE))} (B : LamX.TabB X.base X.mg c P) (co : X.env.code = .ref c) (mem : (P, X.env.qual ++ "<lambda>") ∈ T) (only : ∀ p ∈ T, p.1 = P → p.2 = X.env.qual ++ "<lambda>") (h : PML X k es cs) : PA X es (tMks T P (X.env.qual ++ "<lambda>") cs) := by
  induction h with
  | nil => exact pa_nil
  | cons L d b hb _ ih => exact pa_cons (pe_mkLam B co mem only L d) ih
theorem ps_forLam {X : Cx} {k : Nat} {T : List (Addr × Str)} {c P : Addr} {es : List Expr} {cs : List ((Addr → Addr → HO) × (XK → TE))} {tg : Expr} {body : List Stmt} {g : TG} {tb : TS} {K : PySem.W.Frag} {lpos pos : Pos} (hK : X.K = K) (B : LamX.TabB X.base X.mg c P) (co : X.env.code = .ref c) (mem : (P, X.env.qual ++ "<lambda>") ∈ T)
    (only : ∀ p ∈ T, p.1 = P → p.2 = X.env.qual ++ "<lambda>") (hp : PassesOwn (model X.prog X.w) X.A X.env X.xe) (hc : X.calm = true) (h : PML X k es cs) (hg : PG X tg g) (hb : LamL X k cs → PSs X body tb) (hs : ∀ x, foldedSetIterable (.List es lpos) X.env x = pure x := by intro _; rfl) :
    PS X (.For tg (.List es lpos) body [] pos) (tFor (iSeq K (tLst (tMks T P (X.env.qual ++ "<lambda>") cs))) g tb) := by
  subst hK
  exact ps_for hp hc (pi_seq (pe_lst (h.pa B co mem only))) hg (hb h.lam) hs
theorem outs_exc {EP : Addr → List Str → List D → Prop} {P : D → Prop} {o : Out} {C : Addr} {ns : List Str} {l : List D} (e : o = .exc C ns l) (h : EP C ns l) : Outs EP P o := by rw [e]; exact h
/-! in the data layer -/
theorem heap_with (a : Addr) (o : Obj) (ho : o.data ≠ .freed) : ∃ h : Heap, h.get? a = some o := by
  refine ⟨{ objs := Array.replicate (a + 1) o }, ?_⟩
  unfold Heap.get?
  have e : (Array.replicate (a + 1) o)[a]? = some o := by simp
  rw [e]
  obtain ⟨c, d, dt, sl⟩ := o
  cases dt <;> first | rfl | exact absurd rfl ho
theorem code_exc {a C : Addr} {q : Str} {od : Option Addr} : LamX.CodeO a q ≠ excH a C od := fun z => by
  unfold LamX.CodeO excH at z
  injection z with z
  obtain ⟨h, e⟩ := heap_with a { cls := .none, data := .fields #[.none, .str q 0] } (fun z => nomatch z)
  have h1 : ∃ (oc : Obj) (vs : Array Value) (t : Tok), h.get? a = some oc ∧ oc.data = .fields vs ∧ vs[1]? = some (.str q t) := ⟨_, _, 0, e, rfl, rfl⟩
  rw [congrFun z h] at h1
  obtain ⟨oe, vs, e2, ⟨hz, _⟩, _⟩ := h1
  rw [e] at e2
  cases e2
  cases hz
section
variable {X X' : AP} {H : Hp} {c : Addr} {q : Str}
theorem code_ne {a : Addr} {o : HO} (hc : H c = some (LamX.CodeO c q)) (h : H a = some o) (n : ∀ φ, o ≠ .ext φ) : a ≠ c := fun z => by
  rw [z, hc] at h
  exact n _ (Option.some.inj h).symm
theorem code_ne2 {a C : Addr} {od : Option Addr} (hc : H c = some (LamX.CodeO c q)) (h : H a = some (excH a C od)) : a ≠ c := fun z => by
  subst z
  rw [hc] at h
  exact code_exc (Option.some.inj h)
mutual
theorem Is.hold (hc : H c = some (LamX.CodeO c q)) (hX : ∀ a, X' a → X a ∨ a = c) : ∀ (d : D) {v : L2.V}, Is X H v d → Is X' H v d
  | .non, _, .non => .non
  | .bl b, _, .bl _ => .bl b
  | .int i, _, .int _ => .int i
  | .str x, _, .str _ => .str x
  | .ty n, _, .ty _ => .ty n
  | .raw a, _, .raw _ => .raw a
  | .lst ds, _, .lst hx hr ha => .lst (fun z => (hX _ z).elim hx (code_ne hc hr fun _ z => nomatch z)) hr (IsAll.hold hc hX ds ha)
  | .tup ds, _, .tup hx hr ha => .tup (fun z => (hX _ z).elim hx (code_ne hc hr fun _ z => nomatch z)) hr (IsAll.hold hc hX ds ha)
  | .dic ks ds, _, .dic hx hr hk ha => .dic (fun z => (hX _ z).elim hx (code_ne hc hr fun _ z => nomatch z)) hr hk (IsAll.hold hc hX ds ha)
  | .ins C ns ds, _, .ins hx hr hk ha => .ins (fun z => (hX _ z).elim hx (code_ne hc hr fun _ z => nomatch z)) hr hk (IsAll.hold hc hX ds ha)
  | .dct, _, .dct hx hr => .dct (fun z => (hX _ z).elim hx (code_ne hc hr fun _ z => nomatch z)) hr
  | .exc C _ _, _, .exc0 hx hr => .exc0 (fun z => (hX _ z).elim hx (code_ne2 hc hr)) hr
  | .exc C ns ds, _, .exc hne hx hr hy hs hk ha => .exc hne (fun z => (hX _ z).elim hx (code_ne2 hc hr)) hr (fun z => (hX _ z).elim hy (code_ne hc hs fun _ z => nomatch z)) hs hk (IsAll.hold hc hX ds ha)
theorem IsAll.hold (hc : H c = some (LamX.CodeO c q)) (hX : ∀ a, X' a → X a ∨ a = c) : ∀ (ds : List D) {vs : List L2.V}, IsAll X H vs ds → IsAll X' H vs ds
  | [], _, .nil => .nil
  | d :: ds, _, .cons h t => .cons (Is.hold hc hX d h) (IsAll.hold hc hX ds t)
end
theorem Ob.hold (hc : H c = some (LamX.CodeO c q)) (hX : ∀ a, X' a → X a ∨ a = c) {o : HO} {d : D} : Ob X H o d → Ob X' H o d
  | .lst h => .lst (h.hold hc hX)
  | .dic e h => .dic e (h.hold hc hX)
  | .ins e h => .ins e (h.hold hc hX)
end
section
variable {W : Wd} {n : Nat} {Z : ZL} {T : TL} {ρ : Rho} {σ : L2.St} {H H1 : Hp}
theorem xx_add {p : Addr} {o : HO} {a : Addr} (h : XX W ((p, o) :: Z) ρ σ a) : XX W Z ρ σ a ∨ a = p := by
  rcases h with h | h | ⟨u, h⟩
  · exact .inl (.inl h)
  · exact .inl (.inr (.inl h))
  · rcases List.mem_cons.mp h with h | h
    · cases h; exact .inr rfl
    · exact .inl (.inr (.inr ⟨u, h⟩))
/-- a code object is kept -/
theorem Env.hold (e : Env W n Z T ρ σ H) {c : Addr} {q : Str} (hc : H c = some (LamX.CodeO c q)) (h0 : W.H0 c = none) (nz : ¬ ∃ u, (c, u) ∈ Z) : Env W n ((c, LamX.CodeO c q) :: Z) T ρ σ H := by
  refine ⟨e.len, fun i d h => ?_, fun i d h => ?_, e.inj, fun p hp => ?_, ?_, fun p hp => (e.t p hp).hold hc (fun _ => xx_add) _, e.fr, e.g⟩
  · obtain ⟨v, h1, h2⟩ := e.sh i d h
    exact ⟨v, h1, h2.hold hc (fun _ => xx_add) _⟩
  · obtain ⟨a, o, h1, h2, h3, h4, h5⟩ := e.ow i d h
    refine ⟨a, o, h1, h2, h3.hold hc fun _ => xx_add, h4, fun ⟨u, z⟩ => ?_⟩
    rcases List.mem_cons.mp z with z | z
    · cases z
      rw [hc] at h2
      cases h2
      cases h3
    · exact h5 ⟨u, z⟩
  · rcases List.mem_cons.mp hp with z | z
    · rw [z]; exact ⟨hc, h0⟩
    · exact e.z p z
  · rw [List.map_cons, List.nodup_cons]
    refine ⟨fun z => ?_, e.zn⟩
    obtain ⟨p, hp, e2⟩ := List.mem_map.mp z
    have e2 : p.1 = c := e2
    exact nz ⟨p.2, by rw [← e2]; exact hp⟩
/-- a new object is known, the table is grown -/
theorem Env.made (e : Env W n Z T ρ σ H) {P f : Addr} {o : HO} (vP : W.V P) (ext : ExtP P H H1) (fn : H f = none) (hf : H1 f = some o) (g : W.G n H1) : Env W n ((f, o) :: Z) T ρ σ H1 := by
  have e1 : Env W n Z T ρ σ H1 := e.heap (fun b o hb hv => ext b o (fun z => hv (by rw [z]; exact vP)) hb) g
  have m : Mv (XX W Z ρ σ) H (XX W ((f, o) :: Z) ρ σ) H1 := fun a u q hx => ⟨ext a u (fun z => hx (.inl (by rw [z]; exact W.vx P vP))) q, fun z => (xx_add z).elim hx (ne_of_none q fn)⟩
  have h0 := e.dom0 fn
  refine ⟨e.len, fun i d h => ?_, fun i d h => ?_, e.inj, fun p hp => ?_, ?_, fun p hp => (e.t p hp).mv m, e1.fr, g⟩
  · obtain ⟨v, h1, h2⟩ := e.sh i d h
    exact ⟨v, h1, h2.mv m⟩
  · obtain ⟨a, u, h1, h2, h3, h4, h5⟩ := e.ow i d h
    refine ⟨a, u, h1, ext a u (fun z => Env.nv0 h4 (by rw [z]; exact vP)) h2, h3.mv m, h4, fun ⟨u', z⟩ => ?_⟩
    rcases List.mem_cons.mp z with z | z
    · cases z
      rw [fn] at h2; cases h2
    · exact h5 ⟨u', z⟩
  · rcases List.mem_cons.mp hp with z | z
    · rw [z]; exact ⟨hf, h0⟩
    · exact e1.z p z
  · rw [List.map_cons, List.nodup_cons]
    refine ⟨fun z => ?_, e.zn⟩
    obtain ⟨p, hp, e2⟩ := List.mem_map.mp z
    have := (e.z p hp).1
    rw [e2, fn] at this; cases this
theorem LP.code_nv {K : PySem.W.Frag} {Tt : List (Addr × Str)} (L : LP K Tt) {c : Addr} {q : Str} (g : L.G n H) (hc : H c = some (LamX.CodeO c q)) : ¬ L.V c := fun hv => by
  obtain ⟨⟨gr, left, turn, h1, h2, h3, h4⟩, hs, ht, _⟩ := g
  rcases hv with rfl | rfl | rfl | ⟨tr, rfl⟩ | ⟨p, hp, rfl⟩
  · exact code_ne hc h1 (fun _ z => nomatch z) rfl
  · exact code_ne hc h2 (fun _ z => nomatch z) rfl
  · exact code_ne hc h3 (fun _ z => nomatch z) rfl
  · rcases hs with ⟨_, h⟩ | ⟨h, _⟩
    · exact code_ne hc h (fun _ z => nomatch z) rfl
    · exact h tr
  · obtain ⟨ps, h, _⟩ := ht p hp
    exact code_ne hc h (fun _ z => nomatch z) rfl
/-- known in every state over Z -/
def Kn (W : Wd) (Z : ZL) (f c' : Addr) (o : HO) (q : Str) : Prop := ∀ Z2 : ZL, (∀ p, p ∈ Z → p ∈ Z2) → ∀ (n : Nat) (T : TL) (ρ : Rho) (σ : L2.St) (H : Hp), Env W n Z2 T ρ σ H → H f = some o ∧ H c' = some (LamX.CodeO c' q)
theorem lam_made {K : PySem.W.Frag} {Tt : List (Addr × Str)} (L : LP K Tt) (hV : W.V = L.V) (hG : W.G = L.G) {P f c' : Addr} {q q' : Str} {o : HO} (mem : (P, q') ∈ Tt) (e : Env W n Z T ρ σ H) (ext : ExtP P H H1) (T1 : LamX.Tabs Tt H1) (fn : H f = none) (hf : H1 f = some o) (hc : H1 c' = some (LamX.CodeO c' q)) :
    ∃ Z1 : ZL, Env W n (Z1 ++ Z) T ρ σ H1 ∧ Kn W (Z1 ++ Z) f c' o q := by
  have g0 : L.G n H := by rw [← hG]; exact e.g
  have g1 : L.G n H1 := L.grown mem g0 ext T1
  have vP : W.V P := by rw [hV]; exact .inr (.inr (.inr (.inr ⟨_, mem, rfl⟩)))
  have e1 := e.made vP ext fn hf (by rw [hG]; exact g1)
  by_cases h0 : W.H0 c' = none
  · by_cases hz : ∃ u, (c', u) ∈ (f, o) :: Z
    · obtain ⟨u, hu⟩ := hz
      have eu := (e1.z _ hu).1
      have eu : H1 c' = some u := eu
      rw [hc] at eu
      cases eu
      exact ⟨[(f, o)], e1, fun Z2 hs n T ρ σ H e2 => ⟨(e2.z _ (hs _ List.mem_cons_self)).1, (e2.z _ (hs _ hu)).1⟩⟩
    · refine ⟨[(c', LamX.CodeO c' q), (f, o)], e1.hold hc h0 hz, fun Z2 hs n T ρ σ H e2 => ⟨(e2.z _ (hs _ (List.mem_cons_of_mem _ List.mem_cons_self))).1, (e2.z _ (hs _ List.mem_cons_self)).1⟩⟩
  · obtain ⟨o0, ho⟩ : ∃ o0, W.H0 c' = some o0 := by
      cases h : W.H0 c' with
      | none => exact absurd h h0
      | some o0 => exact ⟨o0, rfl⟩
    have nv : ¬ W.V c' := by rw [hV]; exact L.code_nv g1 hc
    have eo := e1.fr c' o0 ho nv
    rw [hc] at eo
    cases eo
    exact ⟨[(f, o)], e1, fun Z2 hs n T ρ σ H e2 => ⟨(e2.z _ (hs _ List.mem_cons_self)).1, e2.fr c' _ ho nv⟩⟩
theorem Kn.mono {Z' : ZL} {f c' : Addr} {o : HO} {q : Str} (h : Kn W Z f c' o q) (s : ∀ p, p ∈ Z → p ∈ Z') : Kn W Z' f c' o q := fun Z2 hs => h Z2 fun p hp => hs p (s p hp)
/-- what was pending is forgotten -/
theorem Env.zpops : ∀ {Z1 : ZL}, Env W n (Z1 ++ Z) T ρ σ H → Env W n Z T ρ σ H
  | [], e => e
  | (p, o) :: Z1, e => Env.zpops (Z1 := Z1) (Env.zpop e)
end
/-- the lambdas' addresses and what is known of them -/
inductive Kns (W : Wd) (Z : ZL) (q : Str) : List ((Addr → Addr → HO) × (XK → TE)) → List Addr → Prop
  | nil : Kns W Z q [] []
  | cons {p : (Addr → Addr → HO) × (XK → TE)} {cs : List ((Addr → Addr → HO) × (XK → TE))} {f c' : Addr} {fs : List Addr} : Kn W Z f c' (p.1 f c') q → Kns W Z q cs fs → Kns W Z q (p :: cs) (f :: fs)
theorem Kns.mono {W : Wd} {Z Z' : ZL} {q : Str} {cs : List ((Addr → Addr → HO) × (XK → TE))} {fs : List Addr} (h : Kns W Z q cs fs) (s : ∀ p, p ∈ Z → p ∈ Z') : Kns W Z' q cs fs := by
  induction h with
  | nil => exact .nil
  | cons a _ ih => exact .cons (a.mono s) ih
theorem Kns.len {W : Wd} {Z : ZL} {q : Str} {cs : List ((Addr → Addr → HO) × (XK → TE))} {fs : List Addr} (h : Kns W Z q cs fs) : fs.length = cs.length := by
  induction h with
  | nil => rfl
  | cons _ _ ih => rw [List.length_cons, List.length_cons, ih]
theorem Kns.get {W : Wd} {Z : ZL} {q : Str} {cs : List ((Addr → Addr → HO) × (XK → TE))} {fs : List Addr} (h : Kns W Z q cs fs) : ∀ {i : Nat} {f : Addr}, fs[i]? = some f → ∃ p, cs[i]? = some p ∧ ∃ c', Kn W Z f c' (p.1 f c') q := by
  induction h with
  | nil => intro i f e; simp at e
  | cons a _ ih =>
    intro i f e
    cases i with
    | zero => simp at e; subst e; exact ⟨_, rfl, _, a⟩
    | succ i => exact ih (by simpa using e)
section
variable {W : Wd} {n : Nat} {ρ : Rho} {N : Nat → Rho → Prop} {R : Nat → Bool → D → Prop} {B C : Nat → Rho → Prop} {K : PySem.W.Frag} {Tt : List (Addr × Str)}
theorem mks_run (L : LP K Tt) (hV : W.V = L.V) (hG : W.G = L.G) {P : Addr} {q q' : Str} (mem : (P, q') ∈ Tt) : ∀ (cs : List ((Addr → Addr → HO) × (XK → TE))) {Z : ZL} {T : TL} {σ : L2.St} {H : Hp}, Env W n Z T ρ σ H → ∀ Q : List L2.V → Hp → Prop,
    (∀ (Z1 : ZL) (H1 : Hp) (fs : List Addr), Env W n (Z1 ++ Z) T ρ σ H1 → Kns W (Z1 ++ Z) q cs fs → Q (fs.map .ref) H1) → tMks Tt P q cs σ H Q
  | [], Z, T, σ, H, e, Q, k => k [] H [] e .nil
  | p :: cs, Z, T, σ, H, e, Q, k => by
    have g0 : L.G n H := by rw [← hG]; exact e.g
    refine ⟨g0.2.2.1, fun f c' H1 ext T1 fn hf hc ne => ?_⟩
    obtain ⟨Z1, e1, kn⟩ := lam_made L hV hG mem e ext T1 fn hf hc
    refine mks_run L hV hG mem cs e1 _ fun Z2 H2 fs e2 ks => ?_
    rw [← List.append_assoc] at e2 ks
    refine k (Z2 ++ Z1) H2 (f :: fs) e2 (.cons (kn.mono fun p hp => ?_) ks)
    rw [List.append_assoc]
    exact List.mem_append_right _ hp
theorem all_raw {X : AP} {H : Hp} : ∀ fs : List Addr, IsAll X H (fs.map .ref) (fs.map D.raw)
  | [] => .nil
  | f :: fs => .cons (.raw f) (all_raw fs)
/-- for w in [lambda: .., ..]: a body that calls _law_caught(w) first -/
theorem ds_forLam (L : LP K Tt) (hV : W.V = L.V) (hG : W.G = L.G) {P : Addr} {q q' : Str} (mem : (P, q') ∈ Tt) {cs : List ((Addr → Addr → HO) × (XK → TE))} {TT : (XK → Hp → VK → Prop) → Hp → VK → Prop} {i : Nat} (bodyF : TE → TS)
    (hb : ∃ kk : Ends → L2.St → VK, ∀ te De σ H, bodyF te De σ H = te σ H (kk De σ)) (Iv : Nat → Nat → Rho → Prop) (hc : cs.length ≤ 1000) (h0 : Iv 0 n ρ) (hl : ∀ j n ρ', Iv j n ρ' → i < ρ'.length)
    (hs : ∀ j p n ρ', cs[j]? = some p → Iv j n ρ' → ∀ f : Addr, DS (bodyF (tLam1 Tt P TT p.2)) W n (ρ'.set i (some (false, .raw f))) (Iv (j + 1)) R N (Iv (j + 1)))
    (hd : ∀ n ρ', Iv cs.length n ρ' → N n ρ') : DS (tFor (iSeq K (tLst (tMks Tt P q cs))) (gName i) (bodyF (tLamV i q cs TT))) W n ρ N R B C := fun Z T σ H e De f => by
  obtain ⟨kk, hk⟩ := hb
  refine mks_run L hV hG mem cs e _ fun Z1 H1 fs e1 ks => ?_
  have kl := ks.len
  refine ⟨by rw [List.length_map, kl]; exact szl (by omega), fun p hp => ?_⟩
  have e' := e1.lay (o := .lst (fs.map .ref)) hp
  have il : Is (XX W (Z1 ++ Z) ρ σ) (upd H1 p (.lst (fs.map .ref))) (.ref p) (.lst (fs.map D.raw)) := .lst e'.zmv.2 upd_same (all_raw fs)
  have e3 : Env W n (Z1 ++ Z) ([(.ref p, .lst (fs.map D.raw))] ++ T) ρ σ _ := e'.zpop.push il
  refine ⟨p, rfl, .inl ⟨⟨_, .of upd_same⟩, ?_⟩⟩
  have ok : ItOk W [(.ref p, .lst (fs.map D.raw))] _ (fs.map D.raw) := it_list (K := K)
  have dl : (fs.map D.raw).length = cs.length := by rw [List.length_map, kl]
  refine ⟨fun j m σ H => m = (fs.map D.raw).length - j ∧ j ≤ (fs.map D.raw).length ∧ ∃ n ρ', Iv j n ρ' ∧ Env W n (Z1 ++ Z) ([(.ref p, .lst (fs.map D.raw))] ++ T) ρ' σ H, ⟨_, rfl, Nat.zero_le _, n, ρ, h0, e3⟩, ?_⟩
  rintro j m σ' H2 ⟨rfl, hi, n, ρ', hI, e4⟩
  have o := ok n (Z1 ++ Z) ([(.ref p, .lst (fs.map D.raw))] ++ T) ρ' σ' H2 (fun p hp => List.mem_append_left _ hp) e4 j
  by_cases hlt : j < (fs.map D.raw).length
  · refine .inr ⟨(o.1 hlt).1, fun σ3 H3 => ∃ n ρ3, Iv (j + 1) n ρ3 ∧ Env W n (Z1 ++ Z) ([(.ref p, .lst (fs.map D.raw))] ++ T) ρ3 σ3 H3, fun σ3 H3 ⟨n, ρ3, h3, e3⟩ => ⟨(fs.map D.raw).length - (j + 1), by omega, rfl, hlt, n, ρ3, h3, e3⟩, fun x H3 y => ?_⟩
    obtain ⟨d, hd', e5⟩ := (o.1 hlt).2 x H3 y
    rw [List.getElem?_map] at hd'
    obtain ⟨a, ha, rfl⟩ := Option.map_eq_some_iff.mp hd'
    have it := e5.top
    cases it
    have hI' := hl j n ρ' hI
    have e6 : Env W n (Z1 ++ Z) ([(.ref p, .lst (fs.map D.raw))] ++ T) (ρ'.set i (some (false, .raw a))) (σ'.set i (some (.ref a))) H3 := (e5.set e5.top).pop1
    obtain ⟨c, hcs, c', kn⟩ := ks.get ha
    have hB := hs j c n ρ' hcs hI a (Z1 ++ Z) ([(.ref p, .lst (fs.map D.raw))] ++ T) (σ'.set i (some (.ref a))) H3 e6 { De with nx := fun σ3 H3 => ∃ n ρ3, Iv (j + 1) n ρ3 ∧ Env W n (Z1 ++ Z) ([(.ref p, .lst (fs.map D.raw))] ++ T) ρ3 σ3 H3, ct := fun σ3 H3 => ∃ n ρ3, Iv (j + 1) n ρ3 ∧ Env W n (Z1 ++ Z) ([(.ref p, .lst (fs.map D.raw))] ++ T) ρ3 σ3 H3, bk := De.nx }
      ⟨fun n ρ5 σ5 H5 n5 e5 => ⟨n, ρ5, n5, e5⟩, f.rt, f.rf, fun n ρ5 σ5 H5 n5 e5 => f.nx n ρ5 σ5 H5 n5 (Env.zpops (Z1 := Z1) e5.popAll), fun n ρ5 σ5 H5 n5 e5 => ⟨n, ρ5, n5, e5⟩⟩
    rw [hk] at hB
    have g3 : L.G n H3 := by rw [← hG]; exact e6.g
    have hT := hB.2 H3 (fun _ _ _ z => z) g3.2.2.1
    obtain ⟨k1, k2⟩ := kn (Z1 ++ Z) (fun _ z => z) _ _ _ _ _ e6
    have hB2 : bodyF (tLamV i q cs TT) { De with nx := fun σ3 H3 => ∃ n ρ3, Iv (j + 1) n ρ3 ∧ Env W n (Z1 ++ Z) ([(.ref p, .lst (fs.map D.raw))] ++ T) ρ3 σ3 H3, ct := fun σ3 H3 => ∃ n ρ3, Iv (j + 1) n ρ3 ∧ Env W n (Z1 ++ Z) ([(.ref p, .lst (fs.map D.raw))] ++ T) ρ3 σ3 H3, bk := De.nx } (σ'.set i (some (.ref a))) H3 := by
      rw [hk]
      exact ⟨c, List.mem_of_getElem? hcs, a, c', by rw [List.getElem?_set_self (by rw [e4.len]; exact hI')], k1, k2, hT⟩
    exact hB2
  · have ej : j = cs.length := by omega
    subst ej
    exact .inl ⟨o.2 (by omega), f.nx n ρ' σ' H2 (hd n ρ' hI) (Env.zpops (Z1 := Z1) e4.popAll)⟩
end
end HD

namespace HD
open PySem PySem.Spec PyProof.Rows L2
/-! ### sorted: numbers, pairs of numbers -/
/-- sorted lists that are rearrangements of one another are one -/
theorem perm_uniq {α : Type} {R : α → α → Prop} (anti : ∀ a b, R a b → R b a → a = b) : ∀ {l m : List α}, l.Pairwise R → m.Pairwise R → l.Perm m → l = m
  | [], m, _, _, h => (List.Perm.eq_nil h.symm).symm
  | a :: l, [], _, _, h => absurd h.length_eq (by simp)
  | a :: l, b :: m, hl, hm, h => by
    have hl2 := List.pairwise_cons.mp hl
    have hm2 := List.pairwise_cons.mp hm
    have e : a = b := by
      rcases List.mem_cons.mp (h.mem_iff.mp (List.mem_cons_self (a := a) (l := l))) with e | h1
      · exact e
      rcases List.mem_cons.mp (h.mem_iff.mpr (List.mem_cons_self (a := b) (l := m))) with e | h2
      · exact e.symm
      exact anti _ _ (hl2.1 b h2) (hm2.1 a h1)
    subst e
    rw [perm_uniq anti hl2.2 hm2.2 (List.Perm.cons_inv h)]
/-- the order of pairs -/
def leP (p q : Ps) : Prop := p.1 < q.1 ∨ (p.1 = q.1 ∧ p.2 ≤ q.2)
theorem leP_anti (p q : Ps) (h1 : leP p q) (h2 : leP q p) : p = q := by
  unfold leP at h1 h2
  exact Prod.ext (by omega) (by omega)
section
variable {W : Wd} {n : Nat} {ρ : Rho} {K : PySem.W.Frag} {P : Nat → D → Prop}
theorem lst_of {X : AP} {H : Hp} {v : L2.V} {ds : List D} (h : IsW X H v (.lst ds)) : ∃ (a : Addr) (xs : List L2.V), v = .ref a ∧ H a = some (.lst xs) ∧ IsAll X H xs ds := by
  rcases h with h | ⟨a, o, rfl, ho, h⟩
  · cases h with
    | lst hx hr ha => exact ⟨_, _, rfl, hr, ha⟩
  · cases h with
    | lst ha => exact ⟨a, _, rfl, ho, ha⟩
theorem so_ints {X : AP} {H : Hp} : ∀ {xs : List L2.V} {ns : List Int}, IsAll X H xs (ns.map D.int) → xs = ns.map .int
  | [], [], _ => rfl
  | [], _ :: _, h => by cases h
  | _ :: _, [], h => by cases h
  | x :: xs, m :: ns, .cons h t => by
    cases h
    rw [so_ints t]; rfl
theorem ints_so {X : AP} {H : Hp} : ∀ ns : List Int, IsAll X H (ns.map .int) (ns.map D.int)
  | [] => .nil
  | i :: ns => .cons (.int i) (ints_so ns)
theorem b_sortedI {ns : List Int} (p : ∀ ms : List Int, ms.Perm ns → ms.Pairwise (· ≤ ·) → P n (.lst (ms.map D.int))) : DCF (rSortedI K) W n ρ [.lst (ns.map D.int)] P := fun Z T σ H vs e ia Q k => by
  obtain ⟨v, rfl, i1⟩ := ws1 ia
  obtain ⟨a, xs, rfl, ha, hi⟩ := lst_of i1
  rw [so_ints hi] at ha
  refine ⟨a, ns, rfl, .of ha, fun ms q h1 h2 hq => ?_⟩
  exact k _ q _ _ _ (p ms h1 h2) (e.lay hq) (.lst (ints_so ms))
/-- the pair at an address -/
def pairAt (H : Hp) : L2.V → Int × Int
  | .ref t => match H t with
    | some (.tup [.int i, .int j]) => (i, j)
    | _ => (0, 0)
  | _ => (0, 0)
theorem pairs_all {X : AP} {H : Hp} : ∀ {xs : List L2.V} {ps : List Ps}, IsAll X H xs (ps.map dPs) → xs.map (pairAt H) = ps ∧ ∀ x ∈ xs, (∃ t, x = .ref t ∧ H t = some (.tup [.int (pairAt H x).1, .int (pairAt H x).2])) ∧ Is X H x (dPs (pairAt H x))
  | [], [], _ => ⟨rfl, fun _ h => (nomatch h)⟩
  | [], _ :: _, h => by cases h
  | _ :: _, [], h => by cases h
  | x :: xs, p :: ps, .cons h t => by
    obtain ⟨h1, h2⟩ := pairs_all t
    have hh := h
    cases h with
    | @tup a ys _ hx hr ha =>
      cases ha with
      | cons i1 t1 =>
        cases t1 with
        | cons i2 t2 =>
          cases t2
          cases i1
          cases i2
          have e : pairAt H (.ref a) = p := by
            show (match H a with | some (.tup [.int i, .int j]) => (i, j) | _ => (0, 0)) = p
            rw [hr]
          refine ⟨by rw [List.map_cons, e, h1], fun x hx => ?_⟩
          rcases List.mem_cons.mp hx with rfl | hx
          · rw [e]; exact ⟨⟨a, rfl, hr⟩, hh⟩
          · exact h2 x hx
theorem all_pairs {X : AP} {H : Hp} : ∀ {xs : List L2.V}, (∀ x ∈ xs, Is X H x (dPs (pairAt H x))) → IsAll X H xs ((xs.map (pairAt H)).map dPs)
  | [], _ => .nil
  | x :: xs, h => .cons (h x List.mem_cons_self) (all_pairs fun y hy => h y (List.mem_cons_of_mem _ hy))
theorem b_sortedP {ps : List Ps} (p : ∀ qs : List Ps, qs.Perm ps → qs.Pairwise leP → P n (.lst (qs.map dPs))) : DCF (rSortedPO K) W n ρ [.lst (ps.map dPs)] P := fun Z T σ H vs e ia Q k => by
  obtain ⟨v, rfl, i1⟩ := ws1 ia
  obtain ⟨a, xs, rfl, ha, hi⟩ := lst_of i1
  obtain ⟨h1, h2⟩ := pairs_all hi
  refine ⟨a, xs, pairAt H, rfl, .of ha, fun x hx => (h2 x hx).1, fun ys q s1 s2 hq => ?_⟩
  have hp : (ys.map (pairAt H)).Perm ps := by rw [← h1]; exact s2.perm.map _
  have hs : (ys.map (pairAt H)).Pairwise leP := by
    rw [List.pairwise_map]
    refine s1.imp fun {x y} hxy => ?_
    have := SrtO.lexB_no.mp hxy
    unfold leP
    omega
  have hall : IsAll (XX W Z ρ σ) H ys ((ys.map (pairAt H)).map dPs) := all_pairs fun y hy => (h2 y (s2.perm.mem_iff.mp hy)).2
  exact k _ q _ _ _ (p _ hp hs) (e.lay hq) (.lst (hall.mv (lay_mv e hq) _))
end
def rSortedU (K : PySem.W.Frag) : List L2.V → Hp → VK → Prop := fun xs H Q => rSortedI K xs H Q ∨ rSortedPO K xs H Q
theorem call_sortedU {X : Cx} : CallR X (.builtin "sorted") (rSortedU X.K) := cr_sortedI.or cr_sortedPO
theorem bb_sorted : bootBuiltins "sorted" = some (.builtin "sorted") := by decide +kernel
section
variable {W : Wd} {n : Nat} {ρ : Rho} {K : PySem.W.Frag} {P : Nat → D → Prop}
theorem u_sortI {ns : List Int} (p : ∀ ms : List Int, ms.Perm ns → ms.Pairwise (· ≤ ·) → P n (.lst (ms.map D.int))) : DCF (rSortedU K) W n ρ [.lst (ns.map D.int)] P := fun Z T σ H vs e i Q k => .inl (b_sortedI p Z T σ H vs e i Q k)
theorem u_sortP {ps : List Ps} (p : ∀ qs : List Ps, qs.Perm ps → qs.Pairwise leP → P n (.lst (qs.map dPs))) : DCF (rSortedU K) W n ρ [.lst (ps.map dPs)] P := fun Z T σ H vs e i Q k => .inr (b_sortedP p Z T σ H vs e i Q k)
end
/-! ### lists parted by a number -/
theorem parted {α : Type} (f : α → Nat) (l : List α) : ∀ m : Nat, (((List.range m).map fun x => l.filter fun a => decide (f a = x)).flatten).Perm (l.filter fun a => decide (f a < m))
  | 0 => by
    rw [List.filter_eq_nil_iff.mpr (fun a _ => by simp)]
    exact List.Perm.refl _
  | m + 1 => by
    have ih := parted f l m
    rw [List.range_succ, List.map_append, List.flatten_append]
    simp only [List.map_cons, List.map_nil, List.flatten_cons, List.flatten_nil, List.append_nil]
    refine (ih.append_right _).trans ?_
    have h := List.filter_append_perm (fun a => decide (f a < m)) (l.filter fun a => decide (f a < m + 1))
    rw [List.filter_filter, List.filter_filter] at h
    refine List.Perm.trans ?_ h
    have e1 : (l.filter fun a => decide (f a < m) && decide (f a < m + 1)) = l.filter fun a => decide (f a < m) := by
      refine List.filter_congr fun a _ => ?_
      rw [Bool.eq_iff_iff, Bool.and_eq_true, decide_eq_true_iff, decide_eq_true_iff]; omega
    have e2 : (l.filter fun a => !decide (f a < m) && decide (f a < m + 1)) = l.filter fun a => decide (f a = m) := by
      refine List.filter_congr fun a _ => ?_
      rw [Bool.eq_iff_iff, Bool.and_eq_true, Bool.not_eq_true', decide_eq_false_iff_not, decide_eq_true_iff, decide_eq_true_iff]; omega
    rw [e1, e2]
end HD

namespace HD
open PySem PySem.Spec PyProof.Rows L2
/-! ### a world in which nothing but the slots' own objects and the visible ones changes -/
section
variable {W : Wd} {n : Nat} {Z : ZL} {T : TL} {ρ : Rho} {σ : L2.St} {H : Hp} {N : Nat → Rho → Prop} {R : Nat → Bool → D → Prop} {B C : Nat → Rho → Prop} {t : TS}
theorem exf_mono {X X' : AP} {H : Hp} {od : Option Addr} {ns : List Str} {l : List D} (m : ∀ a, X' a → X a) (h : ExF X H od ns l) : ExF X' H od ns l := by
  rcases h with h | ⟨dd, fs, h1, h2, h3, h4, h5, h6⟩
  · exact .inl h
  · exact .inr ⟨dd, fs, h1, h2, fun z => h3 (m _ z), h4, h5, h6.mv fun a o q hx => ⟨q, fun z => hx (m _ z)⟩⟩
theorem Env.h0n (e : Env W n Z T ρ σ H) {a : Addr} (h : H a = none) : W.H0 a = none := e.dom0 h
open Classical in
/-- the heap without the slots' own objects -/
noncomputable def frzH (ρ : Rho) (σ : L2.St) (H : Hp) : Hp := fun b => if Own ρ σ b then none else H b
theorem frzH_own {b : Addr} (h : Own ρ σ b) : frzH ρ σ H b = none := if_pos h
theorem frzH_no {b : Addr} (h : ¬ Own ρ σ b) : frzH ρ σ H b = H b := if_neg h
theorem Env.own0 (e : Env W n Z T ρ σ H) {a : Addr} (h : Own ρ σ a) : W.H0 a = none := by
  obtain ⟨i, d, h1, h2⟩ := h
  obtain ⟨a', o, q1, _, _, q4, _⟩ := e.ow i d h1
  rw [h2] at q1
  cases q1
  exact q4
theorem Env.ownZ (e : Env W n Z T ρ σ H) {a : Addr} (h : Own ρ σ a) : ¬ ∃ o, (a, o) ∈ Z := by
  obtain ⟨i, d, h1, h2⟩ := h
  obtain ⟨a', o, q1, _, _, _, q5⟩ := e.ow i d h1
  rw [h2] at q1
  cases q1
  exact q5
noncomputable def Wfr (e : Env W n Z T ρ σ H) : Wd where
  V := W.V
  X0 := fun a => W.X0 a ∨ ∃ o, (a, o) ∈ Z
  G := W.G
  H0 := frzH ρ σ H
  E := W.E
  EP := W.EP
  vx := fun a h => .inl (W.vx a h)
  xd := fun a h => by
    rcases h with h | ⟨o, h⟩
    · rw [frzH_no fun z => W.xd a h (e.own0 z)]
      exact e.xdom (.inl h)
    · rw [frzH_no fun z => e.ownZ z ⟨o, h⟩, (e.z _ h).1]
      exact fun z => nomatch z
  vd := W.vd
  stab := W.stab
  hE := fun n' C ns l od H' p fr g x => W.hE n' C ns l od H' p (fun a o h hv => fr a o (by
    rw [frzH_no fun z => by rw [e.own0 z] at h; cases h]
    exact e.fr a o h hv) hv) g (exf_mono (fun a h => .inl h) x)
theorem xx_fr (e : Env W n Z T ρ σ H) {ρ' : Rho} {σ' : L2.St} {a : Addr} : XX (Wfr e) [] ρ' σ' a ↔ XX W Z ρ' σ' a := by
  constructor
  · rintro ((h | h) | h | ⟨o, h⟩)
    · exact .inl h
    · exact .inr (.inr h)
    · exact .inr (.inl h)
    · cases h
  · rintro (h | h | h)
    · exact .inl (.inl h)
    · exact .inr (.inl h)
    · exact .inl (.inr h)
theorem mv_iff {X X' : AP} {H : Hp} (h : ∀ a, X' a ↔ X a) : Mv X H X' H := fun a o q hx => ⟨q, fun z => hx ((h a).mp z)⟩
theorem Env.toFr (e : Env W n Z T ρ σ H) : Env (Wfr e) n [] [] ρ σ H := by
  refine ⟨e.len, fun i d h => ?_, fun i d h => ?_, e.inj, fun p hp => (nomatch hp), List.nodup_nil, fun p hp => (nomatch hp), fun a o h _ => ?_, e.g⟩
  · obtain ⟨v, h1, h2⟩ := e.sh i d h
    exact ⟨v, h1, h2.mv (mv_iff fun a => xx_fr e)⟩
  · obtain ⟨a, o, h1, h2, h3, h4, h5⟩ := e.ow i d h
    exact ⟨a, o, h1, h2, h3.mv (mv_iff fun a => xx_fr e), frzH_own ⟨i, d, h, h1⟩, fun ⟨_, z⟩ => nomatch z⟩
  · have h : frzH ρ σ H a = some o := h
    by_cases z : Own ρ σ a
    · rw [frzH_own z] at h; cases h
    · rw [frzH_no z] at h; exact h
theorem Env.fr0 (e : Env W n Z T ρ σ H) {a : Addr} (h : frzH ρ σ H a = none) : W.H0 a = none := by
  by_cases z : Own ρ σ a
  · exact e.own0 z
  · rw [frzH_no z] at h
    exact e.dom0 h
theorem Env.frm (e : Env W n Z T ρ σ H) {H' : Hp} (f : Frm W.V (frzH ρ σ H) H') : Frm W.V W.H0 H' := fun a o h hv => f a o (by
  rw [frzH_no fun z => by rw [e.own0 z] at h; cases h]
  exact e.fr a o h hv) hv
theorem Env.ofFr (e : Env W n Z T ρ σ H) {n' : Nat} {ρ' : Rho} {σ' : L2.St} {H' : Hp} (e2 : Env (Wfr e) n' [] [] ρ' σ' H') : Env W n' Z T ρ' σ' H' := by
  have zk : ∀ p ∈ Z, ¬ W.V p.1 ∧ frzH ρ σ H p.1 = some p.2 := fun p hp => by
    have h := e.z p hp
    refine ⟨fun v => W.xd _ (W.vx _ v) h.2, ?_⟩
    rw [frzH_no fun z => e.ownZ z ⟨p.2, hp⟩]
    exact h.1
  refine ⟨e2.len, fun i d h => ?_, fun i d h => ?_, e2.inj, fun p hp => ⟨e2.fr _ _ (zk p hp).2 (zk p hp).1, (e.z p hp).2⟩, e.zn, fun p hp => (e.t p hp).mv ?_, e.frm e2.fr, e2.g⟩
  · obtain ⟨v, h1, h2⟩ := e2.sh i d h
    exact ⟨v, h1, h2.mv (mv_iff fun a => (xx_fr e).symm)⟩
  · obtain ⟨a, o, h1, h2, h3, h4, h5⟩ := e2.ow i d h
    have h4 : frzH ρ σ H a = none := h4
    refine ⟨a, o, h1, h2, h3.mv (mv_iff fun a => (xx_fr e).symm), e.fr0 h4, fun ⟨u, z⟩ => ?_⟩
    rw [(zk _ z).2] at h4; cases h4
  · intro a o q hx
    have no : ¬ Own ρ σ a := fun z => hx (.inr (.inl z))
    have nv : ¬ W.V a := fun z => hx (.inl (W.vx _ z))
    have q2 : frzH ρ σ H a = some o := by rw [frzH_no no]; exact q
    refine ⟨e2.fr a o q2 nv, ?_⟩
    rintro (z | z | z)
    · exact hx (.inl z)
    · obtain ⟨i, d, z1, z2⟩ := z
      obtain ⟨a', o', y1, _, _, y4, _⟩ := e2.ow i d z1
      rw [z2] at y1
      cases y1
      have y4 : frzH ρ σ H a = none := y4
      rw [q2] at y4; cases y4
    · exact hx (.inr (.inr z))
/-- in the world of this very state -/
theorem ds_froz (e : Env W n Z T ρ σ H) {De : Ends} (f : Fin W Z T De N R B C)
    (h : ∀ W2 : Wd, W2.V = W.V → W2.G = W.G → W2.E = W.E → W2.EP = W.EP → (∀ a o, H a = some o → ¬ Own ρ σ a → W2.H0 a = some o) → DS t W2 n ρ N R B C) : t De σ H := by
  refine h (Wfr e) rfl rfl rfl rfl (fun a o q no => by show frzH ρ σ H a = _; rw [frzH_no no]; exact q) [] [] σ H e.toFr De ⟨fun n ρ σ H q e2 => f.nx n ρ σ H q (e.ofFr e2), fun n v d H' q fr g i => f.rt n v d H' q (e.frm fr) g (i.mv fun a o z hx => ⟨z, fun y => hx (.inl y)⟩), fun n a o d H' q fr g h0 ho ob => ?_, fun n ρ σ H q e2 => f.bk n ρ σ H q (e.ofFr e2), fun n ρ σ H q e2 => f.ct n ρ σ H q (e.ofFr e2)⟩
  exact f.rf n a o d H' q (e.frm fr) g (e.fr0 h0) ho (ob.mv fun b u z hx => ⟨z, fun y => hx (y.elim (fun y => .inl (.inl y)) .inr)⟩)
end
/-! ### functions and lambdas with parameters, called as values -/
inductive Cand
  | fn (f : Addr) (sp : Sp)
  | lam (params : Arguments) (body : Expr) (scope : Scope) (N : List Str) (m : Nat) (t : XK → TE)
/-- x(..), x holds one of them -/
def tCallM (i : Nat) (q : Str) (cs : List Cand) (E : XK) (tas : TA) : TE := fun σ H Q =>
  (∃ f sp, Cand.fn f sp ∈ cs ∧ σ[i]? = some (some (.ref f)) ∧ tCall sp [] E tas σ H Q) ∨
  (∃ params body scope N m t f c', Cand.lam params body scope N m t ∈ cs ∧ σ[i]? = some (some (.ref f)) ∧ H f = some (LamO q params body scope [] f c') ∧
    tas σ H fun vs H2 => vs.length = m ∧ H2 f = some (LamO q params body scope [] f c') ∧ H2 c' = some (LamX.CodeO c' q) ∧ t E (L2.start N vs) H2 Q)
def CandOk (P : Program) (w : World) (K : PySem.W.Frag) (mg : Str → Option Value) (base : Heap) (q : Str) (k : Nat) : Cand → Prop
  | .fn f sp => FnR P w K mg base (L2.CX P w) k f (fun vs H Q E => sp (vs ++ []) H Q E) ∧ PySem.W.keepIn K (.ref f) = true
  | .lam params body scope N m t => ∃ ps : List Str, FnScope N ps scope ∧ ps.length = m ∧
    (∀ (q : Str) (cl : List (Str × Addr)) (pm cv ctv : Value) (us : List Value), us.length = m → bindArgs (PySem.W.kla_fn "<lambda>" q params body scope cl pm cv ctv) ⟨us, []⟩ = pure (ps.zip us)) ∧
    ∀ (A : Around) (outer : List PySem.Env) (s : Shared) (H : Hp) (E : XK) (f c' : Addr), Room k (A.deeper (envOfC q scope s.heap.objs.size f (.ref c'))) → PE (cxOf (L2.CX P w) P w K mg base N q scope f (.ref c') A outer s H E) body (t E)
def CandL (P : Program) (w : World) (K : PySem.W.Frag) (mg : Str → Option Value) (base : Heap) (q : Str) (k : Nat) (cs : List Cand) : Prop := ∀ c ∈ cs, CandOk P w K mg base q k c
section
variable {X : Cx} {pins : List (Addr × Obj)} {σ : L2.St} {H : Hp} {s : Shared}
theorem run_cand {q : Str} {params : Arguments} {body : Expr} {scope : Scope} {N ps : List Str} {m k : Nat} {f c' : Addr} {us : List Value} {vs : List L2.V} {Q : VK} {E : XK} {tb : TE} (I : L2.Inv X pins σ H s) (hf : H f = some (LamO q params body scope [] f c')) (hc : H c' = some (LamX.CodeO c' q))
    (S : FnScope N ps scope) (hm : ps.length = m) (hbind : ∀ (q : Str) (cl : List (Str × Addr)) (pm cv ctv : Value) (us : List Value), us.length = m → bindArgs (PySem.W.kla_fn "<lambda>" q params body scope cl pm cv ctv) ⟨us, []⟩ = pure (ps.zip us)) (hr : Room (k + 1) X.A) (r : L2.Vals vs us) (hl : vs.length = m)
    (hbody : ∀ (A : Around) (outer : List PySem.Env) (s : Shared) (H : Hp) (f c' : Addr), Room k (A.deeper (envOfC q scope s.heap.objs.size f (.ref c'))) → PE (cxOf (L2.CX X.prog X.w) X.prog X.w X.K X.mg X.base N q scope f (.ref c') A outer s H E) body tb)
    (h : tb (L2.start N vs) H Q) : codeAny (model X.prog X.w) X.A (.call (.ref f) ⟨us, []⟩) (CR (L2.CX X.prog X.w) X.stack X.prog X.w H s Q E) s := by
  obtain ⟨⟨pm, ctv, of1⟩, _, _⟩ := I.hok f _ hf
  obtain ⟨⟨oc, vs', t', hoc, hdc, hvc⟩, _, _⟩ := I.hok c' _ hc
  have hul : us.length = m := by rw [← hl]; exact (L2.Vals.length r).symm
  refine PySem.W.kla_callFunE hr.depth of1 rfl S.co S.gen rfl ⟨c', oc, vs', t', rfl, hoc, hdc, hvc⟩ ?_
  rw [hbind _ _ _ _ _ us hul]
  have hkind : ∀ y ∈ ps.zip us, scope.names.lookup y.1 = some .local ∨ (scope.names.lookup y.1 = some .cell ∧ ((cellsFrom (s.heap.objs.size + 1) scope.names []).lookup y.1).isSome = true) := fun ⟨n, v⟩ hy => by
    rcases S.par n (List.of_mem_zip hy).1 with q | q
    · exact .inl q
    · exact .inr ⟨q, PySem.W.cellsFrom_some _ _ _ (.inl q)⟩
  refine wpAny_pure (wpAny_newFunctionEnv_cells S.kind hkind fun env he s1 x => ?_)
  subst he
  refine ⟨I.nolimit.keeps x.toInCall.keep, ?_⟩
  show codeAny _ _ (.expr body (envOfC q scope s.heap.objs.size f (.ref c'))) _ _
  have J : L2.Inv (cxOf (L2.CX X.prog X.w) X.prog X.w X.K X.mg X.base N q scope f (.ref c') X.A X.stack s H E) [] (L2.start N vs) H s1 := inv_start S hr.hd I.env0 (by rw [hl, hm]) r x
  refine PySem.W.kla_codeExpr (wpAny_mono ((hbody X.A X.stack s H f c' (hr.deeper _)).run [] s1 _ H Q J h) (fun v s' hq => ?_) fun e s' hq => hq)
  obtain ⟨w', H', J', rv, q⟩ := hq
  exact ⟨w', H', J'.os, J'.bare, J'.base, J'.hok, rv, q⟩
end
theorem pe_callM {X : Cx} {k i : Nat} {q : Str} {cs : List Cand} {E : XK} {x : Str} {e : Expr} {es : List Expr} {t : TA} {p pos : Pos} (Fs : CandL X.prog X.w X.K X.mg X.base q k cs) (hr : Room (k + 1) X.A) (hx : Passes (L2.CX X.prog X.w) X E) (hN : X.N[i]? = some x) (hv : Vis X.env.scope x) (ha : PA X (e :: es) t)
    (hd : (x == ("__debug__" : Str)) = false := by decide) (hcd : (x == ("__classdict__" : Str)) = false := by decide)
    (he : starEach (e :: es) X.env = (false, eval e X.env) :: starEach es X.env := by rfl) (hpl : (backTo pos (starEach es X.env)).any (·.1) = false := by rfl) : PE X (.Call (.Name x p) (e :: es) [] pos) (tCallM i q cs E t) := by
  refine ⟨fun pins s σ H Q I h => ?_⟩
  rcases h with ⟨f, sp, hm, hs, h⟩ | ⟨params, body, scope, N, m, tb, f, c', hm, hs, hf, h⟩
  · have F := Fs _ hm
    exact (ItX.pe_callV (CX := L2.CX X.prog X.w) F.1 (hr.mono (Nat.le_succ k)) F.2 hx hN hv ha hd hcd he hpl).run pins s σ H Q I ⟨hs, h⟩
  · obtain ⟨ps, S, hm2, hb, hbody⟩ := Fs _ hm
    refine wpAny_Call_Name_kw (thn ((pe_var (pos := p) (i := i) hN hv hd hcd).run pins s σ H (fun v H1 => v = .ref f ∧ H1 = H) I ⟨.ref f, hs, rfl, rfl⟩) fun u s1 ⟨v, H1, I1, r1, ev, eH⟩ => ?_)
    subst ev
    rw [eH] at I1
    cases r1
    have fa : ∀ {s2 : Shared} {H2 : Hp}, L2.Inv X pins σ H2 s2 → H2 f = some (LamO q params body scope [] f c') → PySem.W.FnAt f s2.heap := fun {s2 H2} I2 h2 => by
      obtain ⟨⟨pm, ctv, of1⟩, _, _⟩ := I2.hok f _ h2
      exact ⟨_, _, _, _, of1⟩
    refine PySem.W.callWith_F (fa I1 hf) (thn (ha.run pos pins s1 σ H _ I1 h) fun us s2 ⟨vs, H2, I2, r, hl, hf2, hc2, q2⟩ => ⟨fa I2 hf2, ?_⟩) he hpl
    refine wpAny_call (codeAny_mono (run_cand (E := E) I2 hf2 hc2 S hm2 hb hr r hl (fun A outer s H f c' z => hbody A outer s H E f c' z) q2) fun r s' hq => ?_)
    cases r with
    | error e => exact hx pins σ H2 s2 e s' I2 hq
    | ok fl =>
      cases fl with
      | ret u => exact I2.after hq
      | next => exact False.elim hq
      | brk => exact False.elim hq
      | cont => exact False.elim hq
/-! ### such a list, made -/
theorem cloFrom_no {cells : List (Str × Addr)} {names : List (Str × NameKind)} (h : ∀ y ∈ names, y.2 ≠ .free) : cloFrom cells names [] = [] := by
  cases e : cloFrom cells names [] with
  | nil => rfl
  | cons p r =>
    rcases cloFrom_mem (n := p.1) (c := p.2) (cells := cells) (names := names) (acc := []) (by rw [e]; exact List.mem_cons_self) with z | ⟨z, _⟩
    · cases z
    · exact absurd rfl (h _ z)
theorem pe_mkLamN {X : Cx} {T : List (Addr × Str)} {c P : Addr} {params : Arguments} {body : Expr} {scope : Scope} {pos : Pos} (B : LamX.TabB X.base X.mg c P) (co : X.env.code = .ref c) (mem : (P, X.env.qual ++ "<lambda>") ∈ T) (only : ∀ p ∈ T, p.1 = P → p.2 = X.env.qual ++ "<lambda>")
    (L : ∀ y ∈ scope.names, y.2 ≠ .free) (nodef : defaultsOf params X.env = ([], [])) : PE X (.Lambda params body scope pos) (tMk T P (X.env.qual ++ "<lambda>") (LamO (X.env.qual ++ "<lambda>") params body scope [])) :=
  ⟨fun pins s σ H Q I ⟨hT, h⟩ => mk_lam2 I B co mem only hT nodef (fun y hy e => absurd e (L y hy)) fun f c' pm ctv H1 s' J ext T1 hf hfn hsz hco => by
    have hf : s'.heap.get? f = some (PySem.W.kla_obj "<lambda>" (X.env.qual ++ "<lambda>") params body scope [] pm c' ctv) := by
      rw [← cloFrom_no (cells := X.env.cells) L]; exact hf
    have lt : ∀ {b : Addr} {o : Obj}, s.heap.get? b = some o → b ≠ f := fun {b o} q z => absurd (Nat.lt_of_lt_of_le (Heap.lt_size q) hsz) (by rw [z]; exact Nat.lt_irrefl _)
    have hH : H f = none := I.hok.fresh hsz
    have ncf : f ≠ c' := fun z => by rw [z, hco] at hfn; cases hfn
    have J2 := track_ext (φ := fun h => ∃ pm ctv : Value, h.get? f = some (PySem.W.kla_obj "<lambda>" (X.env.qual ++ "<lambda>") params body scope [] pm c' ctv)) J hf hfn (by
        cases q : X.s_0.heap.get? f with
        | none => rfl
        | some o => exact absurd (Nat.lt_of_lt_of_le (Heap.lt_size q) (Nat.le_trans I.sz hsz)) (Nat.lt_irrefl _))
      (fun z => absurd (Nat.lt_of_lt_of_le I.lt hsz) (by rw [z]; exact Nat.lt_irrefl _)) (fun y c q => by
        obtain ⟨v, o, ho, _⟩ := I.cell y c q
        exact lt ho) (fun p hp => lt (I.pin p hp).1) ⟨pm, ctv, hf⟩ (fun h1 h2 ⟨a, b, q⟩ k => ⟨a, b, k _ q⟩)
    refine ⟨.ref f, _, J2, rfl, h f c' _ (fun b o n q => ?_) (T1.ext fun b o q => ?_) hH upd_same (by rw [upd_ne (Ne.symm ncf)]; exact hco) ncf⟩
    · rw [upd_ne (ne_of_none q hH)]; exact ext b o n q
    · rw [upd_ne (ne_of_none q hfn)]; exact q⟩
inductive PMM (X : Cx) (k : Nat) : List Expr → List Cand → Prop
  | nil : PMM X k [] []
  | fn {x : Str} {f : Addr} {sp : Sp} {j : Nat} {p : Pos} {es : List Expr} {cs : List Cand} : Gl X x → FnV X.prog X.w X.K X.mg X.base j x f sp → j ≤ k → (x == ("__debug__" : Str)) = false → PMM X k es cs → PMM X k (.Name x p :: es) (.fn f sp :: cs)
  | lam {params : Arguments} {body : Expr} {scope : Scope} {lpos : Pos} {N ps : List Str} {t : XK → TE} {es : List Expr} {cs : List Cand} : FnScope N ps scope → defaultsOf params X.env = ([], []) →
    (∀ (q : Str) (cl : List (Str × Addr)) (pm cv ctv : Value) (us : List Value), us.length = ps.length → bindArgs (PySem.W.kla_fn "<lambda>" q params body scope cl pm cv ctv) ⟨us, []⟩ = pure (ps.zip us)) →
    (∀ (A : Around) (outer : List PySem.Env) (s : Shared) (H : Hp) (E : XK) (f c' : Addr), Room k (A.deeper (envOfC (X.env.qual ++ "<lambda>") scope s.heap.objs.size f (.ref c'))) → PE (cxOf (L2.CX X.prog X.w) X.prog X.w X.K X.mg X.base N (X.env.qual ++ "<lambda>") scope f (.ref c') A outer s H E) body (t E)) →
    PMM X k es cs → PMM X k (.Lambda params body scope lpos :: es) (.lam params body scope N ps.length t :: cs)
theorem PMM.cand {X : Cx} {k : Nat} {es : List Expr} {cs : List Cand} (h : PMM X k es cs) : CandL X.prog X.w X.K X.mg X.base (X.env.qual ++ "<lambda>") k cs := by
  induction h with
  | nil => exact fun c h => nomatch h
  | fn g V hj _ _ ih =>
    intro c hc
    rcases List.mem_cons.mp hc with rfl | hc
    · exact ⟨V.fn.mono hj, V.kp⟩
    · exact ih c hc
  | lam S d b hb _ ih =>
    intro c hc
    rcases List.mem_cons.mp hc with rfl | hc
    · exact ⟨_, S, rfl, b, hb⟩
    · exact ih c hc
def tMksM (T : List (Addr × Str)) (P : Addr) (q : Str) : List Cand → TA
  | [] => tNil
  | .fn f _ :: cs => tCons (tC (.ref f)) (tMksM T P q cs)
  | .lam params body scope _ _ _ :: cs => tCons (tMk T P q (LamO q params body scope [])) (tMksM T P q cs)
theorem PMM.pa {X : Cx} {k : Nat} {T : List (Addr × Str)} {c P : Addr} {es : List Expr} {cs : List Cand} (B : LamX.TabB X.base X.mg c P) (co : X.env.code = .ref c) (mem : (P, X.env.qual ++ "<lambda>") ∈ T) (only : ∀ p ∈ T, p.1 = P → p.2 = X.env.qual ++ "<lambda>") (h : PMM X k es cs) : PA X es (tMksM T P (X.env.qual ++ "<lambda>") cs) := by
  induction h with
  | nil => exact pa_nil
  | fn g V hj d _ ih => exact pa_cons (pe_glob (v := .ref _) g V.gl rfl d) ih
  | lam S d b hb _ ih => exact pa_cons (pe_mkLamN B co mem only S.nofree d) ih
theorem ps_forMix {X : Cx} {k : Nat} {T : List (Addr × Str)} {c P : Addr} {es : List Expr} {cs : List Cand} {tg : Expr} {body : List Stmt} {g : TG} {tb : TS} {K : PySem.W.Frag} {lpos pos : Pos} (hK : X.K = K) (B : LamX.TabB X.base X.mg c P) (co : X.env.code = .ref c) (mem : (P, X.env.qual ++ "<lambda>") ∈ T)
    (only : ∀ p ∈ T, p.1 = P → p.2 = X.env.qual ++ "<lambda>") (hp : PassesOwn (model X.prog X.w) X.A X.env X.xe) (hc : X.calm = true) (h : PMM X k es cs) (hg : PG X tg g) (hb : CandL X.prog X.w X.K X.mg X.base (X.env.qual ++ "<lambda>") k cs → PSs X body tb) (hs : ∀ x, foldedSetIterable (.List es lpos) X.env x = pure x := by intro _; rfl) :
    PS X (.For tg (.List es lpos) body [] pos) (tFor (iSeq K (tLst (tMksM T P (X.env.qual ++ "<lambda>") cs))) g tb) := by
  subst hK
  exact ps_for hp hc (pi_seq (pe_lst (h.pa B co mem only))) hg (hb h.cand) hs
/-! in the data layer -/
inductive KnM (W : Wd) (Z : ZL) (q : Str) : List Cand → List Addr → Prop
  | nil : KnM W Z q [] []
  | fn {f : Addr} {sp : Sp} {cs : List Cand} {fs : List Addr} : KnM W Z q cs fs → KnM W Z q (.fn f sp :: cs) (f :: fs)
  | lam {params : Arguments} {body : Expr} {scope : Scope} {N : List Str} {m : Nat} {t : XK → TE} {f c' : Addr} {cs : List Cand} {fs : List Addr} : Kn W Z f c' (LamO q params body scope [] f c') q → KnM W Z q cs fs → KnM W Z q (.lam params body scope N m t :: cs) (f :: fs)
theorem KnM.len {W : Wd} {Z : ZL} {q : Str} {cs : List Cand} {fs : List Addr} (h : KnM W Z q cs fs) : fs.length = cs.length := by
  induction h with
  | nil => rfl
  | fn _ ih => rw [List.length_cons, List.length_cons, ih]
  | lam _ _ ih => rw [List.length_cons, List.length_cons, ih]
/-- what is known of the j-th -/
def KnC (W : Wd) (Z : ZL) (q : Str) (f : Addr) : Cand → Prop
  | .fn f0 _ => f = f0
  | .lam params body scope _ _ _ => ∃ c', Kn W Z f c' (LamO q params body scope [] f c') q
theorem KnM.get {W : Wd} {Z : ZL} {q : Str} {cs : List Cand} {fs : List Addr} (h : KnM W Z q cs fs) : ∀ {i : Nat} {f : Addr}, fs[i]? = some f → ∃ c, cs[i]? = some c ∧ KnC W Z q f c := by
  induction h with
  | nil => intro i f e; simp at e
  | fn _ ih =>
    intro i f e
    cases i with
    | zero => simp at e; subst e; exact ⟨_, rfl, rfl⟩
    | succ i => exact ih (by simpa using e)
  | lam a _ ih =>
    intro i f e
    cases i with
    | zero => simp at e; subst e; exact ⟨_, rfl, _, a⟩
    | succ i => exact ih (by simpa using e)
/-- what the body knows of the object in the loop's slot -/
def CK (q : Str) (W : Wd) (f : Addr) : Cand → Prop
  | .fn f0 _ => f = f0
  | .lam params body scope _ _ _ => ∃ c', W.H0 f = some (LamO q params body scope [] f c') ∧ W.H0 c' = some (LamX.CodeO c' q) ∧ ¬ W.V f ∧ ¬ W.V c'
theorem LP.ext_nv {K : PySem.W.Frag} {Tt : List (Addr × Str)} {n : Nat} (L : LP K Tt) {H : Hp} {f : Addr} {φ : Heap → Prop} (g : L.G n H) (hc : H f = some (.ext φ)) : ¬ L.V f := fun hv => by
  obtain ⟨⟨gr, left, turn, h1, h2, h3, h4⟩, hs, ht, _⟩ := g
  rcases hv with rfl | rfl | rfl | ⟨tr, rfl⟩ | ⟨p, hp, rfl⟩
  · rw [h1] at hc; cases hc
  · rw [h2] at hc; cases hc
  · rw [h3] at hc; cases hc
  · rcases hs with ⟨_, h⟩ | ⟨h, _⟩
    · rw [h] at hc; cases hc
    · exact h tr
  · obtain ⟨ps, h, _⟩ := ht p hp
    rw [h] at hc; cases hc
section
variable {W : Wd} {n : Nat} {ρ : Rho} {N : Nat → Rho → Prop} {R : Nat → Bool → D → Prop} {B C : Nat → Rho → Prop} {K : PySem.W.Frag} {Tt : List (Addr × Str)}
theorem mksM_run (L : LP K Tt) (hV : W.V = L.V) (hG : W.G = L.G) {P : Addr} {q q' : Str} (mem : (P, q') ∈ Tt) : ∀ (cs : List Cand) {Z : ZL} {T : TL} {σ : L2.St} {H : Hp}, Env W n Z T ρ σ H → ∀ Q : List L2.V → Hp → Prop,
    (∀ (Z1 : ZL) (H1 : Hp) (fs : List Addr), Env W n (Z1 ++ Z) T ρ σ H1 → KnM W (Z1 ++ Z) q cs fs → Q (fs.map .ref) H1) → tMksM Tt P q cs σ H Q
  | [], Z, T, σ, H, e, Q, k => k [] H [] e .nil
  | .fn f sp :: cs, Z, T, σ, H, e, Q, k => mksM_run L hV hG mem cs e _ fun Z2 H2 fs e2 ks => k Z2 H2 (f :: fs) e2 (.fn ks)
  | .lam params body scope N m t :: cs, Z, T, σ, H, e, Q, k => by
    have g0 : L.G n H := by rw [← hG]; exact e.g
    refine ⟨g0.2.2.1, fun f c' H1 ext T1 fn hf hc ne => ?_⟩
    obtain ⟨Z1, e1, kn⟩ := lam_made L hV hG mem e ext T1 fn hf hc
    refine mksM_run L hV hG mem cs e1 _ fun Z2 H2 fs e2 ks => ?_
    rw [← List.append_assoc] at e2 ks
    refine k (Z2 ++ Z1) H2 (f :: fs) e2 (.lam (kn.mono fun p hp => ?_) ks)
    rw [List.append_assoc]
    exact List.mem_append_right _ hp
theorem ext_no_own {W : Wd} {Z : ZL} {T : TL} {σ : L2.St} {H : Hp} (e : Env W n Z T ρ σ H) {a : Addr} {φ : Heap → Prop} (h : H a = some (.ext φ)) : ¬ Own ρ σ a := fun ⟨i, d, h1, h2⟩ => by
  obtain ⟨a', o, q1, q2, q3, _, _⟩ := e.ow i d h1
  rw [h2] at q1
  cases q1
  rw [h] at q2
  cases q2
  cases q3
/-- for w in [f, g, lambda x: .., ..] -/
theorem ds_forMix (L : LP K Tt) (hV : W.V = L.V) (hG : W.G = L.G) {P : Addr} {q q' : Str} (mem : (P, q') ∈ Tt) {cs : List Cand} {i : Nat} {body : TS} (Iv : Nat → Nat → Rho → Prop) (hc : cs.length ≤ 1000) (h0 : Iv 0 n ρ)
    (hs : ∀ j c n ρ', cs[j]? = some c → Iv j n ρ' → ∀ (f : Addr) (W2 : Wd), W2.V = W.V → W2.G = W.G → W2.E = W.E → W2.EP = W.EP → CK q W2 f c → DS body W2 n (ρ'.set i (some (false, .raw f))) (Iv (j + 1)) R N (Iv (j + 1)))
    (hd : ∀ n ρ', Iv cs.length n ρ' → N n ρ') : DS (tFor (iSeq K (tLst (tMksM Tt P q cs))) (gName i) body) W n ρ N R B C := fun Z T σ H e De f => by
  refine mksM_run L hV hG mem cs e _ fun Z1 H1 fs e1 ks => ?_
  have kl := ks.len
  refine ⟨by rw [List.length_map, kl]; exact szl (by omega), fun p hp => ?_⟩
  have e' := e1.lay (o := .lst (fs.map .ref)) hp
  have il : Is (XX W (Z1 ++ Z) ρ σ) (upd H1 p (.lst (fs.map .ref))) (.ref p) (.lst (fs.map D.raw)) := .lst e'.zmv.2 upd_same (all_raw fs)
  have e3 : Env W n (Z1 ++ Z) ([(.ref p, .lst (fs.map D.raw))] ++ T) ρ σ _ := e'.zpop.push il
  refine ⟨p, rfl, .inl ⟨⟨_, .of upd_same⟩, ?_⟩⟩
  have ok : ItOk W [(.ref p, .lst (fs.map D.raw))] _ (fs.map D.raw) := it_list (K := K)
  have dl : (fs.map D.raw).length = cs.length := by rw [List.length_map, kl]
  refine ⟨fun j m σ H => m = (fs.map D.raw).length - j ∧ j ≤ (fs.map D.raw).length ∧ ∃ n ρ', Iv j n ρ' ∧ Env W n (Z1 ++ Z) ([(.ref p, .lst (fs.map D.raw))] ++ T) ρ' σ H, ⟨_, rfl, Nat.zero_le _, n, ρ, h0, e3⟩, ?_⟩
  rintro j m σ' H2 ⟨rfl, hi, n, ρ', hI, e4⟩
  have o := ok n (Z1 ++ Z) ([(.ref p, .lst (fs.map D.raw))] ++ T) ρ' σ' H2 (fun p hp => List.mem_append_left _ hp) e4 j
  by_cases hlt : j < (fs.map D.raw).length
  · refine .inr ⟨(o.1 hlt).1, fun σ3 H3 => ∃ n ρ3, Iv (j + 1) n ρ3 ∧ Env W n (Z1 ++ Z) ([(.ref p, .lst (fs.map D.raw))] ++ T) ρ3 σ3 H3, fun σ3 H3 ⟨n, ρ3, h3, e3⟩ => ⟨(fs.map D.raw).length - (j + 1), by omega, rfl, hlt, n, ρ3, h3, e3⟩, fun x H3 y => ?_⟩
    obtain ⟨d, hd', e5⟩ := (o.1 hlt).2 x H3 y
    rw [List.getElem?_map] at hd'
    obtain ⟨a, ha, rfl⟩ := Option.map_eq_some_iff.mp hd'
    have it := e5.top
    cases it
    have e6 : Env W n (Z1 ++ Z) ([(.ref p, .lst (fs.map D.raw))] ++ T) (ρ'.set i (some (false, .raw a))) (σ'.set i (some (.ref a))) H3 := (e5.set e5.top).pop1
    obtain ⟨c, hcs, kn⟩ := ks.get ha
    refine ds_froz e6 (N := Iv (j + 1)) (R := R) (B := N) (C := Iv (j + 1)) ⟨fun n ρ5 σ5 H5 n5 e5 => ⟨n, ρ5, n5, e5⟩, f.rt, f.rf, fun n ρ5 σ5 H5 n5 e5 => f.nx n ρ5 σ5 H5 n5 (Env.zpops (Z1 := Z1) e5.popAll), fun n ρ5 σ5 H5 n5 e5 => ⟨n, ρ5, n5, e5⟩⟩ fun W2 w1 w2 w3 w4 hk => ?_
    refine hs j c n ρ' hcs hI a W2 w1 w2 w3 w4 ?_
    cases c with
    | fn f0 sp => exact kn
    | lam params body scope N m t =>
      obtain ⟨c', kn⟩ := kn
      obtain ⟨k1, k2⟩ := kn (Z1 ++ Z) (fun _ z => z) _ _ _ _ _ e6
      have g6 : L.G n H3 := by rw [← hG]; exact e6.g
      exact ⟨c', hk _ _ k1 (ext_no_own e6 k1), hk _ _ k2 (ext_no_own e6 k2), by rw [w1, hV]; exact L.ext_nv g6 k1, by rw [w1, hV]; exact L.code_nv g6 k2⟩
  · have ej : j = cs.length := by omega
    subst ej
    exact .inl ⟨o.2 (by omega), f.nx n ρ' σ' H2 (hd n ρ' hI) (Env.zpops (Z1 := Z1) e4.popAll)⟩
end
section
variable {W : Wd} {n : Nat} {ρ : Rho} {K : PySem.W.Frag} {Tt : List (Addr × Str)}
/-- an env of parameters -/
theorem env_start {N : List Str} {vs : List L2.V} {ds : List D} {H : Hp} (hi : IsAll W.X0 H vs ds) (h0 : Frm W.V W.H0 H) (g : W.G n H) : Env W n [] [] (startR N ds) (L2.start N vs) H := by
  have hlen := hi.len
  have gR : ∀ (i : Nat) (b : Bool) (d : D), (startR N ds)[i]? = some (some (b, d)) → b = false ∧ ds[i]? = some d := fun i b d q => by
    unfold startR at q
    rw [List.getElem?_append, List.length_map, List.getElem?_map] at q
    by_cases h : i < ds.length
    · rw [if_pos h] at q
      cases r : ds[i]? with
      | none => rw [r] at q; cases q
      | some d' => rw [r] at q; cases q; exact ⟨rfl, rfl⟩
    · rw [if_neg h, List.getElem?_replicate] at q
      split at q <;> cases q
  have no : ∀ a, ¬ Own (startR N ds) (L2.start N vs) a := fun a ⟨i, d, q, _⟩ => by
    have := (gR i true d q).1
    cases this
  have m : Mv W.X0 H (XX W [] (startR N ds) (L2.start N vs)) H := fun a o q hx => ⟨q, fun x => by
    rcases x with x | x | ⟨o, x⟩
    · exact hx x
    · exact no a x
    · cases x⟩
  refine ⟨?_, fun i d q => ?_, fun i d q => ?_, fun i j d1 d2 a q1 => ?_, fun p hp => (nomatch hp), List.nodup_nil, fun p hp => (nomatch hp), h0, g⟩
  · unfold L2.start startR
    simp [hlen]
  · obtain ⟨_, q⟩ := gR i false d q
    obtain ⟨v, h1, h2⟩ := hi.got q
    refine ⟨v, ?_, h2.mv m⟩
    have hlt : i < vs.length := (List.getElem?_eq_some_iff.mp h1).1
    rw [start_get, if_pos hlt, h1]; rfl
  · have := (gR i true d q).1
    cases this
  · have := (gR i true d1 q1).1
    cases this
theorem de_caughtK {Q : Nat → D → Prop} {P CS : Addr} {q : Str} {te : XK → TE} (L : LP K Tt) (hV : W.V = L.V) (hG : W.G = L.G) (mem : (P, q) ∈ Tt)
    (h : ∀ (W' : Wd) (E' : XK), W'.V = L.V → W'.G = L.G → W'.E = E' → W'.EP = (fun n C ns l => ns = [] ∧ l = [] ∧ PySem.W.exmOne K (.ref C) (.ref CS) = some true ∧ Q n (.exc C [] [])) → (∀ a o, W.H0 a = some o → ¬ L.V a → W'.H0 a = some o) → DE (te E') W' n (shR ρ) fun n' _ => Q n' .non) :
    DE (tLam1 Tt P (TCaught K CS) te) W n ρ Q := fun Z T σ H e Qk k => by
  have g0 : L.G n H := by rw [← hG]; exact e.g
  refine ⟨g0.2.2.1, fun H1 ext T1 => ?_⟩
  have vP : W.V P := by rw [hV]; exact .inr (.inr (.inr (.inr ⟨_, mem, rfl⟩)))
  have e1 : Env W n Z T ρ σ H1 := e.heap (fun b o hb hv => ext b o (fun z => hv (by rw [z]; exact vP)) hb) (by rw [hG]; exact L.grown mem g0 ext T1)
  have m : ∀ b, XX (Wlam e1 Q K CS Qk k) [] (shR ρ) σ b → XX W Z ρ σ b := fun b x => by
    rcases x with x | ⟨i, d, x, _⟩ | ⟨o, x⟩
    · exact x
    · have := (shR_get x).1
      cases this
    · cases x
  have mv : Mv (XX W Z ρ σ) H1 (XX (Wlam e1 Q K CS Qk k) [] (shR ρ) σ) H1 := fun b o hb hx => ⟨hb, fun x => hx (m b x)⟩
  have e2 : Env (Wlam e1 Q K CS Qk k) n [] [] (shR ρ) σ H1 := by
    refine ⟨by unfold shR; rw [List.length_map]; exact e.len, fun i d x => ?_, fun i d x => ?_, fun i j d d' a x => ?_, fun p hp => (nomatch hp), List.nodup_nil, fun p hp => (nomatch hp), fun a o ha _ => ha, e1.g⟩
    · obtain ⟨v, h1, h2⟩ := e1.sh i d (shR_get x).2
      exact ⟨v, h1, h2.mv mv⟩
    · have := (shR_get x).1
      cases this
    · have := (shR_get x).1
      cases this
  exact h (Wlam e1 Q K CS Qk k) _ hV hG rfl rfl (fun a o ha hv => e1.fr a o ha (by rw [hV]; exact hv)) [] [] σ H1 e2 _ fun n' v d H' p e3 _ => k n' .non .non H' p (e1.heap e3.fr e3.g) .non
theorem de_callMf {i : Nat} {q : Str} {cs : List Cand} {f : Addr} {sp : Sp} {E : XK} {tas : TA} {P : Nat → D → Prop} (hi : ρ[i]? = some (some (false, .raw f))) (hm : Cand.fn f sp ∈ cs) (h : DE (tCall sp [] E tas) W n ρ P) : DE (tCallM i q cs E tas) W n ρ P := fun Z T σ H e Q k => by
  obtain ⟨v, h1, h2⟩ := e.sh i _ hi
  cases h2
  exact .inl ⟨f, sp, hm, h1, h Z T σ H e Q k⟩
theorem de_callMl (L : LP K Tt) (hV : W.V = L.V) (hG : W.G = L.G) {i m : Nat} {q : Str} {cs : List Cand} {f c' : Addr} {params : Arguments} {body : Expr} {scope : Scope} {N : List Str} {t : XK → TE} {E : XK} {tas : TA} {P : Nat → D → Prop} (hi : ρ[i]? = some (some (false, .raw f))) (hm : Cand.lam params body scope N m t ∈ cs)
    (k1 : W.H0 f = some (LamO q params body scope [] f c')) (k2 : W.H0 c' = some (LamX.CodeO c' q)) (nf : ¬ L.V f) (nc : ¬ L.V c')
    (h : DA tas W n ρ fun n' ds => ds.length = m ∧ ∀ W2 : Wd, W2.V = W.V → W2.G = W.G → W2.E = W.E → W2.EP = W.EP → DE (t E) W2 n' (startR N ds) P) : DE (tCallM i q cs E tas) W n ρ P := fun Z T σ H e Q k => by
  obtain ⟨v, h1, h2⟩ := e.sh i _ hi
  cases h2
  have nf' : ¬ W.V f := by rw [hV]; exact nf
  have nc' : ¬ W.V c' := by rw [hV]; exact nc
  refine .inr ⟨params, body, scope, N, m, t, f, c', hm, h1, e.fr _ _ k1 nf', ?_⟩
  refine h Z T σ H e _ fun n' vs ds H2 ⟨hl, hk⟩ e2 ia => ⟨by rw [ia.len]; exact hl, e2.fr _ _ k1 nf', e2.fr _ _ k2 nc', ?_⟩
  obtain ⟨W2, w1, w2, w3, w4, w5, w6⟩ : ∃ W2 : Wd, W2.V = W.V ∧ W2.G = W.G ∧ W2.E = W.E ∧ W2.EP = W.EP ∧ W2.X0 = XX W Z ρ σ ∧ W2.H0 = H2 :=
    ⟨{ V := W.V, X0 := XX W Z ρ σ, G := W.G, H0 := H2, E := W.E, EP := W.EP, vx := fun a h => .inl (W.vx a h), xd := fun a h => e2.xdom h, vd := W.vd, stab := W.stab, hE := fun n C ns l od H' p fr g x => W.hE n C ns l od H' p (fun a o h hv => fr a o (e2.fr a o h hv) hv) g (exf_mono (fun a h => .inl h) x) }, rfl, rfl, rfl, rfl, rfl, rfl⟩
  have e3 : Env W2 n' [] [] (startR N ds) (L2.start N vs) H2 := env_start (by rw [w5]; exact ia) (fun a o h _ => by rw [w6] at h; exact h) (by rw [w2]; exact e2.g)
  refine hk W2 w1 w2 w3 w4 [] [] _ _ e3 Q fun n3 v d H3 p e4 i4 => ?_
  have fr := e4.fr
  rw [w1, w6] at fr
  have g := e4.g
  rw [w2] at g
  have e5 := e2.heap fr g
  refine k n3 v d H3 p e5 (i4.mv fun a o z hx => ⟨z, fun y => hx (.inl (by rw [w5]; exact y))⟩)
end
/-- errors go out as the called one's own -/
theorem passC {P : Program} {w : World} {K : PySem.W.Frag} {mg : Str → Option Value} {base : Heap} {N : List Str} {x : Str} {sc : Scope} {f : Addr} {cdv : Value} {A : Around} {outer : List PySem.Env} {s : Shared} {H : Hp} {E : XK} :
    Passes (L2.CX P w) (cxOf (L2.CX P w) P w K mg base N x sc f cdv A outer s H E) E := passes_call (takes_of rfl rfl rfl rfl) fun _ _ _ _ h => h
end HD

namespace HD
open PySem PySem.Spec PyProof.Rows L2
/-! ### signs of a house -/
def sAt (ss : List Int) (x : Int) : Int := ss.getD x.toNat 0
structure Signs (r : Int) (dl : List Door) (ss : List Int) : Prop where
  len : (ss.length : Int) = r
  pm : ∀ x ∈ ss, x = 1 ∨ x = -1
  fit : ∀ d ∈ dl, 0 < d.first * d.second * sAt ss d.near * sAt ss d.far
def sgP (dl : List Door) (ps : List Ps) : Int := prL dl ps * prA dl ps
theorem pm_sq {x : Int} (h : x = 1 ∨ x = -1) : x * x = 1 := by rcases h with rfl | rfl <;> rfl
theorem sign_pm {x : Int} (h : x ≠ 0) : x.sign = 1 ∨ x.sign = -1 := by
  rcases Int.lt_or_gt_of_ne h with h | h
  · exact .inr (Int.sign_eq_neg_one_of_neg h)
  · exact .inl (Int.sign_eq_one_of_pos h)
theorem pm_inv {a b c : Int} (ha : a = 1 ∨ a = -1) (hb : b = 1 ∨ b = -1) (hc : c = 1 ∨ c = -1) : a * b * c = 1 ↔ b = a * c := by
  rcases ha with rfl | rfl <;> rcases hb with rfl | rfl <;> rcases hc with rfl | rfl <;> decide
theorem pos_sign {x : Int} : 0 < x ↔ x.sign = 1 := ⟨Int.sign_eq_one_of_pos, fun h => Int.pos_of_sign_eq_one h⟩
theorem fit_sign {f a b : Int} (f0 : f ≠ 0) (ha : a = 1 ∨ a = -1) (hb : b = 1 ∨ b = -1) : 0 < f * a * b ↔ f.sign = a * b := by
  have s : ∀ {x : Int}, x = 1 ∨ x = -1 → x.sign = x := fun h => by rcases h with rfl | rfl <;> rfl
  rw [pos_sign, Int.sign_mul, Int.sign_mul, s ha, s hb]
  rcases sign_pm f0 with e | e <;> rw [e] <;> rcases ha with rfl | rfl <;> rcases hb with rfl | rfl <;> decide
section
variable {r : Int} {dl : List Door}
theorem Signs.at {ss : List Int} (S : Signs r dl ss) {x : Int} (x0 : 0 ≤ x) (x1 : x < r) : sAt ss x = 1 ∨ sAt ss x = -1 := by
  have hl := S.len
  have h : x.toNat < ss.length := by omega
  unfold sAt
  rw [List.getD_eq_getElem?_getD, List.getElem?_eq_getElem h]
  exact S.pm _ (List.getElem_mem h)
theorem rat_sign (O : NumD dl) (ps : List Ps) : (ratG dl ps).1.sign = (sgP dl ps).sign := by
  obtain ⟨lo, e, _, _, _⟩ := ratG_ok O (ps := ps)
  have e2 := congrArg Int.sign e
  rw [Int.sign_mul, Int.sign_mul, Int.sign_eq_one_of_pos lo.pos, Int.one_mul] at e2
  unfold sgP
  rw [Int.sign_mul, ← e2, Int.mul_comm (ratG dl ps).1.sign, ← Int.mul_assoc, pm_sq (sign_pm (prL_nz O)), Int.one_mul]
theorem sgP_nz (O : NumD dl) (ps : List Ps) : sgP dl ps ≠ 0 := Int.mul_ne_zero (prL_nz O) (prA_nz O)
theorem sgP_cons (p : Ps) (ps : List Ps) : (sgP dl (p :: ps)).sign = ((gat dl p).first * (gat dl p).second).sign * (sgP dl ps).sign := by
  rw [← Int.sign_mul]
  congr 1
  show ((gat dl p).first * prL dl ps) * ((gat dl p).second * prA dl ps) = ((gat dl p).first * (gat dl p).second) * (prL dl ps * prA dl ps)
  ac_rfl
theorem sgP_app (a b : List Ps) : (sgP dl (a ++ b)).sign = (sgP dl a).sign * (sgP dl b).sign := by
  rw [← Int.sign_mul]
  congr 1
  unfold sgP
  rw [prL_app, prA_app]
  ac_rfl
theorem sgP_back {ps : List Ps} (h : ∀ p ∈ ps, psOk dl p) : sgP dl (ps.reverse.map bk) = sgP dl ps := by
  unfold sgP
  rw [(pr_back h).1, (pr_back h).2, Int.mul_comm]
def Rng (r : Int) (dl : List Door) : Prop := ∀ d ∈ dl, (0 ≤ d.near ∧ d.near < r) ∧ (0 ≤ d.far ∧ d.far < r)
theorem gat_nz2 (O : NumD dl) (p : Ps) : (gat dl p).first * (gat dl p).second ≠ 0 := Int.mul_ne_zero (O p).1.1 (O p).2.1
theorem Signs.gate {ss : List Int} (O : NumD dl) (G : Rng r dl) (S : Signs r dl ss) {p : Ps} (h : psOk dl p) : ((gat dl p).first * (gat dl p).second).sign = sAt ss (gat dl p).near * sAt ss (gat dl p).far ∧ (0 ≤ (gat dl p).near ∧ (gat dl p).near < r) ∧ 0 ≤ (gat dl p).far ∧ (gat dl p).far < r := by
  obtain ⟨d, hd, e⟩ := gat_mem h
  obtain ⟨⟨n0, n1⟩, m0, m1⟩ := G d hd
  have z := gat_nz2 O p
  have hf := S.fit d hd
  by_cases q : p.2 = 0
  · rw [if_pos q] at e
    rw [e] at z ⊢
    exact ⟨(fit_sign z (S.at n0 n1) (S.at m0 m1)).mp hf, ⟨n0, n1⟩, m0, m1⟩
  · rw [if_neg q] at e
    rw [e] at z ⊢
    refine ⟨(fit_sign z (S.at m0 m1) (S.at n0 n1)).mp ?_, ⟨m0, m1⟩, n0, n1⟩
    show 0 < d.second * d.first * sAt ss d.far * sAt ss d.near
    rw [show d.second * d.first * sAt ss d.far * sAt ss d.near = d.first * d.second * sAt ss d.near * sAt ss d.far by ac_rfl]
    exact hf
theorem Signs.walk {ss : List Int} (O : NumD dl) (G : Rng r dl) (S : Signs r dl ss) : ∀ {ps : List Ps} {a : Int}, (0 ≤ a ∧ a < r) → chain dl a ps → (sgP dl ps).sign = sAt ss a * sAt ss (endR dl a ps)
  | [], a, ha, _ => (pm_sq (S.at ha.1 ha.2)).symm
  | p :: ps, a, ha, h => by
    obtain ⟨h1, h2, h3⟩ := h
    obtain ⟨g1, g2, g3⟩ := S.gate O G h1
    have ih := S.walk O G g3 h3
    rw [sgP_cons, ih, g1, h2]
    show sAt ss a * sAt ss (gat dl p).far * (sAt ss (gat dl p).far * sAt ss (endR dl (gat dl p).far ps)) = sAt ss a * sAt ss (endR dl (gat dl p).far ps)
    rw [Int.mul_assoc, ← Int.mul_assoc (sAt ss (gat dl p).far), pm_sq (S.at g3.1 g3.2), Int.one_mul]
theorem round_pos {ss : List Int} (O : NumD dl) (G : Rng r dl) (S : Signs r dl ss) {ps : List Ps} {a : Int} (ha : 0 ≤ a ∧ a < r) (h : chain dl a ps) (e : endR dl a ps = a) : 0 < (ratG dl ps).1 := by
  rw [pos_sign, rat_sign O, S.walk O G ha h, e]
  exact pm_sq (S.at ha.1 ha.2)
/-- the signs along some ways -/
def dueI (dl : List Door) (way : Int → List Ps) (x : Int) : Int := if 0 < (ratG dl (way x)).1 then 1 else -1
def dueL (r : Int) (dl : List Door) (way : Int → List Ps) : List Int := (List.range r.toNat).map fun c : Nat => dueI dl way (c : Int)
theorem due_at {way : Int → List Ps} {x : Int} (x0 : 0 ≤ x) (x1 : x < r) : sAt (dueL r dl way) x = dueI dl way x := by
  unfold sAt dueL
  rw [List.getD_eq_getElem?_getD, List.getElem?_map, List.getElem?_range (by omega : x.toNat < r.toNat)]
  show dueI dl way ((x.toNat : Nat) : Int) = _
  rw [Int.toNat_of_nonneg x0]
theorem due_sign (O : NumD dl) {way : Int → List Ps} {x : Int} : dueI dl way x = (sgP dl (way x)).sign := by
  rw [← rat_sign O]
  unfold dueI
  by_cases h : 0 < (ratG dl (way x)).1
  · rw [if_pos h, Int.sign_eq_one_of_pos h]
  · rw [if_neg h]
    have hz := (ratG_ok O (ps := way x)).2.2.2.2
    rw [Int.sign_eq_neg_one_of_neg (by omega)]
theorem due_pm {way : Int → List Ps} {x : Int} : dueI dl way x = 1 ∨ dueI dl way x = -1 := by
  unfold dueI
  split
  · exact .inl rfl
  · exact .inr rfl
theorem due_len {way : Int → List Ps} (r0 : 0 ≤ r) : ((dueL r dl way).length : Int) = r := by
  unfold dueL
  rw [List.length_map, List.length_range]
  omega
theorem due_mem {way : Int → List Ps} : ∀ x ∈ dueL r dl way, x = 1 ∨ x = -1 := fun x hx => by
  obtain ⟨c, _, rfl⟩ := List.mem_map.mp hx
  exact due_pm
theorem due_of {ss : List Int} (O : NumD dl) (G : Rng r dl) (S : Signs r dl ss) (r1 : 1 ≤ r) {way : Int → List Ps} (h : WayF r dl way) {x : Int} (x0 : 0 ≤ x) (x1 : x < r) : dueI dl way x = sAt ss 0 * sAt ss x := by
  obtain ⟨c1, c2, _⟩ := h.ch x x0 x1
  rw [due_sign O, S.walk O G ⟨by omega, by omega⟩ c1, c2]
theorem fit_due (O : NumD dl) (G : Rng r dl) {way : Int → List Ps} (r0 : 0 ≤ r) (h : ∀ d ∈ dl, (d.first * d.second).sign = dueI dl way d.near * dueI dl way d.far) (nz : ∀ d ∈ dl, d.first * d.second ≠ 0) : Signs r dl (dueL r dl way) := by
  refine ⟨due_len r0, due_mem, fun d hd => ?_⟩
  obtain ⟨⟨n0, n1⟩, m0, m1⟩ := G d hd
  rw [due_at n0 n1, due_at m0 m1]
  exact (fit_sign (nz d hd) due_pm due_pm).mpr (h d hd)
theorem door_gate {d : Door} (hd : d ∈ dl) : ∃ i : Nat, dl[i]? = some d ∧ gat dl ((i : Int), 0) = d := by
  obtain ⟨i, hi, e⟩ := List.getElem_of_mem hd
  have : dl[i]? = some d := by rw [List.getElem?_eq_getElem hi, e]
  exact ⟨i, this, gat_at this⟩
theorem door_nz (O : NumD dl) {d : Door} (hd : d ∈ dl) : d.first * d.second ≠ 0 := by
  obtain ⟨i, _, e⟩ := door_gate hd
  have := gat_nz2 O ((i : Int), 0)
  rw [e] at this
  exact this
theorem signs_due {ss : List Int} (O : NumD dl) (G : Rng r dl) (S : Signs r dl ss) (r1 : 1 ≤ r) {way : Int → List Ps} (h : WayF r dl way) : Signs r dl (dueL r dl way) ∧ sAt (dueL r dl way) 0 = 1 := by
  have z := S.at (Int.le_refl 0) (by omega)
  refine ⟨fit_due O G (by omega) (fun d hd => ?_) fun d hd => door_nz O hd, ?_⟩
  · obtain ⟨⟨n0, n1⟩, m0, m1⟩ := G d hd
    rw [due_of O G S r1 h n0 n1, due_of O G S r1 h m0 m1, (fit_sign (door_nz O hd) (S.at n0 n1) (S.at m0 m1)).mp (S.fit d hd)]
    rw [show sAt ss 0 * sAt ss d.near * (sAt ss 0 * sAt ss d.far) = sAt ss 0 * sAt ss 0 * (sAt ss d.near * sAt ss d.far) by ac_rfl, pm_sq z, Int.one_mul]
  · rw [due_at (Int.le_refl 0) (by omega), due_of O G S r1 h (Int.le_refl 0) (by omega)]
    exact pm_sq z
theorem getD_ext {a b : List Int} (hl : a.length = b.length) (h : ∀ i : Nat, i < a.length → a.getD i 0 = b.getD i 0) : a = b := by
  refine List.ext_getElem hl fun i h1 h2 => ?_
  have := h i h1
  rw [List.getD_eq_getElem?_getD, List.getD_eq_getElem?_getD, List.getElem?_eq_getElem h1, List.getElem?_eq_getElem h2] at this
  exact this
def PrimS (r : Int) (dl : List Door) (ss : List Int) : Prop := Signs r dl ss ∧ sAt ss 0 = 1
theorem prim_due {ss : List Int} (O : NumD dl) (G : Rng r dl) (S : PrimS r dl ss) (r1 : 1 ≤ r) {way : Int → List Ps} (h : WayF r dl way) : ss = dueL r dl way := by
  have l1 := S.1.len
  have l2 := due_len (dl := dl) (way := way) (by omega : 0 ≤ r)
  refine getD_ext (by omega) fun i hi => ?_
  have e : sAt ss (i : Int) = sAt (dueL r dl way) (i : Int) := by
    rw [due_at (by omega) (by omega), due_of O G S.1 r1 h (by omega) (by omega), S.2, Int.one_mul]
  unfold sAt at e
  rw [Int.toNat_natCast] at e
  exact e
open Classical in
noncomputable def signO (r : Int) (dl : List Door) : Option (List Int) := if h : ∃ ss, PrimS r dl ss then some h.choose else none
theorem signO_some {ss : List Int} (h : signO r dl = some ss) : PrimS r dl ss := by
  unfold signO at h
  split at h
  · rename_i q
    injection h with h
    rw [← h]
    exact q.choose_spec
  · cases h
theorem signO_yes (O : NumD dl) (G : Rng r dl) (r1 : 1 ≤ r) {way : Int → List Ps} (h : WayF r dl way) {ss : List Int} (S : Signs r dl ss) : signO r dl = some (dueL r dl way) := by
  have P : PrimS r dl (dueL r dl way) := signs_due O G S r1 h
  have q : ∃ ss, PrimS r dl ss := ⟨_, P⟩
  have e : signO r dl = some q.choose := dif_pos q
  rw [e, ← prim_due O G q.choose_spec r1 h]
theorem signO_no (h : ¬ ∃ ss, Signs r dl ss) : signO r dl = none := dif_neg fun ⟨ss, q⟩ => h ⟨ss, q.1⟩
theorem rounds_signs (O : NumD dl) (G : Rng r dl) (r1 : 1 ≤ r) {way : Int → List Ps} (h : WayF r dl way) (q : ∀ (i : Nat) (d : Door), dl[i]? = some d → ¬ (ratG dl (roundP way i d)).1 < 0) : Signs r dl (dueL r dl way) := by
  refine fit_due O G (by omega) (fun d hd => ?_) fun d hd => door_nz O hd
  obtain ⟨i, e, eg⟩ := door_gate hd
  obtain ⟨⟨n0, n1⟩, m0, m1⟩ := G d hd
  have hz := (ratG_ok O (ps := roundP way i d)).2.2.2.2
  have hp : 0 < (ratG dl (roundP way i d)).1 := by have := q i d e; omega
  rw [pos_sign, rat_sign O] at hp
  unfold roundP at hp
  rw [sgP_app, sgP_app, sgP_back (chain_all (h.ch d.far m0 m1).1), sgP_cons, eg, ← due_sign O, ← due_sign O] at hp
  rw [show (sgP dl []).sign = 1 from rfl, Int.mul_one] at hp
  exact (pm_inv due_pm (sign_pm (door_nz O hd)) due_pm).mp hp
end
/-! as values -/
def pmB : D → Bool
  | .int i => decide (i = 1) || decide (i = -1)
  | _ => false
def sfitB (dl : List Door) (ss : List Int) : Bool := dl.all fun d => decide (0 < d.first * d.second * sAt ss d.near * sAt ss d.far)
def signsB (r : Int) (dl : List Door) : D → Bool
  | .tup l => decide ((l.length : Int) = r) && (l.all pmB && sfitB dl (l.map ofI))
  | _ => false
theorem pmB_all {l : List D} (h : l.all pmB = true) : l = (l.map ofI).map D.int ∧ ∀ x ∈ l.map ofI, x = 1 ∨ x = -1 := by
  induction l with
  | nil => exact ⟨rfl, fun _ h => nomatch h⟩
  | cons d t ih =>
    rw [List.all_cons, Bool.and_eq_true] at h
    obtain ⟨h1, h2⟩ := ih h.2
    have hd := h.1
    cases d with
    | int i =>
      have hd : (decide (i = 1) || decide (i = -1)) = true := hd
      rw [Bool.or_eq_true, decide_eq_true_iff, decide_eq_true_iff] at hd
      refine ⟨?_, fun x hx => ?_⟩
      · show D.int i :: t = D.int i :: (t.map ofI).map D.int
        rw [← h1]
      · rcases List.mem_cons.mp hx with rfl | hx
        · exact hd
        · exact h2 x hx
    | _ => cases hd
theorem pm_map {ls : List Int} (h : ∀ x ∈ ls, x = 1 ∨ x = -1) : (ls.map D.int).all pmB = true := List.all_eq_true.mpr fun d hd => by
  obtain ⟨x, hx, rfl⟩ := List.mem_map.mp hd
  rcases h x hx with rfl | rfl <;> rfl
theorem signsB_iff {r : Int} {dl : List Door} {ls : List Int} : signsB r dl (.tup (ls.map D.int)) = true ↔ Signs r dl ls := by
  have e : signsB r dl (.tup (ls.map D.int)) = (decide (((ls.map D.int).length : Int) = r) && ((ls.map D.int).all pmB && sfitB dl ((ls.map D.int).map ofI))) := rfl
  rw [e, ofI_map, List.length_map, Bool.and_eq_true, Bool.and_eq_true, decide_eq_true_iff]
  constructor
  · rintro ⟨h1, h2, h3⟩
    refine ⟨h1, ?_, fun d hd => of_decide_eq_true (List.all_eq_true.mp h3 d hd)⟩
    have := (pmB_all h2).2
    rw [ofI_map] at this
    exact this
  · intro S
    exact ⟨S.len, pm_map S.pm, List.all_eq_true.mpr fun d hd => decide_eq_true (S.fit d hd)⟩
end HD

namespace HD
open PySem PySem.Spec PyProof.Rows L2
/-! ### less, of tuples and lists of numbers and truth values -/
def lexLt : List Int → List Int → Bool
  | [], _ => false
  | _ :: _, [] => false
  | a :: as, b :: bs => if a = b then lexLt as bs else decide (a < b)
/-- numbers (false) and truth values (true) -/
def kV : Bool × Int → L2.V
  | (false, i) => .int i
  | (true, i) => .bl (decide (i = 1))
def kyD : Bool × Int → D
  | (false, i) => .int i
  | (true, i) => .bl (decide (i = 1))
def kOk : Bool × Int → Prop
  | (false, _) => True
  | (true, i) => i = 0 ∨ i = 1
/-- two rows of the same kinds -/
structure Alk (ks ms : List (Bool × Int)) : Prop where
  k : ks.map (·.1) = ms.map (·.1)
  a : ∀ p ∈ ks, kOk p
  b : ∀ p ∈ ms, kOk p
theorem firstLt_map {e r : Nat → Bool} {fin : Bool} {f : Nat → Nat} : ∀ l : List Nat, SeqAt.firstLt e r fin (l.map f) = SeqAt.firstLt (fun j => e (f j)) (fun j => r (f j)) fin l
  | [] => rfl
  | j :: t => by
    rw [List.map_cons]
    by_cases h : e (f j) = true
    · rw [SeqAt.firstLt_yes h, SeqAt.firstLt_yes (e := fun j => e (f j)) h, firstLt_map t]
    · have h : e (f j) = false := by simpa using h
      rw [SeqAt.firstLt_no h, SeqAt.firstLt_no (e := fun j => e (f j)) h]
theorem firstLt_lex : ∀ (ks ms : List Int), ks.length = ms.length → SeqAt.firstLt (fun j => decide (ks.getD j 0 = ms.getD j 0)) (fun j => decide (ks.getD j 0 < ms.getD j 0)) false (List.range ks.length) = lexLt ks ms
  | [], [], _ => rfl
  | a :: as, b :: bs, h => by
    rw [List.length_cons, List.range_succ_eq_map]
    have ih := firstLt_lex as bs (by simpa using h)
    by_cases q : a = b
    · rw [SeqAt.firstLt_yes (by show decide (a = b) = true; exact decide_eq_true q), firstLt_map]
      show SeqAt.firstLt (fun j => decide (as.getD j 0 = bs.getD j 0)) (fun j => decide (as.getD j 0 < bs.getD j 0)) false (List.range as.length) = if a = b then lexLt as bs else decide (a < b)
      rw [ih, if_pos q]
    · rw [SeqAt.firstLt_no (by show decide (a = b) = false; exact decide_eq_false q)]
      show decide (a < b) = if a = b then lexLt as bs else decide (a < b)
      rw [if_neg q]
theorem key_eq {A : Around} {s : Shared} {p q : Bool × Int} {u v : Value} (hu : RelV (kV p) u) (hv : RelV (kV q) v) (hk : p.1 = q.1) (hp : kOk p) (hq : kOk q) : SeqAt.EqAt A s u v (decide (p.2 = q.2)) := by
  obtain ⟨x, i⟩ := p
  obtain ⟨y, j⟩ := q
  have hk : x = y := hk
  subst hk
  cases x with
  | false =>
    obtain ⟨t, rfl⟩ := hu
    obtain ⟨t', rfl⟩ := hv
    have z : (i == j) = decide (i = j) := by
      by_cases q : i = j
      · rw [decide_eq_true q]; exact beq_iff_eq.mpr q
      · rw [decide_eq_false q]; exact beq_eq_false_iff_ne.mpr q
    show SeqAt.EqAt A s _ _ (decide (i = j))
    rw [← z]
    exact SeqAt.EqAt.int_int _ _ _ _
  | true =>
    have hu : u = .bool (decide (i = 1)) := hu
    have hv : v = .bool (decide (j = 1)) := hv
    subst hu hv
    have z : (decide (i = 1) == decide (j = 1)) = decide (i = j) := by
      rcases hp with rfl | rfl <;> rcases hq with rfl | rfl <;> decide
    show SeqAt.EqAt A s _ _ (decide (i = j))
    rw [← z]
    exact SeqAt.EqAt.bool_bool _ _
theorem key_lt {A : Around} {s : Shared} {p q : Bool × Int} {u v : Value} (hu : RelV (kV p) u) (hv : RelV (kV q) v) (hk : p.1 = q.1) (hp : kOk p) (hq : kOk q) : SeqAt.RcLt A s u v (decide (p.2 < q.2)) := by
  obtain ⟨x, i⟩ := p
  obtain ⟨y, j⟩ := q
  have hk : x = y := hk
  subst hk
  cases x with
  | false =>
    obtain ⟨t, rfl⟩ := hu
    obtain ⟨t', rfl⟩ := hv
    exact fun _ _ _ _ h => PyProof.Rows.lt_int h
  | true =>
    have hu : u = .bool (decide (i = 1)) := hu
    have hv : v = .bool (decide (j = 1)) := hv
    subst hu hv
    intro _ _ _ _ h
    refine PyProof.Rows.lt_bool ?_
    rcases hp with rfl | rfl <;> rcases hq with rfl | rfl <;> exact h
def rLtS (K : PySem.W.Frag) : R2 := fun x y H Q => (∃ i j, x = .int i ∧ y = .int j ∧ Q (.bl (decide (i < j))) H) ∨
  ∃ (a b : Addr) (ks ms : List (Bool × Int)), x = .ref a ∧ y = .ref b ∧ ((SqT K H a (ks.map kV) ∧ SqT K H b (ms.map kV)) ∨ (SqL K H a (ks.map kV) ∧ SqL K H b (ms.map kV))) ∧ Alk ks ms ∧ Q (.bl (lexLt (ks.map (·.2)) (ms.map (·.2)))) H
theorem vals_key {ks : List (Bool × Int)} {us : List Value} (h : L2.Vals (ks.map kV) us) {j : Nat} (hj : j < us.length) : ∃ p, ks[j]? = some p ∧ RelV (kV p) us[j] := by
  have hl : (ks.map kV).length = us.length := L2.Vals.length h
  rw [List.length_map] at hl
  have hj' : j < ks.length := by omega
  refine ⟨ks[j], List.getElem?_eq_getElem hj', ?_⟩
  clear hl
  induction us generalizing ks j with
  | nil => exact absurd hj (Nat.not_lt_zero _)
  | cons u us ih =>
    cases ks with
    | nil => exact absurd hj' (Nat.not_lt_zero _)
    | cons k ks =>
      cases h with
      | cons h1 h2 =>
        cases j with
        | zero => exact h1
        | succ j => exact ih h2 (by simpa using hj) (by simpa using hj')
theorem op_ltS {X : Cx} (hu : X.A.units < cLine) : OpR X (compareOp .Lt) (rLtS X.K) := by
  intro pins s σ H x y v u Q I rx ry h
  rcases h with ⟨i, j, rfl, rfl, q⟩ | ⟨a, b, ks, ms, rfl, rfl, hs, ha, q⟩
  · exact op_lt pins s σ H _ _ v u Q I rx ry ⟨i, j, rfl, rfl, q⟩
  cases rx
  cases ry
  have lk : ks.length = ms.length := by have := congrArg List.length ha.k; rw [List.length_map, List.length_map] at this; exact this
  have key : ∀ (its its2 : List Value), L2.Vals (ks.map kV) its → L2.Vals (ms.map kV) its2 → (∀ (e r : Nat → Bool), (∀ j (h1 : j < its.toArray.size) (h2 : j < its2.toArray.size), SeqAt.EqAt X.A.in1 s its.toArray[j] its2.toArray[j] (e j)) → (∀ j (h1 : j < its.toArray.size) (h2 : j < its2.toArray.size), e j = false → SeqAt.RcLt X.A.in1 s its.toArray[j] its2.toArray[j] (r j)) →
      SeqAt.RcLt X.A s (.ref a) (.ref b) (SeqAt.firstLt e r (decide (its.toArray.size < its2.toArray.size)) (List.range (min its.toArray.size its2.toArray.size)))) → wpAny (model X.prog X.w) X.A (compareOp .Lt (.ref a) (.ref b)) (EP X pins σ Q) X.xe s := fun its its2 r1 r2 R => by
    have l1 : its.length = ks.length := by have := L2.Vals.length r1; rw [List.length_map] at this; exact this.symm
    have l2 : its2.length = ms.length := by have := L2.Vals.length r2; rw [List.length_map] at this; exact this.symm
    have at1 : ∀ j, j < its.length → j < its2.length → ∃ p q, ks[j]? = some p ∧ ms[j]? = some q ∧ p.1 = q.1 ∧ kOk p ∧ kOk q ∧ (ks.map (·.2)).getD j 0 = p.2 ∧ (ms.map (·.2)).getD j 0 = q.2 := fun j h1 h2 => by
      have j1 : j < ks.length := by omega
      have j2 : j < ms.length := by omega
      have e1 := List.getElem?_eq_getElem j1
      have e2 := List.getElem?_eq_getElem j2
      refine ⟨_, _, e1, e2, ?_, ha.a _ (List.getElem_mem j1), ha.b _ (List.getElem_mem j2), ?_, ?_⟩
      · have := congrArg (fun l => l[j]?) ha.k
        rw [List.getElem?_map, List.getElem?_map, e1, e2] at this
        exact Option.some.inj this
      · rw [List.getD_eq_getElem?_getD, List.getElem?_map, e1]; rfl
      · rw [List.getD_eq_getElem?_getD, List.getElem?_map, e2]; rfl
    have z := R (fun j => decide ((ks.map (·.2)).getD j 0 = (ms.map (·.2)).getD j 0)) (fun j => decide ((ks.map (·.2)).getD j 0 < (ms.map (·.2)).getD j 0)) (fun j h1 h2 => by
      have h1' : j < its.length := by simpa using h1
      have h2' : j < its2.length := by simpa using h2
      obtain ⟨p, q, e1, e2, hk, hp, hq, g1, g2⟩ := at1 j h1' h2'
      obtain ⟨p', f1, rv1⟩ := vals_key r1 h1'
      obtain ⟨q', f2, rv2⟩ := vals_key r2 h2'
      rw [e1] at f1; cases f1
      rw [e2] at f2; cases f2
      rw [g1, g2]
      exact key_eq rv1 rv2 hk hp hq) (fun j h1 h2 _ => by
      have h1' : j < its.length := by simpa using h1
      have h2' : j < its2.length := by simpa using h2
      obtain ⟨p, q, e1, e2, hk, hp, hq, g1, g2⟩ := at1 j h1' h2'
      obtain ⟨p', f1, rv1⟩ := vals_key r1 h1'
      obtain ⟨q', f2, rv2⟩ := vals_key r2 h2'
      rw [e1] at f1; cases f1
      rw [e2] at f2; cases f2
      rw [g1, g2]
      exact key_lt rv1 rv2 hk hp hq)
    have es : its.toArray.size = (ks.map (·.2)).length := by rw [List.size_toArray, List.length_map]; exact l1
    have es2 : its2.toArray.size = (ks.map (·.2)).length := by rw [List.size_toArray, List.length_map]; omega
    rw [es, es2, decide_eq_false (Nat.lt_irrefl _), Nat.min_self, firstLt_lex _ _ (by rw [List.length_map, List.length_map]; exact lk)] at z
    exact z X.prog X.w X.xe (EP X pins σ Q) ⟨.bl _, H, I, rfl, q⟩
  rcases hs with ⟨h1, h2⟩ | ⟨h1, h2⟩
  · obtain ⟨its, r1, p1, _⟩ := I.tuple h1
    obtain ⟨its2, r2, p2, _⟩ := I.tuple h2
    exact key its its2 r1 r2 fun e r he hr => SeqAt.RcLt.tuples p1 p2 hu he hr
  · obtain ⟨its, r1, p1, _⟩ := I.list h1
    obtain ⟨its2, r2, p2, _⟩ := I.list h2
    exact key its its2 r1 r2 fun e r he hr => SeqAt.RcLt.lists p1.isList p2.isList hu he hr
section
variable {W : Wd} {n : Nat} {ρ : Rho} {K : PySem.W.Frag} {P : Nat → D → Prop} {X : AP} {H : Hp}
theorem all_key : ∀ {ks : List (Bool × Int)} {vs : List L2.V}, IsAll X H vs (ks.map kyD) → vs = ks.map kV
  | [], _, .nil => rfl
  | (false, i) :: ks, _, .cons h t => by
    cases h
    rw [all_key t]; rfl
  | (true, i) :: ks, _, .cons h t => by
    cases h
    rw [all_key t]; rfl
theorem r_ltT {ks ms : List (Bool × Int)} (h : Alk ks ms) (p : P n (.bl (lexLt (ks.map (·.2)) (ms.map (·.2))))) : DR (rLtS K) W n ρ (.tup (ks.map kyD)) (.tup (ms.map kyD)) P := fun Z T σ H v1 v2 e i1 i2 Q k => by
  obtain ⟨a, xs, rfl, ha, h1, _⟩ := isw_tup i1
  obtain ⟨b, ys, rfl, hb, h2, _⟩ := isw_tup i2
  rw [all_key h1] at ha
  rw [all_key h2] at hb
  exact .inr ⟨a, b, ks, ms, rfl, rfl, .inl ⟨.inl (.of ha), .inl (.of hb)⟩, h, k _ _ _ H p e (.bl _)⟩
theorem r_ltL {ks ms : List (Bool × Int)} (h : Alk ks ms) (p : P n (.bl (lexLt (ks.map (·.2)) (ms.map (·.2))))) : DR (rLtS K) W n ρ (.lst (ks.map kyD)) (.lst (ms.map kyD)) P := fun Z T σ H v1 v2 e i1 i2 Q k => by
  obtain ⟨a, xs, rfl, ha, h1⟩ := isw_lst i1
  obtain ⟨b, ys, rfl, hb, h2⟩ := isw_lst i2
  rw [all_key h1] at ha
  rw [all_key h2] at hb
  exact .inr ⟨a, b, ks, ms, rfl, rfl, .inr ⟨.inl (.of ha), .inl (.of hb)⟩, h, k _ _ _ H p e (.bl _)⟩
end
/-! ### // by any number that is not 0 -/
def CDivG (_ j : Int) : Prop := j ≠ 0 ∧ j.natAbs < 2 ^ 1000
def rFdivG : R2 := rI CDivG fun i j => .int (i.fdiv j)
theorem op_fdivG {X : Cx} : OpR X (binaryOp .FloorDiv) rFdivG := opI fun _ _ _ _ _ _ _ hc q => floordiv_int hc.1 q (.inl (PyProof.noPylong_of_log2 (Nat.lt_trans (PySem.Flt.log2_lt_of (by decide) hc.2) (by decide))))
section
variable {W : Wd} {n : Nat} {ρ : Rho} {P : Nat → D → Prop}
theorem r_fdivG {i j : Int} (c : CDivG i j) (p : P n (.int (i.fdiv j))) : DR rFdivG W n ρ (.int i) (.int j) P := dr_Ii (C := CDivG) (g := fun i j => i.fdiv j) c p
end
end HD

/-! errors whose own __init__ says super().__init__(text) and keeps one field -/
namespace HD
open PySem PySem.Spec PyProof.Rows L2
/-- the body of such an __init__ -/
abbrev supS1 (msg : Str) (j : Nat) (p0 p1 p2 p3 p4 p5 : Pos) : Stmt := .Expr (.Call (.Attribute (.Call (.Name "super" p0) [] [] p1) "__init__" p2) [.Constant (.str msg) j p3] [] p4) p5
abbrev supS2 (se f x : Str) (q0 q1 q2 q3 : Pos) : Stmt := .Assign [.Attribute (.Name se q0) f q1] (.Name x q2) q3
/-- the class, its __init__, the cell of __class__ -/
structure SupC (P : Program) (K : PySem.W.Frag) (C fI cc cda : Addr) (name qual : Str) (params : Arguments) (body : List Stmt) (scope : Scope) (fd : FuncData) : Prop where
  T : OexC K C
  lk : ∃ (oc : Value) (od : Option Addr) (dV kV doc pm : Value) (an : Option Addr) (ct : Value) (osl : Array (Option Value)), fd = PySem.W.fnX name qual params body scope [("__class__", cc)] dV kV doc pm an (.ref cda) ct ∧ K.lookup fI = some ⟨oc, od, .func fd, osl⟩
  cd : PySem.W.codeIn K (.ref cda) qual = true
  code : ∃ (ccl : Value) (cdd : Option Addr) (vs : Array Value) (ccs : Array (Option Value)) (file : Str) (tf : Tok), K.lookup cda = some ⟨ccl, cdd, .fields vs, ccs⟩ ∧ vs[2]? = some (.str file tf) ∧ ((P.main.file : Str) == file) = true
  cell : ∃ (cl : Value) (cld : Option Addr) (csl : Array (Option Value)), K.lookup cc = some ⟨cl, cld, .cell (some (.ref C)), csl⟩
  sup : PySem.W.ks_superIn K C C "__init__" = some (some (.builtin "ValueError.__init__"))
  sub : PySem.W.mroIn K C (.ref C) = some true
  subB : PySem.W.subIn K (.ref C) (.type "ValueError") = some true
  ini : PySem.W.excInitIn K C PySem.HandSPX.veTail "ValueError.__new__" = true
  op : PySem.W.nsIn K cStatics "thirdparty.any" = some none
/-- what such an __init__ does -/
def spSup (C : Addr) (f : Str) : Sp := fun vs H Q _ => ∃ (a : Addr) (v : L2.V), vs = [.ref a, v] ∧ H a = some (exo a C none) ∧ ∀ dx, H dx = none → dx ≠ a → Q .non (upd (upd H dx (exd dx [(f, v)])) a (exo a C (some dx)))
section
variable {P : Program} {w : World} {K : PySem.W.Frag} {mg : Str → Option Value} {base : Heap}
open PySem.W in
theorem sup_fn {C fI cc cda : Addr} {name qual se f x msg : Str} {params : Arguments} {scope : Scope} {fd : FuncData} {j k : Nat} {p0 p1 p2 p3 p4 p5 q0 q1 q2 q3 : Pos}
    (S : SupC P K C fI cc cda name qual params [supS1 msg j p0 p1 p2 p3 p4 p5, supS2 se f x q0 q1 q2 q3] scope fd)
    (hno : findIn K (.ref C) f = some none) (hms : mg "super" = none)
    (hks : scope.names.lookup ("super" : Str) = some .globalImplicit) (hkc : scope.names.lookup ("__class__" : Str) = some .free) (hse : scope.names.lookup se = some .local) (hx : scope.names.lookup x = some .local)
    (hk : scope.kind = .function) (hco : scope.isCoroutine = false) (hgen : scope.isGenerator = false) (hcell : ∀ y ∈ scope.names, y.2 ≠ .cell)
    (hp : (params.posonlyargs ++ params.args).head?.map (·.arg) = some se) (htop : (P.main.scope.names.lookup ("super" : Str)).isSome = false) (hsx : se ≠ x)
    {pl : Sem Bool} (he1 : ∀ env : PySem.Env, eval (.Call (.Attribute (.Call (.Name "super" p0) [] [] p1) "__init__" p2) [.Constant (.str msg) j p3] [] p4) env = (do
      let ov ← attributeBase (.Call (.Name "super" p0) [] [] p1) "__init__" env (eval (.Call (.Name "super" p0) [] [] p1) env)
      standAt p2.atName
      let (f, first) ← holding [ov] (getMethod ov "__init__" pl)
      callWith p4 f first (backTo p4 (starEach [.Constant (.str msg) j p3] env)) []))
    (hs1 : ∀ env : PySem.Env, swapsWith (.Call (.Attribute (.Call (.Name "super" p0) [] [] p1) "__init__" p2) [.Constant (.str msg) j p3] [] p4) none p5.line env = pure false)
    (hs2 : ∀ env : PySem.Env, swapsWith (.Name x q2) (some (.Attribute (.Name se q0) f q1)) q3.line env = pure false)
    (hds : (se == ("__debug__" : Str)) = false) (hdx : (x == ("__debug__" : Str)) = false) :
    FnOk P w K mg base (L2.CX P w) (k + 1) fI fd [se, x] (spSup C f) := by
  refine ⟨fun vs H Q E ⟨a, v, e, _⟩ => by rw [e]; rfl, fun A outer s H args us vs Q E hr e0 hb r hsp => ?_⟩
  obtain ⟨a, v, rfl, ea, hq⟩ := hsp
  obtain ⟨oc, od, dV, kV, doc, pm, an, ct, osl, rfl, lk⟩ := S.lk
  obtain ⟨ccl, cdd, cvs, ccs, file, tf, hcode, hvs, hfile⟩ := S.code
  obtain ⟨cl, cld, csl, hcl⟩ := S.cell
  obtain ⟨nm, q, N, bs, bm, sn, sub, ab, col, dd, k0, k1, k2, k3, k5, hC, hbm⟩ := S.T.cls
  have keepB : ∀ b o, base.get? b = some o → s.heap.get? b = some o := fun b o e => (e0.bs b o e).1
  have KX : K.In s.heap := e0.mod.kin.keeps keepB
  have lim : s.heap.NoLimit := e0.mod.nolimit.keeps keepB
  -- the arguments
  cases r with
  | @cons _ ua _ ur ra rr =>
  cases rr with
  | @cons _ uv _ ur2 rv rr2 =>
  cases rr2
  obtain rfl : ua = Value.ref a := ra
  have hloc : ∀ y ∈ [se, x].zip [Value.ref a, uv], scope.names.lookup y.1 = some .local := fun y hy => by
    rcases List.mem_cons.mp (show y ∈ (se, Value.ref a) :: [(x, uv)] from hy) with rfl | hy
    · exact hse
    · rw [List.mem_singleton.mp hy]; exact hx
  refine ks_codeAny_call_defAt hr.depth (KX _ _ lk) rfl lim (codeRec_of KX S.cd) rfl hb hcell hloc (fun h1 hns hk1 => ?_) hco hgen hk
  have K1 : K.In h1 := KX.keeps hk1
  have mg1 : h1.Ns mainGlobals mg := (e0.mod.glob.keeps keepB).keeps hk1
  obtain ⟨mb, hb1, hb2⟩ := e0.mod.blt
  have mb1 : h1.Ns builtinsNs mb := (hb1.keeps keepB).keeps hk1
  obtain ⟨t1, ho⟩ := exo_at e0.hok ea
  have ho1 := hk1 _ _ ho
  obtain ⟨ar, har, hars⟩ : ∃ ar, (params.posonlyargs ++ params.args).head? = some ar ∧ ar.arg = se := by
    cases z : (params.posonlyargs ++ params.args).head? with
    | none => rw [z] at hp; cases hp
    | some ar => rw [z] at hp; exact ⟨ar, rfl, Option.some.inj hp⟩
  have hv1 : (fun y => ([se, x].zip [Value.ref a, uv]).reverse.lookup y) se = some (Value.ref a) := by
    show List.lookup se [(x, uv), (se, Value.ref a)] = _
    rw [List.lookup_cons, show (se == x) = false by simp [hsx]]
    simp
  have hv2 : (fun y => ([se, x].zip [Value.ref a, uv]).reverse.lookup y) x = some uv := by
    show List.lookup x [(x, uv), (se, Value.ref a)] = _
    simp
  have hC1 := K1 _ _ hC
  obtain ⟨hp0, g, d0, t0, os⟩ := s
  dsimp only at *
  refine ks_wpAt_execs_cons ?_
  refine ks_wpAt_Expr_any (ks_wpAt_MethodCall ?_ (he1 _)) (by unfold interactive; simp [callEnv, newEnv, hk]) (hs1 _)
  refine ks_wpAt_super_base (show _ = _ from hks) (show _ = _ from hkc) (by decide) rfl (K1 _ _ lk) rfl har rfl (K1 _ _ hcode) rfl hvs hfile htop ?_
  refine ks_loadName_global hk hks (Calls.loadGlobal_builtin mg1 hms mb1 ((hb2 _ (by decide)).trans (by decide +kernel)) ⟨rfl, ?_⟩)
  refine wpAny_loadName_free hk hkc rfl ⟨_, K1 _ _ hcl, rfl⟩ ?_
  refine wpAny_loadName_local hk (by rw [hars]; exact hse) hns (by rw [hars]; exact hv1) ?_
  refine ks_wpAny_isType_cls hC1 rfl ⟨rfl, ?_⟩
  refine ks_wpAny_call_super hC1 rfl ho1 rfl (fun c e => by cases e) (looks_mroIn K1 S.sub) (fun h2 hso hk2 => ?_)
  have K2 : K.In h2 := K1.keeps hk2
  have ho2 := hk2 _ _ ho1
  have hcl2 : clsIn K C = some { name := nm, bases := bs, mro := .ref C :: bm, ns := N, qualname := q, hasDict := true, slotNames := sn, subclasses := sub, abstract := ab, collection := col, hasDel := false } := by unfold clsIn; rw [hC] <;> rfl
  have I2 : PySem.W.InstAt h2 a _ C none := ⟨ho2, rfl, rfl, trivial⟩
  have hsup : alongIn K "__init__" (((Value.ref C :: bm).dropWhile (· != .ref C)).drop 1) = some (some (.builtin "ValueError.__init__")) := by
    have := S.sup
    unfold ks_superIn at this
    rw [hcl2] at this
    exact this
  refine kxs_getMethod kxs_ValueError hso (looks_opaque K2 S.op) (l₀ := .ref C :: bm) ?_ rfl K2 hsup (I2.type.andThen (looks_subIn K2 S.subB)) (PySem.W.ks_ne K2 I2 hcl2) (by decide) ?_
  · exact fun A Q E s k q => wpAny_bind ((looks_clsIn K2 hcl2) A _ E s k (wpAny_pure q))
  show wpAny _ _ (callWith p4 (.ref _) [] [(false, eval (.Constant (.str msg) j p3) _)] []) _ _ _
  refine kxs_callWith (i := "ValueError.__init__") (x := a) rfl (Calls.evalArgs_plain (Calls.spliced_cons (Calls.Constant_str (Calls.spliced_nil ⟨?_, ?_⟩))))
  · exact Heap.get?_push_size _ rfl
  have hk3 : ∀ b o, h2.get? b = some o → (h2.push (kxs_mw "ValueError.__init__" a)).get? b = some o := fun b o e => Heap.get?_push_of_some _ e
  -- base: what stood ahead of the call, without the error
  have lta : a < hp0.objs.size := Heap.lt_size ho
  have K0 : K.In (hideAll hp0 [a]) := fun b o e => hideAll_get [a] (KX b o e) fun hm => by
    have z : b = a := by simpa using hm
    have := (e0.bs b o (e0.mod.kin b o e)).2
    rw [z, ea] at this
    cases this
  have F3 : PyProof.Rows.Fr (hideAll hp0 [a]) hp0.objs.size (h2.push (kxs_mw "ValueError.__init__" a)) (fun y => ([se, x].zip [Value.ref a, uv]).reverse.lookup y) := by
    refine ⟨?_, fun b o e => hk3 _ _ (hk2 _ _ (hk1 _ _ (of_hideAll [a] e))), by rw [hideAll_size]; exact Nat.le_refl _⟩
    obtain ⟨oL, es, ep, hL, r⟩ := hns
    exact ⟨oL, es, ep, hk3 _ _ (hk2 _ _ hL), r⟩
  have Lh2 : hp0.objs.size < h2.objs.size := by
    obtain ⟨oL, _, _, hL, _⟩ := hns
    exact Heap.lt_size (hk2 _ _ hL)
  have ua : h2.objs.size ≠ a := Nat.ne_of_gt (Nat.lt_trans lta Lh2)
  have uno : (hideAll hp0 [a]).get? h2.objs.size = none := by
    cases z : (hideAll hp0 [a]).get? h2.objs.size with
    | none => rfl
    | some o => exact absurd (Heap.lt_size (of_hideAll [a] z)) (Nat.not_lt.mpr (Nat.le_of_lt Lh2))
  have N3 : News (hideAll hp0 [a]) hp0.objs.size (h2.push (kxs_mw "ValueError.__init__" a)) [(h2.objs.size, kxs_mw "ValueError.__init__" a), (a, excObj C t1 none .none)] := fun p hp => by
    rcases List.mem_cons.mp hp with rfl | hp
    · exact ⟨Heap.get?_push_size _ rfl, Nat.ne_of_gt Lh2, uno⟩
    · rw [List.mem_singleton.mp hp]
      exact ⟨hk3 _ _ ho2, Nat.ne_of_lt lta, hideAll_none [a] List.mem_cons_self⟩
  refine kxs_call F3 K0 N3 F.excBase_ValueError S.ini List.mem_cons_self (.tail ua (.head fun _ h => (nomatch h))) (show 1 ≤ sizeLine by decide) (fun t4 h4 F4 N4 _ => ?_)
  have ho4 : h4.get? a = some (excObj C t4 none .none) := (N4 _ (.tail _ (.tail _ List.mem_cons_self))).1
  have all4 : ∀ b o, b ≠ a → hp0.get? b = some o → h4.get? b = some o := fun b o hb e => F4.keep b o (hideAll_get [a] e fun hm => hb (by simpa using hm))
  have K4 : K.In h4 := K0.keeps F4.keep
  have hns4 := F4.ns
  show PySem.wpAt _ _ _ (execs [supS2 se f x q0 q1 q2 q3] _) _ _ _
  refine ks_wpAt_execs_cons (ks_wpAt_Assign_Attr ?_ (hs2 _))
  refine wpAt_of_wpAny (wpAny_Name (wpAny_loadName_local hk hx hns4 hv2 ?_) hdx)
  refine wpAny_Name (wpAny_loadName_local hk hse hns4 hv1 ?_) hds
  refine PySem.W.set_plain K4 (ox := excObj C t4 none .none) (od := none) ⟨ho4, rfl, rfl, trivial⟩ S.T.sa ?_
  refine PySem.HandSPX.exc_osa K4 ho4 hcl2 (show PySem.HandSPX.refsVE (.ref C :: bm) = true from hbm) rfl hno (fun h5 tk5 dx hk5 dn dne hx5 hn5 => ?_)
  have L4 : hp0.objs.size < h4.objs.size := by
    obtain ⟨oL, es, ep, hL, _⟩ := hns4
    exact Heap.lt_size hL
  have hnd : H dx = none := e0.hok.fresh (Nat.le_trans (Nat.le_of_lt L4) dn)
  have all5 : ∀ b o, b ≠ a → hp0.get? b = some o → h5.get? b = some o := fun b o hb e => hk5 b o hb (all4 b o hb e)
  have nd : ∀ {b : Addr} {o : Obj}, hp0.get? b = some o → b ≠ dx := fun {b o} q => Nat.ne_of_lt (Nat.lt_of_lt_of_le (Heap.lt_size q) (Nat.le_trans (Nat.le_of_lt L4) dn))
  -- tracked: the error written first, then its dict
  have dxn : hp0.get? dx = none := by
    cases z : hp0.get? dx with
    | none => rfl
    | some o => exact absurd rfl (nd z)
  have mu : Mut (H a) := by rw [ea]; exact True.intro
  have mu2 : Mut (upd H dx (exd dx [(f, v)]) a) := by rw [upd_ne (Ne.symm dne)]; exact mu
  have Un1 : Un (frs outer) [] H (upd (upd H dx (exd dx [(f, v)])) a (exo a C (some dx))) hp0 h5 :=
    (Un.laidN (fun _ _ q => q) dxn hnd).trans (Un.write mu2 (.inl rfl) all5 ⟨_, hx5⟩)
  have okA : HOk P w (upd H a (exo a C (some dx))) h5 := e0.hok.write mu (.inl rfl) all5 ⟨_, hx5⟩ (exo_ok hx5)
  have swap : upd (upd H dx (exd dx [(f, v)])) a (exo a C (some dx)) = upd (upd H a (exo a C (some dx))) dx (exd dx [(f, v)]) := by
    funext b
    by_cases h1 : b = a
    · rw [h1, upd_same, upd_ne (Ne.symm dne), upd_same]
    · by_cases h2 : b = dx
      · rw [h2, upd_ne dne, upd_same, upd_same]
      · rw [upd_ne h1, upd_ne h2, upd_ne h2, upd_ne h1]
  have noA : upd H a (exo a C (some dx)) dx = none := by rw [upd_ne dne]; exact hnd
  have hok5 : HOk P w (upd (upd H dx (exd dx [(f, v)])) a (exo a C (some dx))) h5 := by
    rw [swap]
    intro b u hb
    by_cases hd : b = dx
    · rw [hd, upd_same] at hb
      rw [← Option.some.inj hb, hd]
      exact exd_ok hn5 (relO_put (fs := []) rv fun _ => True.intro)
    · rw [upd_ne hd] at hb
      have other : ∀ {c : Addr} {z : HO}, upd H a (exo a C (some dx)) c = some z → upd (upd H a (exo a C (some dx))) dx (exd dx [(f, v)]) c = some z := fun hc => by
        rw [upd_ne (ne_of_none hc noA)]; exact hc
      exact (okA b u hb).stay (fun _ _ _ h => h) (fun _ h => other h) fun _ _ h => other h
  show PySem.wpAt _ _ _ (execs [] _) _ _ _
  rw [execs_nil]
  refine wpAt_of_wpAny (wpAny_pure ?_)
  exact ⟨.non, _, rfl, e0.bare, Un1, hok5, rfl, hq dx hnd dne⟩
end
/-! ### raised -/
/-- C(e), C's own __init__ as above -/
theorem pmk_sup {X : Cx} {x f : Str} {C fI : Addr} {k : Nat} {fd : FuncData} {ps : List Str} {e : Expr} {te : TE} {p pos : Pos} (T : OexC X.K C) (iC : PySem.W.findIn X.K (.ref C) "__init__" = some (some (.ref fI))) (tI : PySem.W.typeIn X.K (.ref fI) = some (.type "function"))
    (F1 : FnOk X.prog X.w X.K X.mg X.base (L2.CX X.prog X.w) k fI fd ps (spSup C f)) (hr : Room (k + 1) X.A) (hb : Binds X.K fd ps []) (hx : Passes (L2.CX X.prog X.w) X (fun _ _ _ => False)) (hg : Gl X x) (hm : X.mg x = some (.ref C)) (he : PE X e te)
    (hdb : (x == ("__debug__" : Str)) = false := by decide) (hs : starEach [e] X.env = [(false, eval e X.env)] := by rfl) :
    PMk X (.Call (.Name x p) [e] [] pos) (tMkO C (spSup C f) [] (tCons te tNil)) :=
  pmk_oex T iC tI F1 hr hb .nil hx hg hm (pa_cons he pa_nil hs) hdb hs rfl
def tRaiseF (C : Addr) (f : Str) (te : TE) (E : XK) : TS := fun _ σ H => tMkO C (spSup C f) [] (tCons te tNil) σ H fun cls d H' => E cls d H'
section
variable {W : Wd} {n : Nat} {ρ : Rho} {N : Nat → Rho → Prop} {R : Nat → Bool → D → Prop} {B Cc : Nat → Rho → Prop} {E : XK} {te : TE} {C : Addr} {f : Str}
theorem ds_raiseF (hE : W.E = E) (h : DE te W n ρ fun n d => W.EP n C [f] [d]) : DS (tRaiseF C f te E) W n ρ N R B Cc := fun Z T σ H e De fn => by
  show te σ H (fun x H1 => tNil σ H1 fun xs H2 => (x :: xs).length ≤ 1000 ∧ ∀ a, H2 a = none → spSup C f (.ref a :: ((x :: xs) ++ [])) (upd H2 a (exo a C none)) (fun v H3 => v = .non ∧ ∃ (d : Addr) (fs : List (Str × L2.V)), H3 a = some (exo a C (some d)) ∧ H3 d = some (exd d fs) ∧ H2 d = none ∧ E (.ref C) (some d) (upd (del H3 a) d (.xd fs))) fun _ _ _ => False)
  refine h Z T σ H e _ fun n1 v d H1 p e1 i => ?_
  show [v].length ≤ 1000 ∧ _
  refine ⟨by show 1 ≤ 1000; decide, fun a ha => ⟨a, v, rfl, upd_same, fun dx hdx hne => ?_⟩⟩
  have hd1 : H1 dx = none := by rw [upd_ne hne] at hdx; exact hdx
  refine ⟨rfl, dx, [(f, v)], upd_same, by rw [upd_ne hne, upd_same], hd1, ?_⟩
  have eH : upd (del (upd (upd (upd H1 a (exo a C none)) dx (exd dx [(f, v)])) a (exo a C (some dx))) a) dx (.xd [(f, v)]) = upd H1 dx (.xd [(f, v)]) := by
    funext b
    by_cases hb : b = dx
    · rw [hb, upd_same, upd_same]
    · rw [upd_ne hb, upd_ne hb]
      by_cases hba : b = a
      · rw [hba, del_same, ha]
      · rw [del_ne hba, upd_ne hba, upd_ne hb, upd_ne hba]
  rw [eH, ← hE]
  have e2 := e1.new (o := .xd [(f, v)]) hd1
  refine W.hE n1 C [f] [d] (some dx) _ p e2.fr e2.g (.inr ⟨dx, [(f, v)], by simp, rfl, fun x => ?_, upd_same, rfl, ?_⟩)
  · exact e1.xdom (.inl x) hd1
  · refine .cons (Is.mv (X := XX W Z ρ σ) (fun b o hb hx => ⟨?_, fun x => hx (.inl x)⟩) d i) .nil
    rw [upd_ne (fun z => by rw [z, hd1] at hb; cases hb)]
    exact hb
end
/-! ### caught, with what it keeps -/
def WlamF {W : Wd} {n : Nat} {Z : ZL} {T : TL} {ρ : Rho} {σ : L2.St} {H : Hp} (e : Env W n Z T ρ σ H) (Q : Nat → D → Prop) (K : PySem.W.Frag) (CS : Addr) (k : VK) (hk : RetK W Z T ρ σ Q k) : Wd where
  V := W.V
  X0 := XX W Z ρ σ
  G := W.G
  H0 := H
  E := fun cls d H' => ∃ C : Addr, cls = .ref C ∧ PySem.W.exmOne K cls (.ref CS) = some true ∧ ∀ a, H' a = none → k (.ref a) (upd H' a (excH a C d))
  EP := fun n C ns l => PySem.W.exmOne K (.ref C) (.ref CS) = some true ∧ Q n (.exc C ns l)
  vx := fun a h => .inl (W.vx a h)
  xd := fun a h => e.xdom h
  vd := W.vd
  stab := W.stab
  hE := fun n' C ns l od H' ⟨ex, q⟩ fr g x => by
    refine ⟨C, rfl, ex, fun a ha => ?_⟩
    have e2 := e.heap fr g
    rcases x with ⟨rfl, rfl, rfl⟩ | ⟨dd, fs, hne, rfl, hx, hd, hk2, hall⟩
    · exact hk n' _ _ _ q (e2.new ha) (.exc0 (fun x => e2.xdom x ha) upd_same)
    · have hda : dd ≠ a := fun z => by rw [z, ha] at hd; cases hd
      refine hk n' _ _ _ q (e2.new ha) (.exc (dd := dd) (fs := fs) hne (fun x => e2.xdom x ha) upd_same hx (by rw [upd_ne hda]; exact hd) hk2 ?_)
      refine IsAll.mv (fun b o hb hx => ⟨?_, hx⟩) l hall
      rw [upd_ne (fun z => by rw [z, ha] at hb; cases hb)]
      exact hb
theorem de_caughtF {K : PySem.W.Frag} {Tt : List (Addr × Str)} {W : Wd} {n : Nat} {ρ : Rho} {Q : Nat → D → Prop} {P CS : Addr} {q : Str} {te : XK → TE} (L : LP K Tt) (hV : W.V = L.V) (hG : W.G = L.G) (mem : (P, q) ∈ Tt)
    (h : ∀ (W' : Wd) (E' : XK), W'.V = L.V → W'.G = L.G → W'.E = E' → W'.EP = (fun n C ns l => PySem.W.exmOne K (.ref C) (.ref CS) = some true ∧ Q n (.exc C ns l)) → DE (te E') W' n (shR ρ) fun n' _ => Q n' .non) :
    DE (tLam1 Tt P (TCaught K CS) te) W n ρ Q := fun Z T σ H e Qk k => by
  have g0 : L.G n H := by rw [← hG]; exact e.g
  refine ⟨g0.2.2.1, fun H1 ext T1 => ?_⟩
  have vP : W.V P := by rw [hV]; exact .inr (.inr (.inr (.inr ⟨_, mem, rfl⟩)))
  have e1 : Env W n Z T ρ σ H1 := e.heap (fun b o hb hv => ext b o (fun z => hv (by rw [z]; exact vP)) hb) (by rw [hG]; exact L.grown mem g0 ext T1)
  have m : ∀ b, XX (WlamF e1 Q K CS Qk k) [] (shR ρ) σ b → XX W Z ρ σ b := fun b x => by
    rcases x with x | ⟨i, d, x, _⟩ | ⟨o, x⟩
    · exact x
    · have := (shR_get x).1
      cases this
    · cases x
  have mv : Mv (XX W Z ρ σ) H1 (XX (WlamF e1 Q K CS Qk k) [] (shR ρ) σ) H1 := fun b o hb hx => ⟨hb, fun x => hx (m b x)⟩
  have e2 : Env (WlamF e1 Q K CS Qk k) n [] [] (shR ρ) σ H1 := by
    refine ⟨by unfold shR; rw [List.length_map]; exact e.len, fun i d x => ?_, fun i d x => ?_, fun i j d d' a x => ?_, fun p hp => (nomatch hp), List.nodup_nil, fun p hp => (nomatch hp), fun a o ha _ => ha, e1.g⟩
    · obtain ⟨v, h1, h2⟩ := e1.sh i d (shR_get x).2
      exact ⟨v, h1, h2.mv mv⟩
    · have := (shR_get x).1
      cases this
    · have := (shR_get x).1
      cases this
  exact h (WlamF e1 Q K CS Qk k) _ hV hG rfl rfl [] [] σ H1 e2 _ fun n' v d H' p e3 _ => k n' .non .non H' p (e1.heap e3.fr e3.g) .non
/-! ### isinstance of a kept error that has fields; its fields -/
def rIsXF (K : PySem.W.Frag) : List L2.V → Hp → VK → Prop := fun xs H Q => ∃ (a Dc dd : Addr) (fs : List (Str × L2.V)) (c : L2.V) (cv : Value) (b : Bool), xs = [.ref a, c] ∧ H a = some (excH a Dc (some dd)) ∧ H dd = some (.xd fs) ∧ ExcC K Dc ∧ (∀ u, RelV c u → u = cv) ∧ PySem.W.kitOne K (.ref Dc) cv = some b ∧ Q (.bl b) H
/-! ### a kept error with fields: is it of its own class; what does a field say -/
section
variable {X : Cx}
/-- the error in the slot's heap, with the dict that stands behind it -/
theorem xf_at {pins : List (Addr × Obj)} {σ : L2.St} {H : Hp} {s : Shared} {a C dd : Addr} {fs : List (Str × L2.V)} (I : Inv X pins σ H s) (ha : H a = some (excH a C (some dd))) (hd : H dd = some (.xd fs)) :
    ∃ (oe od : Obj) (mA : Str → Option Value), PySem.W.InstAt s.heap a oe C (some od) ∧ (∀ n, PySem.W.lookIn n od = some (mA n)) ∧ ∀ n, RelO (fs.lookup n) (mA n) := by
  obtain ⟨⟨oe, vs, hget, hz, hv⟩, _, _⟩ := I.hok a _ ha
  obtain ⟨mA, hns, hr⟩ := (I.hok dd _ hd : ObjOk X.prog X.w H s.heap dd (.xd fs))
  obtain ⟨od, ho, hl⟩ := lookIn_ns hns
  exact ⟨oe, od, mA, ⟨hget, hz.1, by unfold PySem.W.notCls; rw [hv], by rw [hz.2]; exact ho⟩, hl, hr⟩
def tXfG (C : Addr) (f : Str) (te : TE) : TE := fun σ H Q => te σ H fun x H1 => ∃ (a dd : Addr) (fs : List (Str × L2.V)) (v : L2.V), x = .ref a ∧ H1 a = some (excH a C (some dd)) ∧ H1 dd = some (.xd fs) ∧ fs.lookup f = some v ∧ Q v H1
theorem pe_xfG {C : Addr} {e : Expr} {te : TE} {pos : Pos} {f : Str} (T : XfC X.K C) (hno : PySem.W.findIn X.K (.ref C) f = some none) (he : PE X e te) (hb : attributeBase e f X.env (eval e X.env) = eval e X.env := by rfl) :
    PE X (.Attribute e f pos) (tXfG C f te) := by
  refine ⟨fun pins s σ H Q I h => attr_of hb (thn (he.run pins s σ H _ I h) fun u s1 hh => ?_)⟩
  obtain ⟨x, H1, I1, rx, a, dd, fs, v, rfl, ha, hd, hl, q⟩ := hh
  obtain rfl : u = Value.ref a := rx
  obtain ⟨oe, od, mA, J, lk, rel⟩ := xf_at I1 ha hd
  obtain ⟨y, hy, ry⟩ := RelO.some_of (v := v) (o := mA f) (by rw [← hl]; exact rel f)
  exact HandSPX.exc_get I1.kIn J T.ga T.gg T.exC (PySem.W.findObj_own T.hdC hno rfl (by rw [lk, hy])) (handed_of ry) ⟨v, H1, I1.tok _, ry, q⟩
theorem de_xfG {W : Wd} {n : Nat} {ρ : Rho} {P : Nat → D → Prop} {C : Addr} {f : Str} {te : TE} (h : DE te W n ρ fun n d => ∃ y, d = .exc C [f] [y] ∧ P n y) : DE (tXfG C f te) W n ρ P := fun Z T σ H e Q k =>
  h Z T σ H e _ fun n v d H1 ⟨y, hd, p⟩ e1 i => by
    subst hd
    cases i with
    | @exc a _ dd fs _ _ hne hx ha hxd hd hk hall =>
      match fs, hk, hall with
      | [(g, z)], hk, .cons hz _ =>
        obtain rfl : g = f := by simpa using hk
        exact ⟨a, dd, _, z, rfl, ha, hd, by simp, k n z y H1 p e1 hz⟩
end
/-- isinstance(e, C), C the very class of e: True by its type alone -/
def rIsSame (C : Addr) : List L2.V → Hp → VK → Prop := fun xs H Q => ∃ (a dd : Addr) (fs : List (Str × L2.V)), xs = [.ref a, .ref C] ∧ H a = some (excH a C (some dd)) ∧ H dd = some (.xd fs) ∧ Q (.bl true) H
theorem call_isSame {X : Cx} {C : Addr} : CallR X (.builtin "isinstance") (rIsSame C) := by
  intro pins s σ H xs us Q I r h
  obtain ⟨a, dd, fs, rfl, ha, hd, q⟩ := h
  obtain ⟨u1, u2, rfl, rx, rt⟩ := vals2 r
  obtain rfl : u1 = Value.ref a := rx
  obtain rfl : u2 = Value.ref C := rt
  obtain ⟨oe, od, mA, J, _, _⟩ := xf_at I ha hd
  have fin : EP X pins σ Q (Value.bool true) s := ⟨.bl true, H, I, rfl, q⟩
  -- the first question of isinstance answers: its type is C
  refine call_isinstance_of ?_ (fun z => nomatch z)
  have ty := J.type (M := model X.prog X.w)
  show wpAny _ _ (typeOf (.ref a) >>= _) _ _ s
  refine wpAny_bind (ty.at ?_)
  have same : (Value.ref C == Value.ref C) = true := beq_self_eq_true _
  simp only [same, if_true]
  repeat (first | exact fin | refine wpAny_rule ?_ | refine wpAny_pure ?_ | refine wpAny_bind ?_)
theorem dc_isSame {K : PySem.W.Frag} {W : Wd} {n : Nat} {ρ : Rho} {P : Nat → D → Prop} {C : Addr} {f : Str} {y : D} (p : P n (.bl true)) : DC (rIsSame C) W n ρ [.exc C [f] [y], .raw C] P := fun Z T σ H vs ev ia Q k => by
  obtain ⟨v1, v2, rfl, i1, i2⟩ := ws2 ia
  cases isw_raw i2
  rcases i1 with i1 | ⟨_, _, _, _, i1⟩
  · cases i1 with
    | @exc a _ dd fs _ _ hne hx ha hxd hd hk hall => exact ⟨a, dd, fs, rfl, ha, hd, k _ _ _ H p ev (.bl _)⟩
  · cases i1
end HD

/-! errors with an own __init__: from facts of K to the raise -/
namespace HD
open PySem PySem.Spec PyProof.Rows L2
structure SupOk (P : Program) (w : World) (K : PySem.W.Frag) (mg : Str → Option Value) (base : Heap) (k : Nat) (x : Str) (C : Addr) (f : Str) : Prop where
  ex : ∃ (fI : Addr) (fd : FuncData) (ps : List Str), PySem.W.findIn K (.ref C) "__init__" = some (some (.ref fI)) ∧ PySem.W.typeIn K (.ref fI) = some (.type "function") ∧ FnOk P w K mg base (L2.CX P w) k fI fd ps (spSup C f) ∧ Binds K fd ps []
  T : OexC K C
  hm : mg x = some (.ref C)
  no : PySem.W.findIn K (.ref C) f = some none
  xc : ExcC K C
section
variable {P : Program} {w : World} {K : PySem.W.Frag} {mg : Str → Option Value} {base h : Heap}
open PySem.W in
theorem oexC_of {C : Addr} (X : K.In h) (q : supC1 K C = true) (hd : hasDictIn K C = true) (sa : findIn K (.ref C) "__setattr__" = some (some (.builtin "object.__setattr__"))) (exC : subIn K (.ref C) (.type "BaseException") = some true) : OexC K C := by
  unfold supC1 at q
  simp only [Bool.and_eq_true] at q
  obtain ⟨q1, q2, q3, q4⟩ := q
  obtain ⟨nm, N, qn, bs, bm, hdct, sn, sub, ab, col, dd, k0, k1, k2, k3, k5, hC, _⟩ := excInit_of X q1
  refine ⟨?_, sa, exC, of_decide_eq_true q4, q3⟩
  have lk : ∃ o, K.lookup C = some o := by
    cases z : K.lookup C with
    | some o => exact ⟨o, rfl⟩
    | none =>
      unfold excInitIn at q1
      rw [z] at q1
      cases q1
  obtain ⟨o, lk⟩ := lk
  have e := X _ _ lk
  rw [hC] at e
  obtain rfl := Option.some.inj e
  have hc : clsIn K C = some { name := nm, bases := bs, mro := .ref C :: bm, ns := N, qualname := qn, hasDict := hdct, slotNames := sn, subclasses := sub, abstract := ab, collection := col, hasDel := false } := by unfold clsIn; rw [lk] <;> rfl
  have e1 : hdct = true := by
    unfold hasDictIn at hd
    rw [hc] at hd
    exact hd
  subst e1
  refine ⟨nm, qn, N, bs, bm, sn, sub, ab, col, dd, k0, k1, k2, k3, k5, lk, ?_⟩
  unfold supM at q2
  rw [hc] at q2
  exact q2
/-- the def and its cell -/
theorem supLk {C : Addr} {d : SupD} (e : (supFd K C).map (fun fd => (fd.name, fd.qualname, fd.params, fd.body, fd.scope, fd.globals, fd.closure.map (·.1), fd.builtins)) = d.val) (b : supF P.main.file K C d.qual = true) :
    ∃ (cc cda : Addr) (fd : FuncData), (∃ (oc : Value) (od : Option Addr) (dV kV doc pm : Value) (an : Option Addr) (ct : Value) (osl : Array (Option Value)), fd = PySem.W.fnX "__init__" d.qual d.params d.body d.scope [("__class__", cc)] dV kV doc pm an (.ref cda) ct ∧ dV = .none ∧ K.lookup (He.ma K C "__init__") = some ⟨oc, od, .func fd, osl⟩) ∧
      PySem.W.codeIn K (.ref cda) d.qual = true ∧ (∃ (ccl : Value) (cdd : Option Addr) (vs : Array Value) (ccs : Array (Option Value)) (file : Str) (tf : Tok), K.lookup cda = some ⟨ccl, cdd, .fields vs, ccs⟩ ∧ vs[2]? = some (.str file tf) ∧ ((P.main.file : Str) == file) = true) ∧
      ∃ (cl : Value) (cld : Option Addr) (csl : Array (Option Value)), K.lookup cc = some ⟨cl, cld, .cell (some (.ref C)), csl⟩ := by
  unfold supF at b
  cases z : supFd K C with
  | none => rw [z] at b; cases b
  | some fd =>
    rw [z] at b e
    simp only [Bool.and_eq_true] at b
    obtain ⟨b1, b2, b3⟩ := b
    have lk : ∃ (oc : Value) (od : Option Addr) (osl : Array (Option Value)), K.lookup (He.ma K C "__init__") = some ⟨oc, od, .func fd, osl⟩ := by
      unfold supFd at z
      cases y : K.lookup (He.ma K C "__init__") with
      | none => rw [y] at z; cases z
      | some o =>
        obtain ⟨oc, od, dt, osl⟩ := o
        rw [y] at z
        cases dt with
        | func fd2 => cases z; exact ⟨oc, od, osl, rfl⟩
        | _ => cases z
    obtain ⟨oc, od, osl, lk⟩ := lk
    obtain ⟨n1, n2, n3, n4, n5, n6, n7, n8, n9, n10, n11, n12, n13, n14, n15⟩ := fd
    simp only [SupD.val, Option.map_some, Option.some.injEq, Prod.mk.injEq] at e
    obtain ⟨rfl, rfl, rfl, rfl, rfl, rfl, e7, rfl⟩ := e
    dsimp only at *
    have cl : ∃ cc : Addr, n7 = [(("__class__" : Str), cc)] := by
      rcases n7 with _ | ⟨⟨y, cc⟩, _ | ⟨p, r⟩⟩
      · cases e7
      · have : y = "__class__" := by simpa using e7
        rw [this]; exact ⟨cc, rfl⟩
      · simp at e7
    obtain ⟨cc, rfl⟩ := cl
    have cd : ∃ cda, n13 = .ref cda := by
      cases n13 with
      | ref a => exact ⟨a, rfl⟩
      | _ => cases b1
    obtain ⟨cda, rfl⟩ := cd
    unfold supCode at b1
    simp only [Bool.and_eq_true] at b1
    obtain ⟨b4, b5⟩ := b1
    refine ⟨cc, cda, _, ⟨oc, od, n8, n9, n10, n11, n12, n14, osl, rfl, of_decide_eq_true b3, lk⟩, b4, ?_, ?_⟩
    · cases y : K.lookup cda with
      | none => rw [y] at b5; cases b5
      | some o =>
        obtain ⟨ccl, cdd, dt, ccs⟩ := o
        rw [y] at b5
        cases dt with
        | fields vs =>
          have b6 : (match (vs[2]? : Option Value) with
            | some (.str f _) => P.main.file == f
            | _ => false) = true := b5
          cases v : vs[2]? with
          | none => rw [v] at b6; cases b6
          | some u =>
            rw [v] at b6
            cases u with
            | str f t => exact ⟨ccl, cdd, vs, ccs, f, t, rfl, v, b6⟩
            | _ => cases b6
        | _ => cases b5
    · unfold supCell at b2
      dsimp only at b2
      cases y : K.lookup cc with
      | none => rw [y] at b2; cases b2
      | some o =>
        obtain ⟨ccl, cdd, dt, ccs⟩ := o
        rw [y] at b2
        cases dt with
        | cell v =>
          cases v with
          | none => cases b2
          | some u =>
            have : u = .ref C := of_decide_eq_true b2
            rw [this]; exact ⟨ccl, cdd, ccs, rfl⟩
        | _ => cases b2
theorem supOk_of {x se f y msg : Str} {d : SupD} {j : Nat} {p0 p1 p2 p3 p4 p5 q0 q1 q2 q3 : Pos} (X : K.In h) (hm : mg d.x = some (.ref (He.ga K d.x))) (e : supV K d.x = d.val) (b : supB P.main.file K d.x d.qual f = true)
    (hbd : d.body = [supS1 msg j p0 p1 p2 p3 p4 p5, supS2 se f y q0 q1 q2 q3]) (hms : mg "super" = none) 
    (hks : d.scope.names.lookup ("super" : Str) = some .globalImplicit) (hkc : d.scope.names.lookup ("__class__" : Str) = some .free) (hse : d.scope.names.lookup se = some .local) (hx : d.scope.names.lookup y = some .local)
    (hk : d.scope.kind = .function) (hco : d.scope.isCoroutine = false) (hgen : d.scope.isGenerator = false) (hcell : ∀ y ∈ d.scope.names, y.2 ≠ .cell)
    (hp : (d.params.posonlyargs ++ d.params.args).head?.map (·.arg) = some se) (htop : (P.main.scope.names.lookup ("super" : Str)).isSome = false) (hsx : se ≠ y)
    (he1 : ∀ env : PySem.Env, eval (.Call (.Attribute (.Call (.Name "super" p0) [] [] p1) "__init__" p2) [.Constant (.str msg) j p3] [] p4) env = (do
      let ov ← attributeBase (.Call (.Name "super" p0) [] [] p1) "__init__" env (eval (.Call (.Name "super" p0) [] [] p1) env)
      standAt p2.atName
      let (f, first) ← holding [ov] (getMethod ov "__init__" (do return (← (pure (some false) : Sem (Option Bool))).getD true))
      callWith p4 f first (backTo p4 (starEach [.Constant (.str msg) j p3] env)) []))
    (hds : (se == ("__debug__" : Str)) = false) (hdx : (y == ("__debug__" : Str)) = false)
    (bnd : ∀ (cc : Addr) (kV doc pm : Value) (an : Option Addr) (cdv ct : Value) (us : List Value), us.length = [se, y].length → bindArgs (PySem.W.fnX "__init__" d.qual d.params d.body d.scope [("__class__", cc)] .none kV doc pm an cdv ct) ⟨us, []⟩ = pure ([se, y].zip us)) :
    SupOk P w K mg base 1 d.x (He.ga K d.x) f := by
  unfold supB at b
  simp only [Bool.and_eq_true] at b
  obtain ⟨b1, b2, b3, b4, b5⟩ := b
  unfold supC2 at b3
  unfold supC3 at b4
  simp only [Bool.and_eq_true] at b3 b4
  obtain ⟨c1, c2, c3, c4⟩ := b3
  obtain ⟨c5, c6, c7, c8⟩ := b4
  have xc := excC_of b5
  obtain ⟨cc, cda, fd, ⟨oc, od, dV, kV, doc, pm, an, ct, osl, hfd, rfl, lk⟩, cd, code, cell⟩ := supLk (P := P) e b1
  have T : OexC K (He.ga K d.x) := oexC_of X b2 xc.hd (He.eqO_ok c1) xc.hs
  have ini := b2
  unfold supC1 at ini
  simp only [Bool.and_eq_true] at ini
  have S : SupC P K (He.ga K d.x) (He.ma K (He.ga K d.x) "__init__") cc cda "__init__" d.qual d.params [supS1 msg j p0 p1 p2 p3 p4 p5, supS2 se f y q0 q1 q2 q3] d.scope fd :=
    ⟨T, ⟨oc, od, .none, kV, doc, pm, an, ct, osl, by rw [hfd, hbd], lk⟩, cd, code, cell, He.eqO_ok c5, of_decide_eq_true c6, of_decide_eq_true c7, ini.1, He.eqO_ok c8⟩
  refine ⟨⟨_, fd, [se, y], He.eqO_ok c2, of_decide_eq_true c3, sup_fn S (He.eqO_ok c4) hms hks hkc hse hx hk hco hgen hcell hp htop hsx he1 (fun _ => rfl) (fun _ => rfl) hds hdx, ?_⟩, T, hm, He.eqO_ok c4, xc⟩
  rw [hfd]
  exact .all (bnd cc kV doc pm an _ ct)
end
/-! ### in a def -/
section
variable {X : Cx} {x f : Str} {C : Addr} {k : Nat} {e : Expr} {te : TE} {p pos q : Pos} {E : XK}
theorem pmk_supOk (S : SupOk X.prog X.w X.K X.mg X.base k x C f) (hr : Room (k + 1) X.A) (hx : Passes (L2.CX X.prog X.w) X (fun _ _ _ => False)) (hg : Gl X x) (he : PE X e te)
    (hdb : (x == ("__debug__" : Str)) = false := by decide) (hs : starEach [e] X.env = [(false, eval e X.env)] := by rfl) : PMk X (.Call (.Name x p) [e] [] pos) (tMkO C (spSup C f) [] (tCons te tNil)) := by
  obtain ⟨fI, fd, ps, i1, i2, F, hb⟩ := S.ex
  exact pmk_sup S.T i1 i2 F hr hb hx hg S.hm he hdb hs
theorem ps_raiseSup (S : SupOk X.prog X.w X.K X.mg X.base k x C f) (hr : Room (k + 1) X.A) (hx : Passes (L2.CX X.prog X.w) X (fun _ _ _ => False)) (hg : Gl X x) (hc : X.calm = true) (tk : Takes X (fun cls d _ H => E cls d H)) (he : PE X e te)
    (hdb : (x == ("__debug__" : Str)) = false := by decide) (hs : starEach [e] X.env = [(false, eval e X.env)] := by rfl) : PS X (.Raise (some (.Call (.Name x p) [e] [] pos)) none q) (tRaiseF C f te E) := ps_raise hc tk (pmk_supOk S hr hx hg he hdb hs)
theorem pe_xfS (xc : ExcC X.K C) (no : PySem.W.findIn X.K (.ref C) f = some none) (he : PE X e te) (hb : attributeBase e f X.env (eval e X.env) = eval e X.env := by rfl) : PE X (.Attribute e f pos) (tXfG C f te) := pe_xfG ⟨xc.hg, xc.hk, xc.hs, xc.hd⟩ no he hb
end
section
variable {W : Wd} {n : Nat} {ρ : Rho} {P : Nat → D → Prop} {C : Addr} {f : Str} {te : TE} {y : D}
instance st_xfG : Stp (DE (tXfG C f te) W n ρ P) (DE te W n ρ fun n d => ∃ y, d = .exc C [f] [y] ∧ P n y) := ⟨de_xfG⟩
instance sg_xf {Q : D → Prop} : Stp (∃ z, D.exc C [f] [y] = .exc C [f] [z] ∧ Q z) (Q y) := ⟨fun q => ⟨_, rfl, q⟩⟩
instance st_isSame : Stp (DC (rIsSame C) W n ρ [.exc C [f] [y], .raw C] P) (P n (.bl true)) := ⟨dc_isSame (K := [])⟩
end
end HD

/-! == and != of an instance by its class's own __eq__ -/
namespace HD
open PySem PySem.Spec PyProof.Rows L2
/-- the method m of the class at C stands in the text -/
structure DefM (K : PySem.W.Frag) (C : Addr) (m q : Str) (st : Stmt) (ps : List Str) : Prop where
  ex : ∃ (f : Addr) (fd : FuncData), Fun K m q st f fd ∧ PySem.W.findIn K (.ref C) m = some (some (.ref f)) ∧ PySem.W.isFn K (.ref f) = true ∧ Binds K fd ps []
structure CalM (P : Program) (w : World) (K : PySem.W.Frag) (mg : Str → Option Value) (base : Heap) (k : Nat) (C : Addr) (m : Str) (ps : List Str) (sp : Sp) : Prop where
  ex : ∃ (f : Addr) (fd : FuncData), FnOk P w K mg base (L2.CX P w) k f fd ps sp ∧ PySem.W.findIn K (.ref C) m = some (some (.ref f)) ∧ PySem.W.isFn K (.ref f) = true ∧ Binds K fd ps []
section
variable {P : Program} {w : World} {K : PySem.W.Frag} {mg : Str → Option Value} {base : Heap} {k : Nat} {C : Addr} {m q : Str} {st : Stmt} {N ps : List Str}
theorem DefM.okF2 {α0 α1 : Type} [Enc α0] [Enc α1] {pre : α0 → α1 → Prop} {out : α0 → α1 → Out} (Dd : DefM K C m q st ps) (S : FnScope N ps (defScope st)) (hn : 2 = ps.length)
    (h : ∀ (f : Addr) (cdv : Value) (A : Around) (outer : List PySem.Env) (s : Shared) (H : Hp) (E : XK), Room k (A.deeper (envOfC q (defScope st) s.heap.objs.size f cdv)) →
      ∃ t, PSs (cxD P w K mg base N q st f cdv A outer s H E) (defBody st) t ∧ ∀ (W : Wd) (n : Nat) (a0 : α0) (a1 : α1), W.V = V0 → W.G = G0 → W.E = E → (∀ n C ns l, Out.exc C ns l = out a0 a1 → W.EP n C ns l) → pre a0 a1 →
        DS t W n (startR N [Enc.e a0, Enc.e a1]) (fun _ _ => Out.ret false .non = out a0 a1) (fun _ fr d => Out.ret fr d = out a0 a1) (fun _ _ => False) (fun _ _ => False)) : CalM P w K mg base (k + 1) C m ps (PF2 pre out) := by
  obtain ⟨f, fd, F, h1, h2, h3⟩ := Dd.ex
  refine ⟨f, fd, F.okX S (fun vs H Q E z => by rw [prm_len z, hn]) fun cdv A outer s H vs Q E hr hq => ?_, h1, h2, h3⟩
  obtain ⟨t, ht, hd⟩ := h f cdv A outer s H E hr
  refine ⟨t, ht, prm_body stab0 hq ?_⟩
  rintro W n ds hV hG hE hEP hl ⟨a0, a1, rfl, hp⟩
  exact (hd W n a0 a1 hV hG hE (fun n C ns l q => by rw [hEP]; exact pf2_post q) hp).impR (fun n ρ q => pf2_post q) fun n fr d q => pf2_post q
end
/-- x == y, x an instance of the class at C -/
def rEqI (K : PySem.W.Frag) (C : Addr) (sp : Sp) : R2 := fun x y H Q => ∃ (a dx : Addr) (fs : List (Str × L2.V)) (t : Value), x = .ref a ∧ H a = some (.ins C dx fs) ∧ TyX K H y t ∧ PySem.W.notFirst K C t = true ∧ sp [x, y] H (fun v H' => ∃ b, v = .bl b ∧ Q (.bl b) H') (fun _ _ _ => False)
def rNeI (K : PySem.W.Frag) (C : Addr) (sp : Sp) : R2 := fun x y H Q => ∃ (a dx : Addr) (fs : List (Str × L2.V)) (t : Value), x = .ref a ∧ H a = some (.ins C dx fs) ∧ TyX K H y t ∧ PySem.W.notFirst K C t = true ∧ sp [x, y] H (fun v H' => ∃ b, v = .bl b ∧ Q (.bl (!b)) H') (fun _ _ _ => False)
section
variable {X : Cx} {k : Nat} {C : Addr} {ps : List Str} {sp : Sp}
theorem op_eqI (Cm : CalM X.prog X.w X.K X.mg X.base k C "__eq__" ps sp) (hr : Room k X.A) (hx : Passes (L2.CX X.prog X.w) X (fun _ _ _ => False)) : OpR X (compareOp .Eq) (rEqI X.K C sp) := by
  intro pins s σ H x y v u Q I rx ry hq
  obtain ⟨a, dx, fs, t, rfl, ha, ty, hn, q⟩ := hq
  obtain ⟨f, fd, F, hs, hf, hb⟩ := Cm.ex
  obtain rfl : v = Value.ref a := rx
  obtain ⟨Z, z, zz, _⟩ := kit_of I ry ty
  obtain ⟨mA, J, _⟩ := ins_get I.hok ha
  obtain ⟨od, J, _⟩ := J.look
  obtain ⟨m, hF⟩ := I.fr
  show wpAny (model X.prog X.w) X.A (richCompare .Eq (.ref a) u) (L2.EP X pins σ Q) X.xe s
  refine PySem.W.cmp_K (op := .Eq) hr.units0 hF I.ok.mod.kin J (z.ty _ _ I.kIn zz) hn hs hf ?_
  refine wpAny_mono (run_fn (ds := []) (dvs := []) (us := [.ref a, u]) (vs := [.ref a, y]) F hr hb .nil hx I (.cons rfl (.cons ry .nil)) q) (fun r s' hr' => ?_) fun _ _ x => x
  obtain ⟨v2, H', I', r2, b, rfl, q'⟩ := hr'
  obtain rfl : r = Value.bool b := r2
  exact ⟨.bl b, H', I', rfl, q'⟩
section
open PySem.W
variable {prog : Program} {w : World} {A : Around} {E : Value → Shared → Prop} {K : Frag} {x f L : Addr} {h₀ : Heap} {m : Str → Option Value} {ox : Obj} {od : Option Obj} {b tb : Value} {s : Shared}
/-- a special method of a built-in class, bound to an instance -/
theorem special_b {M : Model} {name : Str} {id : String} {args : List Value} {Q : Option Value → Shared → Prop} (kin : K.In s.heap) (J : InstAt s.heap x ox C od) (S : Slot "object" name id) (hs : findIn K (.ref C) name = some (some (.builtin id)))
    (h : wpAny M A (call (.builtin id) (.ref x :: args)) (fun v => Q (some v)) E s) : wpAny M A (callSpecialIfBound? (.ref x) name args) Q E s := by
  have last : wpAny M A (do return some (← call (.builtin id) ([.ref x] ++ args))) Q E s := wpAny_bind (wpAny_mono h (fun v s' z => wpAny_pure z) fun _ _ z => z)
  have sp : Looks M s.heap (specialOf (.ref x) name) (some (.builtin id)) := J.type.andThen (looks_findIn kin hs)
  unfold callSpecialIfBound?
  refine wpAny_holding (wpAny_bind ?_)
  unfold bindSpecialIfBound?
  refine wpAny_bind (sp.here ?_)
  dsimp only
  rw [S.bind]
  repeat (first | exact last | (with_reducible refine wpAny_askSetting ?_) | (with_reducible refine wpAny_ite_split (fun _ => ?_) fun _ => ?_) | (with_reducible refine wpAny_tryCatch ?_) | refine wpAny_pure ?_ | refine wpAny_bind ?_)
/-- object.__ne__ asks the own __eq__ -/
theorem call_ne {nw : String} {Q : Value → Shared → Prop} (kin : K.In s.heap) (J : InstAt s.heap x ox C od) (xi : excInitIn K C [.type "object"] nw = true) (hs : findIn K (.ref C) "__eq__" = some (some (.ref f))) (hf : isFn K (.ref f) = true) (hu : A.units + 1 < cLine)
    (h : wpAny (model prog w) A.in1 (call (.ref f) [.ref x, b]) (fun v s' => ∃ c, v = .bool c ∧ Q (.bool (!c)) s') E s) : wpAny (model prog w) A (call (.builtin "object.__ne__") [.ref x, b]) Q E s := by
  obtain ⟨nm, N, qn, bs, bm, hdct, sn, sub, ab, col, dd, k0, k1, k2, k3, k5, hC, hm⟩ := excInit_of kin xi
  have hob : bm.contains (.type "object") = true := by rw [hm]; rfl
  have hx := J.1
  have hc := J.cls
  have ask : wpAny (model prog w) A.in1 (callSpecialIfBound? (.ref x) "__eq__" [b]) (fun r s' => ∃ c, r = some (.bool c) ∧ Q (.bool (!c)) s') E s := ifBound_K kin J hs hf (wpAny_mono h (fun v s' ⟨c, e, q⟩ => ⟨c, by rw [e], q⟩) fun _ _ z => z)
  have body : wpAny (model prog w) A.in1 (Builtin.«object.__ne__» ⟨[.ref x, b], []⟩) (fun fin s' => ∃ c, fin = .done (.ret (.bool (!c))) ∧ Q (.bool (!c)) s') E s := by
    unfold Builtin.«object.__ne__»
    repeat (first
      | with_reducible refine wpAny_cRoomFor hu ?_
      | (refine wpAny_bind (m := callSpecialIfBound? (.ref x) "__eq__" [b]) (wpAny_mono ask (fun r s' z => ?_) fun _ _ z => z)
         obtain ⟨c, rfl, q⟩ := z
         dsimp only
         repeat (first | exact ⟨c, rfl, q⟩ | refine wpAny_bind (m := truthy (.bool _)) (wpAny_truthy_bool ?_) | refine wpAny_pure ?_ | wp_step))
      | wp_step)
  obtain ⟨hp, g, d, tk, os⟩ := s
  refine wpAny_call (codeAny_call_builtin F.cmp_object.ne.plain F.cmpEntry_ne (wpAny_check_slot_inst F.cmpKind_ne F.cmpSplit_ne (F.cmpArgs_ne _ _) hob hx hc hC (wpAny_mono body (fun fin s' z => ?_) fun _ _ z => z)))
  obtain ⟨c, rfl, q⟩ := z
  exact q
/-- != of an instance without an own __ne__ -/
theorem rich_ne {nw : String} {Q : Value → Shared → Prop} (kin : K.In s.heap) (J : InstAt s.heap x ox C od) (xi : excInitIn K C [.type "object"] nw = true) (hb : Looks (model prog w) s.heap (typeOf b) tb) (hn : notFirst K C tb = true) (hs : findIn K (.ref C) "__eq__" = some (some (.ref f))) (hf : isFn K (.ref f) = true)
    (hne : findIn K (.ref C) "__ne__" = some (some (.builtin "object.__ne__"))) (hu : A.units + 1 < cLine)
    (h : wpAny (model prog w) A.in1 (call (.ref f) [.ref x, b]) (fun v s' => ∃ c, v = .bool c ∧ Q (.bool (!c)) s') E s) : wpAny (model prog w) A (richCompare .NotEq (.ref x) b) Q E s := by
  have one : wpAny (model prog w) A (tryCompare (.ref x) "__ne__" b) (fun r s' => ∃ c, r = some (.bool c) ∧ Q (.bool c) s') E s := by
    unfold tryCompare
    refine wpAny_bind (special_b kin J F.cmp_object.ne hne (call_ne (Q := fun v s' => wpAny (model prog w) A _ _ E s') kin J xi hs hf hu (wpAny_mono h (fun v s' ⟨c, e, q⟩ => ⟨c, e, wpAny_pure ⟨!c, rfl, q⟩⟩) fun _ _ z => z)))
  have order : ∀ {kk : Bool → Sem Value}, wpAny (model prog w) A (kk false) Q E s → wpAny (model prog w) A (if (Value.ref C != tb) = true then isSubtype tb (.ref C) >>= kk else pure false >>= kk) Q E s := fun {kk} z => by
    by_cases e : tb = .ref C
    · subst e
      rw [if_neg (by simp)]
      exact wpAny_bind (wpAny_pure z)
    · have e2 : subIn K tb (.ref C) = some false := by
        rcases Bool.or_eq_true_iff.mp hn with z | z
        · exact absurd (beq_iff_eq.mp z) e
        · exact beq_iff_eq.mp z
      rw [if_pos (by simp; exact fun z => e z.symm)]
      exact wpAny_bind ((looks_subIn kin e2).here z)
  unfold richCompare
  simp only [oneThing_ref]
  refine wpAny_holding (wpAny_bind (wpAny_cRoomFor (Nat.lt_of_succ_lt hu) ?_))
  refine wpAny_bind (J.type.here (wpAny_bind (hb.here (order ?_))))
  simp only [Bool.false_eq_true, if_false]
  refine wpAny_bind (wpAny_mono one (fun r s' z => ?_) fun _ _ z => z)
  obtain ⟨c, rfl, q⟩ := z
  exact wpAny_pure q
end
/-- what != asks of the class, by facts of K -/
structure NeC (K : PySem.W.Frag) (C : Addr) : Prop where
  xi : PySem.W.excInitIn K C [.type "object"] "object.__new__" = true
  ne : PySem.W.findIn K (.ref C) "__ne__" = some (some (.builtin "object.__ne__"))
theorem op_neI (Cm : CalM X.prog X.w X.K X.mg X.base k C "__eq__" ps sp) (nc : NeC X.K C) (hr : Room (k + 1) X.A) (hx : Passes (L2.CX X.prog X.w) X (fun _ _ _ => False)) : OpR X (compareOp .NotEq) (rNeI X.K C sp) := by
  intro pins s σ H x y v u Q I rx ry hq
  obtain ⟨a, dx, fs, t, rfl, ha, ty, hn, q⟩ := hq
  obtain ⟨f, fd, F, hs, hf, hb⟩ := Cm.ex
  obtain rfl : v = Value.ref a := rx
  obtain ⟨Z, z, zz, _⟩ := kit_of I ry ty
  obtain ⟨mA, J, _⟩ := ins_get I.hok ha
  obtain ⟨od, J, _⟩ := J.look
  show wpAny (model X.prog X.w) X.A (richCompare .NotEq (.ref a) u) (L2.EP X pins σ Q) X.xe s
  refine rich_ne I.kIn J nc.xi (z.ty _ _ I.kIn zz) hn hs hf nc.ne (by have := hr.un; omega) ?_
  have e0 : Env0 X.prog X.w X.K X.mg X.base X.A.in1 X.stack s H := ⟨I.env0.frames, I.env0.mod, I.env0.bs, I.env0.bsz, I.env0.funs, I.env0.frf, I.env0.hok, I.env0.bare⟩
  have r2 : Vals [L2.V.ref a, y] [Value.ref a, u] := .cons rfl (.cons ry .nil)
  refine wpAny_call (codeAny_mono (F.run X.A.in1 X.stack s H ⟨[.ref a, u], []⟩ [.ref a, u] [.ref a, y] _ _ hr.in1 e0 (by
    have hl := F.len _ _ _ _ q
    have := hb s [.ref a, u] I.kIn (by simpa using hl)
    simpa using this) r2 q) fun r s' hq => ?_)
  cases r with
  | error e => exact hx pins σ H s e s' I hq
  | ok fl =>
    cases fl with
    | ret w =>
      obtain ⟨v2, H', I', r3, b, rfl, q'⟩ := I.after hq
      obtain rfl : w = Value.bool b := r3
      exact ⟨b, rfl, .bl (!b), H', I', rfl, q'⟩
    | next => exact False.elim hq
    | brk => exact False.elim hq
    | cont => exact False.elim hq
end
/-! ### at data -/
theorem nf_ty {K : PySem.W.Frag} {C : Addr} {m : String} {l : List Value} (h : PySem.fastBuiltinMro m = some l) (hl : l.contains (.ref C) = false) : PySem.W.notFirst K C (.type m) = true := by
  unfold PySem.W.notFirst PySem.W.subIn
  dsimp only
  rw [h]
  show ((Value.type m == .ref C) || (some (l.contains (.ref C)) == some false)) = true
  rw [hl]
  simp
theorem nf_pl {K : PySem.W.Frag} {C : Addr} {d : D} {m : String} (e : d.tn = some m) : PySem.W.notFirst K C (.type m) = true := by
  cases d <;> cases e
  case bl => exact nf_ty (l := [.type "bool", .type "int", .type "object"]) (by decide +kernel) rfl
  case non => exact nf_ty (l := [.type "NoneType", .type "object"]) (by decide +kernel) rfl
  case int => exact nf_ty (l := [.type "int", .type "object"]) (by decide +kernel) rfl
  case str => exact nf_ty (l := [.type "str", .type "object"]) (by decide +kernel) rfl
  case lst => exact nf_ty (l := [.type "list", .type "object"]) (by decide +kernel) rfl
  case tup => exact nf_ty (l := [.type "tuple", .type "object"]) (by decide +kernel) rfl
  case dic => exact nf_ty (l := [.type "dict", .type "object"]) (by decide +kernel) rfl
  case dct => exact nf_ty (l := [.type "dict", .type "object"]) (by decide +kernel) rfl
/-- the right one: plain, or of the class -/
def RgtI (C : Addr) (d : D) : Prop := d.tn.isSome = true ∨ ∃ ns l, d = .ins C ns l
/-- both shared -/
def DRS (r : R2) (W : Wd) (n : Nat) (ρ : Rho) (d1 d2 : D) (P : Nat → D → Prop) : Prop := ∀ (Z : ZL) (T : TL) (σ : L2.St) (H : Hp) (v1 v2 : L2.V), Env W n Z T ρ σ H → Is (XX W Z ρ σ) H v1 d1 → Is (XX W Z ρ σ) H v2 d2 → ∀ Q : VK, RetK W Z T ρ σ P Q → r v1 v2 H Q
theorem de_opS {W : Wd} {n : Nat} {ρ : Rho} {P : Nat → D → Prop} {ta tb : TE} {r : R2} (h : DE ta W n ρ fun n d1 => DE tb W n ρ fun n d2 => DRS r W n ρ d1 d2 P) : DE (tOp r ta tb) W n ρ P := fun Z T σ H e Q k =>
  h Z T σ H e _ fun n x d1 H1 p e1 i1 => p Z ((x, d1) :: T) σ H1 (e1.push i1) _ fun n y d2 H2 q e2 i2 => q Z T σ H2 x y e2.pop1 e2.top i2 Q k
theorem RgtI.ty {K : PySem.W.Frag} {C : Addr} {X : AP} {H : Hp} {v : L2.V} {d : D} (I : InsK K C) (r : RgtI C d) (i : IsW X H v d) : ∃ t, TyX K H v t ∧ PySem.W.notFirst K C t = true := by
  rcases r with r | ⟨ns, l, rfl⟩
  · obtain ⟨m, e⟩ := Option.isSome_iff_exists.mp r
    exact ⟨_, tyx_of i e, nf_pl e⟩
  · exact ⟨_, I.ty i, by unfold PySem.W.notFirst; simp⟩
section
variable {W : Wd} {n : Nat} {ρ : Rho} {P : Nat → D → Prop} {K : PySem.W.Frag} {C : Addr} {ns : List Str} {l : List D} {d : D} {α0 α1 : Type} [Enc α0] [Enc α1] {pre : α0 → α1 → Prop} {out : α0 → α1 → Out} {b : Bool} {fr : Bool}
theorem dr_eqI (I : InsK K C) (rt : RgtI C d) (a0 : α0) (a1 : α1) (e : [D.ins C ns l, d] = [Enc.e a0, Enc.e a1]) (hp : pre a0 a1) (ho : out a0 a1 = .ret fr (.bl b)) (p : P n (.bl b)) : DRS (rEqI K C (PF2 pre out)) W n ρ (.ins C ns l) d P := fun Z T σ H v1 v2 ev i1 i2 Q k => by
  obtain ⟨a, dx, fs, rfl, ha, _⟩ := isw_ins (.inl i1)
  obtain ⟨t, ty, nf⟩ := rt.ty I (.inl i2)
  refine ⟨a, dx, fs, t, rfl, ha, ty, nf, call_prm (P := fun n' d => n' = n ∧ d = .bl b) fit0 ev (.cons i1 (.cons i2 .nil)) rfl ⟨a0, a1, e, hp⟩ (fun n' d q => ?_) (fun n' d q => ?_) (fun n' v d' H' ⟨hn, hd⟩ e' i => ?_) fun n' C' ns' l' od H' q => ?_⟩
  · have q1 := q a0 a1 e; rw [ho] at q1; cases q1; exact ⟨rfl, rfl⟩
  · have q1 := q a0 a1 e; rw [ho] at q1; cases q1; exact ⟨rfl, rfl⟩
  · subst hd hn
    cases isw_bl (.inl i)
    exact ⟨b, rfl, k _ _ _ H' p e' (.bl b)⟩
  · have q1 := q a0 a1 e; rw [ho] at q1; cases q1
theorem dr_neI (I : InsK K C) (rt : RgtI C d) (a0 : α0) (a1 : α1) (e : [D.ins C ns l, d] = [Enc.e a0, Enc.e a1]) (hp : pre a0 a1) (ho : out a0 a1 = .ret fr (.bl b)) (p : P n (.bl (!b))) : DRS (rNeI K C (PF2 pre out)) W n ρ (.ins C ns l) d P := fun Z T σ H v1 v2 ev i1 i2 Q k => by
  obtain ⟨a, dx, fs, rfl, ha, _⟩ := isw_ins (.inl i1)
  obtain ⟨t, ty, nf⟩ := rt.ty I (.inl i2)
  refine ⟨a, dx, fs, t, rfl, ha, ty, nf, call_prm (P := fun n' d => n' = n ∧ d = .bl b) fit0 ev (.cons i1 (.cons i2 .nil)) rfl ⟨a0, a1, e, hp⟩ (fun n' d q => ?_) (fun n' d q => ?_) (fun n' v d' H' ⟨hn, hd⟩ e' i => ?_) fun n' C' ns' l' od H' q => ?_⟩
  · have q1 := q a0 a1 e; rw [ho] at q1; cases q1; exact ⟨rfl, rfl⟩
  · have q1 := q a0 a1 e; rw [ho] at q1; cases q1; exact ⟨rfl, rfl⟩
  · subst hd hn
    cases isw_bl (.inl i)
    exact ⟨b, rfl, k _ _ _ H' p e' (.bl (!b))⟩
  · have q1 := q a0 a1 e; rw [ho] at q1; cases q1
end
section
variable {W : Wd} {n : Nat} {ρ : Rho} {P : Nat → D → Prop} {K : PySem.W.Frag} {C : Addr} {sp : Sp} {ta tb : TE}
instance (priority := high) st_eqI : Stp (DE (tOp (rEqI K C sp) ta tb) W n ρ P) (DE ta W n ρ fun n d1 => DE tb W n ρ fun n d2 => DRS (rEqI K C sp) W n ρ d1 d2 P) := ⟨de_opS⟩
instance (priority := high) st_neI : Stp (DE (tOp (rNeI K C sp) ta tb) W n ρ P) (DE ta W n ρ fun n d1 => DE tb W n ρ fun n d2 => DRS (rNeI K C sp) W n ρ d1 d2 P) := ⟨de_opS⟩
end
theorem defm_of {K : PySem.W.Frag} {m q : Str} {st : Stmt} {ps : List Str} {C f : Addr} {fd : FuncData} (F : FunD K m q (defArgs st) (defBody st) (defScope st) [] [] f fd) (M : Meth K C m f)
    (h : ∀ (kV doc pm : Value) (an : Option Addr) (cdv ct : Value) (us : List Value), us.length = ps.length → bindArgs (PySem.W.fnOf m q (defArgs st) (defBody st) (defScope st) .none kV doc pm an cdv ct) ⟨us, []⟩ = pure (ps.zip us)) : DefM K C m q st ps := ⟨f, fd, fun_ofq F, M.at_, M.fn, F.bindsN h⟩
theorem neC_of {K : PySem.W.Frag} {C : Addr} (h : neCB K C = true) : NeC K C := by
  obtain ⟨h1, h2⟩ := Bool.and_eq_true_iff.mp h
  exact ⟨h1, He.eqO_ok h2⟩
end HD


namespace Kx
open PySem PySem.Spec PyProof.Rows L2 HD
local macro_rules | `(tactic| walk_at "hdpre") => `(tactic| first | with_reducible assumption | exact True.intro | exact rfl | assumption)
local macro_rules | `(tactic| walk_at "hdpd") => `(tactic| first | with_reducible assumption | exact rfl | assumption | decide +kernel)
local macro_rules | `(tactic| walk_at "hdpl") => `(tactic| first | exact rfl | assumption)
local macro_rules | `(tactic| walk_at "hset") => `(tactic| first | exact SetR.zero | ((apply SetR.s4); walk_at "hset") | ((apply SetR.succ); walk_at "hset"))
local macro_rules | `(tactic| walk_at "hstr") => `(tactic| first | exact StR.nil | ((apply StR.d); walk_at "hstr") | ((apply StR.n); walk_at "hstr"))
local macro_rules | `(tactic| walk_at "hnrm") => `(tactic| first
  | ((with_reducible refine' Nrm.set ?h1 ?h2); (case h1 => walk_at "hnrm"); (case h2 => walk_at "hset"))
  | ((with_reducible refine' Nrm.start ?_); walk_at "hstr")
  | ((with_reducible refine' Nrm.wipeA ?h0 ?h1 ?h2); (case h0 => exact rfl); (case h1 => walk_at "hnrm"); (case h2 => walk_at "hset"))
  | ((with_reducible refine' Nrm.wipeB ?h0 ?h1); (case h0 => exact rfl); (case h1 => walk_at "hnrm"))
  | exact Nrm.lit)
local macro_rules | `(tactic| walk_at "hDS") => `(tactic| first
  | ((with_reducible refine' ds_norm ?h ?h2 ?_); (case h => walk_at "hnrm"); (case h2 => walk_at "hset"))
  | ((with_reducible refine' ds_start ?h ?_); (case h => walk_at "hstr"))
  | (with_reducible refine ds_seq ?_)
  | (with_reducible refine ds_if ?_)
  | (with_reducible refine ds_retN ?_)
  | (with_reducible refine ds_raise' (by assumption) ?_)
  | (with_reducible refine ds_raiseF (by assumption) ?_)
  | (with_reducible refine ds_retIf ?_)
  | ((with_reducible refine' ds_ret_own ?h ?_); (case h => exact rfl))
  | (with_reducible refine ds_ret ?_)
  | (with_reducible refine ds_next ?_)
  | ((with_reducible refine' ds_append ?h ?_); (case h => exact rfl))
  | ((with_reducible refine' ds_dropPop ?h ?_); (case h => exact rfl))
  | (with_reducible refine ds_drop ?_)
  | (with_reducible refine ds_par ?_)
  | (with_reducible refine ds_own (df_lst ?_))
  | (with_reducible refine ds_own (df_dnew ?_))
  | (with_reducible refine ds_own (df_list ?_))
  | ((with_reducible refine' ds_lput ?h ?_); (case h => exact rfl))
  | ((with_reducible refine' ds_ownAdd ?h ?_); (case h => exact rfl))
  | (with_reducible refine ds_set ?_)
  | (with_reducible refine ds_asgx ?_)
  | ((with_reducible refine' ds_dput ?h ?_); (case h => exact rfl)))
local macro_rules | `(tactic| walk_at "hDE") => `(tactic| first
  | ((with_reducible refine' de_norm ?h ?h2 ?_); (case h => walk_at "hnrm"); (case h2 => walk_at "hset"))
  | ((with_reducible refine' de_op_o ?h ?_); (case h => exact rfl))
  | ((with_reducible refine' de_op_2o ?h ?_); (case h => exact rfl))
  | ((with_reducible refine' de_var ?h ?_); (case h => exact rfl))
  | (with_reducible refine de_int ?_)
  | (with_reducible refine de_bl ?_)
  | (with_reducible refine de_non ?_)
  | (with_reducible refine de_str ?_)
  | (with_reducible refine de_ty ?_)
  | (with_reducible refine de_raw ?_)
  | (with_reducible refine de_op ?_)
  | (with_reducible refine de_un ?_)
  | (with_reducible refine DF.de (df_dnew ?_))
  | ((with_reducible refine' DF.de (df_listRevO ?h ?_)); (case h => exact rfl))
  | (with_reducible refine DF.de (df_listRev ?_))
  | (with_reducible refine DF.de (df_listRg1 ?_))
  | (with_reducible refine de_dispT1 ?_)
  | (with_reducible refine de_andV ?_)
  | (with_reducible refine de_orV ?_)
  | (with_reducible refine de_notV ?_)
  | (with_reducible refine de_if ?_)
  | (with_reducible refine de_chain ?_)
  | (with_reducible refine de_tup ?_)
  | (with_reducible refine DF.de (df_lst ?_))
  | ((with_reducible refine' de_cb_o ?h ?_); (case h => exact rfl))
  | ((with_reducible refine' de_cb_o2 ?h ?_); (case h => exact rfl))
  | (with_reducible refine de_cb ?_)
  | ((with_reducible refine' de_sl_o ?h ?_); (case h => exact rfl))
  | (with_reducible refine de_sl ?_)
  | ((with_reducible refine' de_draw _ ?hV ?hG ?_); (case hV => assumption); (case hG => assumption))
  | ((with_reducible refine' de_pick _ ?hV ?hG ?_); (case hV => assumption); (case hG => assumption))
  | ((with_reducible refine' de_lawL _ ?hV ?hG ?_); (case hV => assumption); (case hG => assumption))
  | (with_reducible refine de_det ?_)
  | (with_reducible refine de_pf1 ?_)
  | (with_reducible refine de_pf2 ?_)
  | (with_reducible refine de_pf3 ?_)
  | (with_reducible refine de_pf4 ?_)
  | (with_reducible refine de_pf5 ?_)
  | ((with_reducible refine' de_pf1K ?hE ?hp ?_); (case hE => assumption); (case hp => rfl))
  | ((with_reducible refine' de_pf2K ?hE ?hp ?_); (case hE => assumption); (case hp => rfl))
  | ((with_reducible refine' de_pf3K ?hE ?hp ?_); (case hE => assumption); (case hp => rfl))
  | ((with_reducible refine' de_pf4K ?hE ?hp ?_); (case hE => assumption); (case hp => rfl))
  | ((with_reducible refine' de_pf5K ?hE ?hp ?_); (case hE => assumption); (case hp => rfl))
  | (with_reducible refine de_rel ?_)
  | (refine de_detK0 ?_)
  | ((with_reducible refine' de_fldC ?h1 ?h2 ?_); (case h1 => assumption); (case h2 => simp))
  | (with_reducible refine DF.de (df_disp1 ?_)))
local macro_rules | `(tactic| walk_at "hDU") => `(tactic| first
  | (with_reducible refine du_neg ?_))
local macro_rules | `(tactic| walk_at "hDRF") => `(tactic| first
  | (with_reducible refine r_addL (szl (by (try simp only [List.length_append, List.length_map, List.length_set, List.length_cons, List.length_nil]); omega)) ?_))
local macro_rules | `(tactic| walk_at "hDR") => `(tactic| first
  | (with_reducible refine DRF.dr (r_repL (by decide) (by decide) (szl (Nat.le_of_ble_eq_true rfl)) ?_))
  | (with_reducible refine DRF.dr (r_addL (szl (Nat.le_of_ble_eq_true rfl)) ?_))
  | (with_reducible refine DRF.dr (r_addL (szl (by (try simp only [List.length_append, List.length_map, List.length_set, List.length_cons, List.length_nil]); omega)) ?_))
  | (with_reducible refine r_addT (szl (Nat.le_of_ble_eq_true rfl)) ?_)
  | (with_reducible refine r_addT (szl (by simp only [HD.cutD, List.length_append, List.length_take, List.length_drop, List.length_map, List.length_cons, List.length_nil]; omega)) ?_)
  | (with_reducible refine r_pow c_pow ?_)
  | (with_reducible refine r_mul (c_small (by decide)) ?_)
  | (with_reducible refine r_mul (c_smallL (by decide)) ?_)
  | (with_reducible refine r_mul (c_smallL (by omega)) ?_)
  | (with_reducible refine r_mul (c_small (by omega)) ?_)
  | (with_reducible refine r_fdiv (c_divN (by omega) (by omega)) ?_)
  | (with_reducible refine r_mod (by omega) ?_)
  | (with_reducible refine r_add ?_)
  | (with_reducible refine r_sub ?_)
  | (with_reducible refine r_lt ?_)
  | (with_reducible refine r_le ?_)
  | (with_reducible refine r_gt ?_)
  | (with_reducible refine r_ge ?_)
  | ((refine r_eqS (c := true) (by decide +kernel) (by decide +kernel) (by decide +kernel) ?_))
  | ((refine r_eqS (c := false) (by decide +kernel) (by decide +kernel) (by decide +kernel) ?_))
  | (with_reducible refine r_neBB ?_)
  | (with_reducible refine r_eqBB ?_)
  | (with_reducible refine r_eqI ?_)
  | (with_reducible refine r_neI ?_)
  | (with_reducible refine r_isN ?_)
  | (with_reducible refine r_isnN ?_)
  | (with_reducible refine r_isB ?_)
  | (with_reducible refine r_isnB ?_)
  | ((with_reducible refine' r_eqP ?h1 ?h2 (fun b hb => ?_)); (case h1 => walk_at "hdpd"); (case h2 => walk_at "hdpd"))
  | ((with_reducible refine' r_neP ?h1 ?h2 (fun b hb => ?_)); (case h1 => walk_at "hdpd"); (case h2 => walk_at "hdpd"))
  | ((with_reducible refine' r_eqT0 ?h ?_); (case h => assumption))
  | ((with_reducible refine' r_neT0 ?h ?_); (case h => assumption))
  | ((with_reducible refine' r_inP ?h0 ?h1 ?h2 (fun b hb => ?_)); (case h0 => first | exact .inl rfl | exact .inr rfl); (case h1 => walk_at "hdpd"); (case h2 => walk_at "hdpd"))
  | ((with_reducible refine' r_ninP ?h0 ?h1 ?h2 (fun b hb => ?_)); (case h0 => first | exact .inl rfl | exact .inr rfl); (case h1 => walk_at "hdpd"); (case h2 => walk_at "hdpd"))
  | ((with_reducible refine' r_ixT ?h ?_); (case h => first | exact rfl | assumption))
  | ((with_reducible refine' r_ixL ?h ?_); (case h => first | exact rfl | assumption)))
local macro_rules | `(tactic| walk_at "hDSl") => `(tactic| first
  | (with_reducible refine r_slT ?_)
  | (with_reducible refine' sl_lst ?_))
local macro_rules | `(tactic| walk_at "hDO") => `(tactic| first
  | (with_reducible refine do_none ?_)
  | (with_reducible refine do_some ?_))
local macro_rules | `(tactic| walk_at "hDT") => `(tactic| first
  | ((with_reducible refine' dt_norm ?h ?h2 ?_); (case h => walk_at "hnrm"); (case h2 => walk_at "hset"))
  | (with_reducible refine dt_test ?_)
  | (with_reducible refine dt_B ?_)
  | (with_reducible refine dt_and ?_)
  | (with_reducible refine dt_or ?_)
  | (with_reducible refine dt_not ?_)
  | (with_reducible refine dt_yes ?_))
local macro_rules | `(tactic| walk_at "hDA") => `(tactic| first
  | (with_reducible refine da_nil ?_)
  | (with_reducible refine da_cons ?_))
local macro_rules | `(tactic| walk_at "hDC") => `(tactic| first
  | (with_reducible refine b_lenT ?_)
  | (with_reducible refine b_lenL ?_)
  | (with_reducible refine b_abs ?_)
  | (with_reducible refine b_min2 ?_)
  | (with_reducible refine b_max2 ?_)
  | (with_reducible refine b_int ?_)
  | ((with_reducible refine' u_is_int ?h ?_); (case h => walk_at "hdpl"))
  | ((with_reducible refine' u_is_bool ?h ?_); (case h => walk_at "hdpl"))
  | ((with_reducible refine' u_is_tuple ?h ?_); (case h => walk_at "hdpl"))
  | ((with_reducible refine' u_is_list ?h ?_); (case h => walk_at "hdpl"))
  | ((with_reducible refine' u_is_str ?h ?_); (case h => walk_at "hdpl"))
  | ((with_reducible refine' u_is_dict ?h ?_); (case h => walk_at "hdpl"))
  | ((with_reducible refine' u_is_lt ?h ?_); (case h => walk_at "hdpl"))
  | ((with_reducible refine' u_isC ?h1 ?h2 ?_); (case h1 => assumption); (case h2 => walk_at "hdpl"))
  | ((with_reducible refine' DCF.dc (b_list ?h ?_)); (case h => first | exact .inl rfl | exact .inr rfl))
  | ((with_reducible refine' b_tuple ?h ?_); (case h => first | exact .inl rfl | exact .inr rfl)))
local macro_rules | `(tactic| walk_at "hd0") => `(tactic| first
  | ((with_reducible refine isDE ?_); walk_at "hDE")
  | ((with_reducible refine isDA ?_); walk_at "hDA")
  | ((with_reducible refine isDR ?_); walk_at "hDR")
  | ((with_reducible refine isDS ?_); walk_at "hDS")
  | ((with_reducible refine isDC ?_); walk_at "hDC")
  | ((with_reducible refine isDT ?_); walk_at "hDT")
  | ((with_reducible refine isDU ?_); walk_at "hDU")
  | ((with_reducible refine isDRF ?_); walk_at "hDRF")
  | ((with_reducible refine isDSl ?_); walk_at "hDSl")
  | ((with_reducible refine isDO ?_); walk_at "hDO")
  | (with_reducible refine' dgx ?_)
  | (with_reducible refine dg_name ?_)
  | ((with_reducible refine' dg_tup ?h ?_); (case h => exact rfl))
  | (with_reducible refine' dgs_cons ?_)
  | (with_reducible refine dgs_nil ?_)
  | (refine ⟨_, _, _, rfl, rfl, ?_⟩)
  | ((refine' pfK2 rfl rfl rfl ?h ?h2 ?_); (case h2 => first | with_reducible assumption | exact rfl | assumption); (case h => walk_at "hdpre"))
  | ((refine ⟨rfl, ?h, _, _, rfl, ?_⟩); (case h => walk_at "hdpre"))
  | ((refine ⟨rfl, rfl, ?h, _, _, rfl, ?_⟩); (case h => walk_at "hdpre"))
  | ((refine' pfK1 rfl rfl rfl ?h ?h2 ?_); (case h2 => first | with_reducible assumption | exact rfl | assumption); (case h => walk_at "hdpre"))
  | ((refine' pfK3 rfl rfl rfl ?h ?h2 ?_); (case h2 => first | with_reducible assumption | exact rfl | assumption); (case h => walk_at "hdpre"))
  | ((refine' pfK4 rfl rfl rfl ?h ?h2 ?_); (case h2 => first | with_reducible assumption | exact rfl | assumption); (case h => walk_at "hdpre"))
  | ((refine' pfK5 rfl rfl rfl ?h ?h2 ?_); (case h2 => first | with_reducible assumption | exact rfl | assumption); (case h => walk_at "hdpre"))
  | ((refine' pfG1 rfl ?h ?h2 ?_); (case h2 => first | with_reducible assumption | exact rfl | assumption); (case h => walk_at "hdpre"))
  | ((refine' pfG2 rfl ?h ?h2 ?_); (case h2 => first | with_reducible assumption | exact rfl | assumption); (case h => walk_at "hdpre"))
  | ((refine' pfG3 rfl ?h ?h2 ?_); (case h2 => first | with_reducible assumption | exact rfl | assumption); (case h => walk_at "hdpre"))
  | ((refine' pfG4 rfl ?h ?h2 ?_); (case h2 => first | with_reducible assumption | exact rfl | assumption); (case h => walk_at "hdpre"))
  | ((refine' detG rfl ?h ?h2 ?_); (case h2 => first | with_reducible assumption | assumption); (case h => walk_at "hdpre"))
  | ((refine' detK rfl rfl ?h ?h2 ?_); (case h2 => first | with_reducible assumption | assumption); (case h => walk_at "hdpre"))
  | (refine ⟨_, .inl rfl, Nat.zero_lt_succ _, Nat.le_of_ble_eq_true rfl, by omega, fun nd kd hnd hkm => ?_⟩)
  | (refine ⟨rfl, by omega, rfl, fun nd bd dd hnd hrd => ?_⟩)
  | (refine ⟨by decide, p9 (by decide), by omega, fun nd kd hnd hk0 hk1 => ?_⟩)
  | (refine ⟨by omega, p9 (by omega), by omega, fun nd kd hnd hk0 hk1 => ?_⟩)
  | ((refine' lputG rfl ?h ?_); (case h => assumption))
  | (refine ⟨_, _, rfl, .inl rfl, ?_⟩)
  | (refine ⟨_, _, rfl, .inr rfl, ?_⟩)
  | (refine ⟨_, rfl, ?_⟩)
  | (refine ⟨szl (Nat.le_of_ble_eq_true rfl), ?_⟩)
  | (refine ⟨szlt (by (try simp only [List.length_append, List.length_map, List.length_set, List.length_cons, List.length_nil]); omega), ?_⟩)
  | (refine ⟨_, _, rfl, ?_⟩)
  | (refine bT ?_)
  | (refine bF ?_)
  | (refine ⟨fun hb => ?_, fun hb => ?_⟩)
  | dsimp only)
local macro_rules | `(tactic| walk_at "hd1") => `(tactic| first | (refine Stp.go ?_) | walk_at "hd1b")
local macro_rules | `(tactic| walk_at "hd1b") => `(tactic| first
  | ((refine' CG.go ?h ?h2 ?_); (case h2 => first | with_reducible assumption | exact rfl | assumption); (case h => walk_at "hdpre"))
  | ((with_reducible refine isBR ?_); first | (refine bT ?_) | (refine bF ?_) | (refine ⟨fun hb => ?_, fun hb => ?_⟩))
  | walk_at "hd0")
local macro_rules | `(tactic| walk_at "rfn") => `(tactic| first | exact Rfn.nil | (refine Rfn.keep ?_) | (refine Rfn.skip ?_))
local macro_rules | `(tactic| walk_at "hd2") => `(tactic| first | (refine Stp.go ?_) | walk_at "hd2b")
local macro_rules | `(tactic| walk_at "hd2b") => `(tactic| first
  | ((with_reducible refine' bTh ?h ?_); (case h => with_reducible assumption))
  | ((with_reducible refine' bFh ?h ?_); (case h => with_reducible assumption))
  | ((with_reducible refine' bNT ?h ?_); (case h => with_reducible assumption))
  | ((with_reducible refine' bNF ?h ?_); (case h => with_reducible assumption))
  | ((with_reducible refine' bDT ?h ?_); (case h => with_reducible assumption))
  | ((with_reducible refine' bDF ?h ?_); (case h => with_reducible assumption))
  | ((with_reducible refine' bNDT ?h ?_); (case h => with_reducible assumption))
  | ((with_reducible refine' bNDF ?h ?_); (case h => with_reducible assumption))
  | ((with_reducible refine' r_eqT0 ?h ?_); (case h => with_reducible assumption))
  | ((with_reducible refine' r_neT0 ?h ?_); (case h => with_reducible assumption))
  | ((with_reducible refine' r_eqNo ?h3 ?h1 ?h2 ?_); (case h3 => with_reducible assumption); (case h1 => walk_at "hdpd"); (case h2 => walk_at "hdpd"))
  | ((with_reducible refine' r_neNo ?h3 ?h1 ?h2 ?_); (case h3 => with_reducible assumption); (case h1 => walk_at "hdpd"); (case h2 => walk_at "hdpd"))
  | ((with_reducible refine' r_eqSelf ?h1 ?_); (case h1 => walk_at "hdpd"))
  | ((with_reducible refine' r_neSelf ?h1 ?_); (case h1 => walk_at "hdpd"))
  | walk_at "hd1b")

structure Txt (K : PySem.W.Frag) (mg : Str → Option Value) : Prop where
  b_abs : mg "abs" = none
  b_all : mg "all" = none
  b_bool : mg "bool" = none
  b_enumerate : mg "enumerate" = none
  b_int : mg "int" = none
  b_isinstance : mg "isinstance" = none
  b_len : mg "len" = none
  b_list : mg "list" = none
  b_min : mg "min" = none
  b_range : mg "range" = none
  b_super : mg "super" = none
  b_tuple : mg "tuple" = none
  g_MOST_ROOMS : ∃ t, mg "MOST_ROOMS" = some (.int 12 t)
  g_MOST_DOORS : ∃ t, mg "MOST_DOORS" = some (.int 20 t)
  g_GREATEST : ∃ t, mg "GREATEST" = some (.int 999 t)
  c_PullError : mg "PullError" = some (.ref (He.ga K "PullError"))
  c_Apart : mg "Apart" = some (.ref (He.ga K "Apart"))
  c_BadDoors : mg "BadDoors" = some (.ref (He.ga K "BadDoors"))
  c_BadRooms : mg "BadRooms" = some (.ref (He.ga K "BadRooms"))
  c_House : mg "House" = some (.ref (He.ga K "House"))
  x_BadDoors : ExcT K mg "BadDoors" (He.ga K "BadDoors")
  x_BadRooms : ExcT K mg "BadRooms" (He.ga K "BadRooms")
  e_BadDoors : ExcC K (He.ga K "BadDoors")
  k_BadDoors : PySem.W.kitOne K (.ref (He.ga K "BadDoors")) (.ref (He.ga K "BadDoors")) = some true
  m_BadDoors : PySem.W.exmOne K (.ref (He.ga K "BadDoors")) (.ref (He.ga K "PullError")) = some true
  e_BadRooms : ExcC K (He.ga K "BadRooms")
  k_BadRooms : PySem.W.kitOne K (.ref (He.ga K "BadRooms")) (.ref (He.ga K "BadRooms")) = some true
  m_BadRooms : PySem.W.exmOne K (.ref (He.ga K "BadRooms")) (.ref (He.ga K "PullError")) = some true
  m_Apart : PySem.W.exmOne K (.ref (He.ga K "Apart")) (.ref (He.ga K "PullError")) = some true
  n_House : NeC K (He.ga K "House")
  cl_House : ClsT K (He.ga K "House") ["rooms", "doors"]
section
variable {P : Program} {w : World} {K : PySem.W.Frag} {mg : Str → Option Value} {base : Heap} {Tt : List (Addr × Str)} {c Pt : Addr}
def Adj (ds : List Door) (a b : Int) : Prop := ∃ d ∈ ds, (d.near = a ∧ d.far = b) ∨ (d.far = a ∧ d.near = b)
inductive Reach (ds : List Door) : Int → Prop
  | zero : Reach ds 0
  | step {a b : Int} : Reach ds a → Adj ds a b → Reach ds b
theorem Adj.mono {ds es : List Door} (h : ∀ d ∈ ds, d ∈ es) {a b : Int} : Adj ds a b → Adj es a b := fun ⟨d, h1, h2⟩ => ⟨d, h d h1, h2⟩
theorem nodup_len : ∀ {l E : List Int}, l.Nodup → (∀ x ∈ l, x ∈ E) → l.length ≤ E.length
  | [], _, _, _ => Nat.zero_le _
  | x :: l, E, nd, s => by
    obtain ⟨h1, h2⟩ := List.nodup_cons.mp nd
    have hx := s x List.mem_cons_self
    have ih := nodup_len (l := l) (E := E.erase x) h2 fun y hy => by
      have ne : y ≠ x := fun z => h1 (by rw [← z]; exact hy)
      exact (List.mem_erase_of_ne ne).mpr (s y (List.mem_cons_of_mem _ hy))
    rw [List.length_erase_of_mem hx] at ih
    have := List.length_pos_of_mem hx
    simp only [List.length_cons]; omega
def ends (ds : List Door) : List Int := 0 :: ds.flatMap fun d => [d.near, d.far]
theorem ends_len : ∀ (ds : List Door), (ends ds).length = 2 * ds.length + 1
  | [] => rfl
  | d :: r => by
    have := ends_len r
    unfold ends at this ⊢
    simp only [List.flatMap_cons, List.length_cons, List.length_append, List.length_nil] at this ⊢
    omega
/-- the keys of known -/
def kns (kn : List Int) : D := .dic (kn.map Sum.inl) (kn.map fun _ => .bl true)
theorem keyIn_inl {kn : List Int} {x : Int} : keyIn (kn.map Sum.inl) (.inl x) = decide (x ∈ kn) := by
  rw [Bool.eq_iff_iff, keyIn_iff, decide_eq_true_iff, List.mem_map]
  exact ⟨fun ⟨y, h1, h2⟩ => by cases h2; exact h1, fun h => ⟨x, h, rfl⟩⟩
theorem kns_put {kn : List Int} {x : Int} (h : x ∉ kn) : D.dic (putD (kn.map Sum.inl) (kn.map fun _ => .bl true) (.inl x) (.bl true)).1 (putD (kn.map Sum.inl) (kn.map fun _ => .bl true) (.inl x) (.bl true)).2 = kns (kn ++ [x]) := by
  unfold putD
  rw [if_neg (by rw [keyIn_inl, decide_eq_true_iff]; exact h)]
  simp [kns]
/-- what the search keeps: kn known, ln still to be looked at -/
structure JI (ds : List Door) (kn ln : List Int) : Prop where
  z : 0 ∈ kn
  sub : ∀ x ∈ ln, x ∈ kn
  nd : kn.Nodup
  en : ∀ x ∈ kn, x ∈ ends ds
  re : ∀ x ∈ kn, Reach ds x
  ll : ln.length ≤ kn.length
def jm (ds : List Door) (kn ln : List Int) : Nat := 2 * ((ends ds).length - kn.length) + ln.length
theorem jm_push {ds : List Door} {kn ln : List Int} {x : Int} (J : JI ds (kn ++ [x]) ln) : jm ds (kn ++ [x]) (ln ++ [x]) < jm ds kn ln := by
  have h := nodup_len J.nd J.en
  unfold jm
  simp only [List.length_append, List.length_cons, List.length_nil] at h ⊢
  omega
theorem JI.push {ds : List Door} {kn ln : List Int} {h x : Int} (J : JI ds kn ln) (hr : Reach ds h) (a : Adj ds h x) (nx : x ∉ kn) : JI ds (kn ++ [x]) (ln ++ [x]) := by
  refine ⟨List.mem_append_left _ J.z, fun y hy => ?_, ?_, fun y hy => ?_, fun y hy => ?_, by have := J.ll; simp only [List.length_append, List.length_cons, List.length_nil]; omega⟩
  · rcases List.mem_append.mp hy with hy | hy
    · exact List.mem_append_left _ (J.sub y hy)
    · exact List.mem_append_right _ hy
  · rw [List.nodup_append]
    refine ⟨J.nd, by simp, fun a ha b hb e => nx ?_⟩
    have : b = x := by simpa using hb
    rw [← this, ← e]; exact ha
  · rcases List.mem_append.mp hy with hy | hy
    · exact J.en y hy
    · have : y = x := by simpa using hy
      subst this
      obtain ⟨d, h1, h2⟩ := a
      refine List.mem_cons_of_mem _ (List.mem_flatMap.mpr ⟨d, h1, ?_⟩)
      rcases h2 with h2 | h2 <;> simp [h2.2]
  · rcases List.mem_append.mp hy with hy | hy
    · exact J.re y hy
    · have : y = x := by simpa using hy
      subst this
      exact hr.step a
theorem JI.all {ds : List Door} {kn : List Int} (J : JI ds kn []) (cl : ∀ x ∈ kn, ∀ y, Adj ds x y → y ∈ kn) : ∀ x, x ∈ kn ↔ Reach ds x := fun x => ⟨J.re x, fun h => by
  induction h with
  | zero => exact J.z
  | step _ a ih => exact cl _ ih _ a⟩
structure JS (dl : List Door) (h : Int) (m0 : Nat) (kn ln : List Int) (o : Int → Prop) : Prop where
  J : JI dl kn ln
  r : Reach dl h
  cl : ∀ x ∈ kn, x ∉ ln → x ≠ h → ∀ y, Adj dl x y → y ∈ kn
  op : ∀ y, Adj dl h y → y ∈ kn ∨ o y
  m : jm dl kn ln < m0
theorem JS.push {dl : List Door} {h x : Int} {m0 : Nat} {kn ln : List Int} {o o' : Int → Prop} (S : JS dl h m0 kn ln o) (a : Adj dl h x) (nx : x ∉ kn) (ho : ∀ y, o y → y = x ∨ o' y) : JS dl h m0 (kn ++ [x]) (ln ++ [x]) o' := by
  have J := S.J.push S.r a nx
  refine ⟨J, S.r, fun z hz hl ne y hy => ?_, fun y hy => ?_, Nat.lt_trans (jm_push (ln := ln) ⟨J.z, fun z hz => List.mem_append_left _ (S.J.sub z hz), J.nd, J.en, J.re, by have := S.J.ll; simp only [List.length_append]; omega⟩) S.m⟩
  · rcases List.mem_append.mp hz with hz | hz
    · exact List.mem_append_left _ (S.cl z hz (fun q => hl (List.mem_append_left _ q)) ne y hy)
    · exact absurd (List.mem_append_right _ hz) hl
  · rcases S.op y hy with q | q
    · exact .inl (List.mem_append_left _ q)
    · rcases ho y q with rfl | q
      · exact .inl (by simp)
      · exact .inr q
theorem JS.skip {dl : List Door} {h : Int} {m0 : Nat} {kn ln : List Int} {o o' : Int → Prop} (S : JS dl h m0 kn ln o) (ho : ∀ y, o y → y ∈ kn ∨ o' y) : JS dl h m0 kn ln o' :=
  ⟨S.J, S.r, S.cl, fun y hy => (S.op y hy).elim .inl (ho y), S.m⟩
theorem adj_cons {d : Door} {rs : List Door} {a b : Int} (h : Adj (d :: rs) a b) : ((d.near = a ∧ d.far = b) ∨ (d.far = a ∧ d.near = b)) ∨ Adj rs a b := by
  obtain ⟨e, h1, h2⟩ := h
  rcases List.mem_cons.mp h1 with rfl | h1
  · exact .inl h2
  · exact .inr ⟨e, h1, h2⟩
def preJoin : List D → Prop
  | [d] => ∃ ds : List Door, d = .tup (ds.map dDoor) ∧ ds.length ≤ 1000
  | _ => False
def RJoin : List D → Out → Prop
  | [d], o => ∀ ds : List Door, d = .tup (ds.map dDoor) → ∃ kn : List Int, o = .ret true (kns kn) ∧ ∀ x, x ∈ kn ↔ Reach ds x
  | _, _ => False
abbrev sp_joined_rooms (K : PySem.W.Frag) (Tt : List (Addr × Str)) : Sp := PR 1 preJoin RJoin
theorem ok_joined_rooms (T : Txt K mg) (Dd : Def K mg "joined_rooms" s_joined_rooms ["doors"]) :
    Cal P w K mg base 1 "joined_rooms" s_joined_rooms ["doors"] (sp_joined_rooms K Tt) := by
  refine Dd.ok sc_joined_rooms rfl stab0 fun f cdv A outer s H E hr => ⟨_, (pss_cons (ps_par (i := 1) (j := 2) rfl sc_joined_rooms.nd rfl rfl (by decide) rfl rfl (pa_cons (pe_disp (pps_cons (pe_int) (pe_bl) pps_nil) (by rfl) (by rfl) (fun z => by cases z) (by decide)) (pa_cons (pe_lst (pa_cons (pe_int) pa_nil)) pa_nil)) (by rfl))
    (pss_cons (ps_while passOwnU (pt_cmpR (kO (r := rNeD) (op_neU hr) (K := K) rfl) (pv 2) (pe_lst pa_nil) (nomark _)) (pss_cons (ps_set (i := 3) sc_joined_rooms.nd rfl (by first | exact Or.inl rfl | exact Or.inr rfl) (pe_bm0 PySem.F.plainAttrs_list PySem.F.slot_list_pop PySem.F.type_list_pop mt_pop (pv 2)))
    (pss_one (ps_for passOwnU rfl (pi_seq (pv 0)) (pg_tup (n := 4) rfl (pgs_cons (pg_name (i := 4) sc_joined_rooms.nd rfl (by first | exact Or.inl rfl | exact Or.inr rfl)) (pgs_cons (pg_name (i := 5) sc_joined_rooms.nd rfl (by first | exact Or.inl rfl | exact Or.inr rfl)) (pgs_cons (pg_name (i := 6) sc_joined_rooms.nd rfl (by first | exact Or.inl rfl | exact Or.inr rfl)) (pgs_cons (pg_name (i := 7) sc_joined_rooms.nd rfl (by first | exact Or.inl rfl | exact Or.inr rfl)) pgs_nil))))) (pss_one (ps_for passOwnU rfl (pi_seq (pe_tup (pa_cons (pe_tup (pa_cons (pv 4) (pa_cons (pv 6) pa_nil))) (pa_cons (pe_tup (pa_cons (pv 6) (pa_cons (pv 4) pa_nil))) pa_nil)))) (pg_tup (n := 2) rfl (pgs_cons (pg_name (i := 8) sc_joined_rooms.nd rfl (by first | exact Or.inl rfl | exact Or.inr rfl)) (pgs_cons (pg_name (i := 9) sc_joined_rooms.nd rfl (by first | exact Or.inl rfl | exact Or.inr rfl)) pgs_nil))) (pss_one (ps_if (PW.pt (pw_and (pt_cmpR (kO (r := rEqD) (op_eqU hr) (K := K) rfl) (pv 8) (pv 3) (nomark _)) (pw_and1 (pt_cmpR (kO (r := rNotInU) (op_notInU hr) (K := K) rfl) (pv 9) (pv 1) (by rfl))))) (pss_cons (ps_dput (u1 hr) (pv 1) (pv 9) (pe_bl) rfl)
    (pss_one (ps_expr (pe_bm PySem.F.plainAttrs_list PySem.F.slot_list_append PySem.F.type_list_append mt_append (pv 2) (pa_cons (pv 9) pa_nil))))) pss_nil))))))))
    (pss_one (ps_ret (pv 1))))), ?_⟩
  rintro W n0 ds hV hG hE hEP hl hp
  match ds, hl, hp with
  | [_], _, ⟨dl, rfl, hlen⟩ =>
  refine ds_seq (ds_par_oo (df_disp1 (de_int (de_bl ⟨.inl 0, rfl, df_lst (da_cons (de_int (da_nil ⟨szl (by show 1 ≤ 100000; decide), ?_⟩)))⟩))))
  refine ds_seq ?_
  refine ds_whileR (fun m n ρ => ∃ kn ln : List Int, ρ = [some (false, .tup (dl.map dDoor)), some (true, kns kn), some (true, .lst (ln.map D.int)), none, none, none, none, none, none, none] ∧ JI dl kn ln ∧ (∀ x ∈ kn, x ∉ ln → ∀ y, Adj dl x y → y ∈ kn) ∧ m = jm dl kn ln) (jm dl [0] [0]) ⟨_, Rfn.refl _, [0], [0], rfl, ⟨by simp, by simp, by simp, by simp [ends], fun x hx => by
      have : x = 0 := by simpa using hx
      rw [this]; exact .zero, by simp⟩, fun x h1 h2 => absurd h1 h2, rfl⟩ ?_
  rintro m n ρ' ⟨kn, ln, rfl, J, cl, rfl⟩
  repeat' (walk_at "hd1")
  refine r_neNil ⟨_, rfl, fun hb => ?_, fun hb => ?_⟩
  · obtain ⟨l0, h, rfl⟩ := ne_last hb
    have e : (l0 ++ [h]).map D.int = l0.map D.int ++ [D.int h] := by simp
    rw [e]
    have hh : h ∈ kn := J.sub h (by simp)
    have hm : jm dl kn l0 < jm dl kn (l0 ++ [h]) := by unfold jm; simp only [List.length_append, List.length_cons, List.length_nil]; omega
    refine ds_seq (ds_pop rfl ?_)
    refine ds_forR (LW := fun r n ρ => ∃ (kn' ln' : List Int) (rs : List Door), r = rs.map dDoor ∧ (∀ d ∈ rs, d ∈ dl) ∧ ρ = [some (false, .tup (dl.map dDoor)), some (true, kns kn'), some (true, .lst (ln'.map D.int)), some (false, .int h), none, none, none, none, none, none] ∧ JS dl h (jm dl kn (l0 ++ [h])) kn' ln' (Adj rs h)) (di_seqT (de_var rfl ⟨_, rfl, _, Rfn.refl _, kn, l0, dl, rfl, fun _ h => h, rfl, ⟨⟨J.z, fun x hx => J.sub x (List.mem_append_left _ hx), J.nd, J.en, J.re, by have := J.ll; simp only [List.length_append, List.length_cons, List.length_nil] at this; omega⟩, J.re h hh, fun x hx hl ne => cl x hx (fun q => (List.mem_append.mp q).elim hl fun q => ne (by simpa using q)), fun y hy => .inr hy, hm⟩⟩)) ?_ ?_
    · rintro d r n ρ' ⟨kn', ln', rs, hr', hsub, rfl, S⟩
      obtain ⟨dd, rs, rfl⟩ : ∃ dd rs', rs = dd :: rs' := by cases rs with
        | nil => cases hr'
        | cons a b => exact ⟨a, b, rfl⟩
      simp only [List.map_cons, List.cons.injEq] at hr'
      obtain ⟨rfl, rfl⟩ := hr'
      have hdd : dd ∈ dl := hsub dd List.mem_cons_self
      refine' dgx (dg_tup rfl ?_)
      repeat' (walk_at "hd1")
      refine ds_forR (LW := fun r n ρ => ∃ (kn' ln' : List Int), (∀ x ∈ r, ∃ a b, x = .tup [.int a, .int b] ∧ Adj dl a b) ∧ ρ = [some (false, .tup (dl.map dDoor)), some (true, kns kn'), some (true, .lst (ln'.map D.int)), some (false, .int h), some (false, .int dd.near), some (false, .int dd.first), some (false, .int dd.far), some (false, .int dd.second), none, none] ∧ JS dl h (jm dl kn (l0 ++ [h])) kn' ln' (fun y => Adj rs h y ∨ D.tup [.int h, .int y] ∈ r)) (di_seqT (de_tup ?_)) ?_ ?_
      · repeat' (walk_at "hd1")
        refine ⟨_, Rfn.refl _, kn', ln', ?_, rfl, S.skip fun y hy => ?_⟩
        · intro x hx
          simp only [List.mem_cons, List.not_mem_nil, or_false] at hx
          rcases hx with rfl | rfl
          · exact ⟨_, _, rfl, dd, hdd, .inl ⟨rfl, rfl⟩⟩
          · exact ⟨_, _, rfl, dd, hdd, .inr ⟨rfl, rfl⟩⟩
        · rcases adj_cons hy with (⟨h1, h2⟩ | ⟨h1, h2⟩) | h1
          · exact .inr (.inr (by simp [h1, h2]))
          · exact .inr (.inr (by simp [h1, h2]))
          · exact .inr (.inl h1)
      · rintro d r n ρ' ⟨kn2, ln2, hx, rfl, S2⟩
        obtain ⟨a, b, rfl, hab⟩ := hx d List.mem_cons_self
        have hx' : ∀ x ∈ r, ∃ a b, x = .tup [.int a, .int b] ∧ Adj dl a b := fun x q => hx x (List.mem_cons_of_mem _ q)
        refine' dgx (dg_tup rfl ?_)
        repeat' (walk_at "hd1")
        · rename_i ha
          have ha := of_decide_eq_true ha
          subst ha
          refine r_notInDic (k := .inl b) rfl ⟨_, rfl, fun hb => ?_, fun hb => ?_⟩
          · have nb : b ∉ kn2 := by rw [keyIn_inl] at hb; simpa using hb
            repeat' (walk_at "hd1")
            have hb1 := nodup_len S2.J.nd S2.J.en
            have hb2 := S2.J.ll
            rw [ends_len] at hb1
            refine ⟨.inl b, rfl, by rw [List.length_map]; exact szlt (by omega), ?_⟩
            rw [kns_put nb]
            repeat' (walk_at "hd1")
            refine ⟨_, ?_, kn2 ++ [b], ln2 ++ [b], hx', rfl, S2.push hab nb fun y hy => ?_⟩
            · rw [List.map_append]
              repeat' (walk_at "rfn")
            · rcases hy with hy | hy
              · exact .inr (.inl hy)
              · rcases List.mem_cons.mp hy with hy | hy
                · simp at hy; exact .inl hy
                · exact .inr (.inr hy)
          · have yb : b ∈ kn2 := by rw [keyIn_inl] at hb; simpa using hb
            repeat' (walk_at "hd1")
            refine ⟨_, Rfn.keep (Rfn.keep (Rfn.keep (Rfn.keep (Rfn.keep (Rfn.keep (Rfn.keep (Rfn.keep (Rfn.skip (Rfn.skip Rfn.nil))))))))), kn2, ln2, hx', rfl, S2.skip fun y hy => ?_⟩
            rcases hy with hy | hy
            · exact .inr (.inl hy)
            · rcases List.mem_cons.mp hy with hy | hy
              · simp at hy; rw [hy]; exact .inl yb
              · exact .inr (.inr hy)
        · rename_i ha
          have ha := of_decide_eq_false ha
          refine ⟨_, Rfn.keep (Rfn.keep (Rfn.keep (Rfn.keep (Rfn.keep (Rfn.keep (Rfn.keep (Rfn.keep (Rfn.skip (Rfn.skip Rfn.nil))))))))), kn2, ln2, hx', rfl, S2.skip fun y hy => ?_⟩
          rcases hy with hy | hy
          · exact .inr (.inl hy)
          · rcases List.mem_cons.mp hy with hy | hy
            · simp at hy; exact absurd hy.1.symm ha
            · exact .inr (.inr hy)
      · rintro n ρ' ⟨kn2, ln2, hx, rfl, S2⟩
        refine ⟨_, Rfn.keep (Rfn.keep (Rfn.keep (Rfn.keep (Rfn.skip (Rfn.skip (Rfn.skip (Rfn.skip (Rfn.keep (Rfn.keep Rfn.nil))))))))), kn2, ln2, rs, rfl, fun d hd => hsub d (List.mem_cons_of_mem _ hd), rfl, S2.skip fun y hy => ?_⟩
        rcases hy with hy | hy
        · exact .inr hy
        · cases hy
    · rintro n ρ' ⟨kn', ln', rs, hr', hsub, rfl, S⟩
      have e0 : rs = [] := by cases rs with
        | nil => rfl
        | cons a b => cases hr'
      subst e0
      refine ⟨_, S.m, _, ?_, kn', ln', rfl, S.J, fun x hx hl y hy => ?_, rfl⟩
      · repeat' (walk_at "rfn")
      · by_cases e : x = h
        · subst e
          rcases S.op y hy with q | ⟨d, hd, _⟩
          · exact q
          · cases hd
        · exact S.cl x hx hl e y hy
  · have e : ln = [] := by cases ln with
      | nil => rfl
      | cons a b => cases hb
    subst e
    refine ds_ret_own rfl ?_
    intro ds' he
    injection he with he
    rw [← doors_inj he]
    exact ⟨kn, rfl, J.all fun x hx => cl x hx (by simp)⟩
def isNum : D → Bool
  | .int _ => true
  | _ => false
def pre1 : List D → Prop
  | [d] => d.tn.isSome = true
  | _ => False
theorem num_or (d : D) : (∃ i, d = .int i) ∨ isNum d = false := by
  cases d <;> first | exact .inl ⟨_, rfl⟩ | exact .inr rfl
theorem all_pl {ds : List D} (h : ds.all (fun d => d.tn.isSome) = true) : ∀ d ∈ ds, d.tn.isSome = true := fun d hd => List.all_eq_true.mp h d hd
def fNum : List D → Out
  | [d] => .ret false (.bl (isNum d))
  | _ => .ret false .non
abbrev sp_is_number (K : PySem.W.Frag) (Tt : List (Addr × Str)) : Sp := PD 1 pre1 fNum
theorem ok_is_number (T : Txt K mg) (Dd : Def K mg "is_number" s_is_number ["value"]) :
    Cal P w K mg base 1 "is_number" s_is_number ["value"] (sp_is_number K Tt) := by
  refine Dd.ok sc_is_number rfl stab0 fun f cdv A outer s H E hr => ⟨_, (pss_one (ps_ret ((pe_and (pe_callB (kC (r := rIsiU) call_isiU (K := K) rfl) (by rfl) T.b_isinstance bb_isinstance (pa_cons (pv 0) (pa_cons (pe_bltn (v := .ty "int") (by rfl) T.b_int bb_int rfl) pa_nil))) (pe_one (pe_not (pe_callB (kC (r := rIsiU) call_isiU (K := K) rfl) (by rfl) T.b_isinstance bb_isinstance (pa_cons (pv 0) (pa_cons (pe_bltn (v := .ty "bool") (by rfl) T.b_bool bb_bool rfl) pa_nil))))))))), ?_⟩
  rintro W n0 ds hV hG hE hEP hl hp
  match ds, hl with
  | [d], _ =>
  have hd : d.tn.isSome = true := hp
  cases d <;> try exact absurd hd Bool.false_ne_true
  all_goals repeat' (walk_at "hd1")
  all_goals rfl
def belowB (s : Int) : D → Bool
  | .int i => decide (0 ≤ i) && decide (i < s)
  | _ => false
def preBelow : List D → Prop
  | [d, .int _] => d.tn.isSome = true
  | _ => False
def fBelow : List D → Out
  | [d, .int s] => .ret false (.bl (belowB s d))
  | _ => .ret false .non
abbrev sp_is_below (K : PySem.W.Frag) (Tt : List (Addr × Str)) : Sp := PD 2 preBelow fBelow
theorem ok_is_below (T : Txt K mg) (Dd : Def K mg "is_below" s_is_below ["value", "size"])
    (C_is_number : Cal P w K mg base 1 "is_number" s_is_number ["value"] (sp_is_number K Tt)) :
    Cal P w K mg base 2 "is_below" s_is_below ["value", "size"] (sp_is_below K Tt) := by
  refine Dd.ok sc_is_below rfl stab0 fun f cdv A outer s H E hr => ⟨_, (pss_one (ps_ret ((pe_and (pe_cal C_is_number (hr.mono (by decide)) passD (by rfl) (pa_cons (pv 0) pa_nil)) (pe_one (pe_chain op_leU op_ltU (pe_int) (pv 0) (pv 1))))))), ?_⟩
  rintro W n0 ds hV hG hE hEP hl hp
  match ds, hl, hp with
  | [d, .int s], _, hd =>
  have hd : d.tn.isSome = true := hd
  rcases num_or d with ⟨i, rfl⟩ | h0
  · repeat' (walk_at "hd1")
    all_goals simp_all [fBelow, belowB]
    all_goals (try intros; omega)
  · have e : belowB s d = false := by cases d <;> first | rfl | cases h0
    repeat' (walk_at "hd1")
    all_goals first
      | (show Out.ret false (D.bl false) = .ret false (.bl (belowB s d)); rw [e])
      | simp_all
def sgnB : D → Bool
  | .int i => decide (i ≠ 0) && (decide (-999 ≤ i) && decide (i ≤ 999))
  | _ => false
def doorB (r : Int) : D → Bool
  | .tup [n, f, m, s] => belowB r n && belowB r m && (sgnB f && sgnB s)
  | _ => false
/-- plain, a tuple of plain ones -/
def plT : D → Prop
  | .tup ds => ∀ d ∈ ds, d.tn.isSome = true
  | d => d.tn.isSome = true
theorem plT_pl {d : D} (h : plT d) : d.tn.isSome = true := by cases d <;> first | rfl | exact h
def preDoor : List D → Prop
  | [d, .int _] => plT d
  | _ => False
def fDoor : List D → Out
  | [d, .int r] => .ret false (.bl (doorB r d))
  | _ => .ret false .non
abbrev sp_is_door (K : PySem.W.Frag) (Tt : List (Addr × Str)) : Sp := PD 2 preDoor fDoor
theorem ok_is_door (T : Txt K mg) (Dd : Def K mg "is_door" s_is_door ["value", "rooms"])
    (C_is_below : Cal P w K mg base 2 "is_below" s_is_below ["value", "size"] (sp_is_below K Tt))
    (C_is_number : Cal P w K mg base 1 "is_number" s_is_number ["value"] (sp_is_number K Tt)) :
    Cal P w K mg base 3 "is_door" s_is_door ["value", "rooms"] (sp_is_door K Tt) := by
  refine Dd.ok sc_is_door rfl stab0 fun f cdv A outer s H E hr => ⟨_, (pss_cons (ps_if (PW.pt (pw_or (pt_not (pt_val (pe_callB (kC (r := rIsiU) call_isiU (K := K) rfl) (by rfl) T.b_isinstance bb_isinstance (pa_cons (pv 0) (pa_cons (pe_bltn (v := .ty "tuple") (by rfl) T.b_tuple bb_tuple rfl) pa_nil))))) (pw_or1 (pt_cmpR (kO (r := rNeD) (op_neU hr) (K := K) rfl) (pe_callB (kC (r := rLenU) call_lenU (K := K) rfl) (by rfl) T.b_len bb_len (pa_cons (pv 0) pa_nil)) (pe_int) (nomark _))))) (pss_one (ps_ret (pe_bl))) pss_nil)
    (pss_cons (ps_asg (pv 0) (pg_tup (n := 4) rfl (pgs_cons (pg_name (i := 2) sc_is_door.nd rfl (by first | exact Or.inl rfl | exact Or.inr rfl)) (pgs_cons (pg_name (i := 3) sc_is_door.nd rfl (by first | exact Or.inl rfl | exact Or.inr rfl)) (pgs_cons (pg_name (i := 4) sc_is_door.nd rfl (by first | exact Or.inl rfl | exact Or.inr rfl)) (pgs_cons (pg_name (i := 5) sc_is_door.nd rfl (by first | exact Or.inl rfl | exact Or.inr rfl)) pgs_nil))))))
    (pss_cons (ps_if (PW.pt (pw_or (pt_not (pt_val (pe_cal C_is_below (hr.mono (by decide)) passD (by rfl) (pa_cons (pv 2) (pa_cons (pv 1) pa_nil))))) (pw_or1 (pt_not (pt_val (pe_cal C_is_below (hr.mono (by decide)) passD (by rfl) (pa_cons (pv 4) (pa_cons (pv 1) pa_nil)))))))) (pss_one (ps_ret (pe_bl))) pss_nil)
    (pss_one (ps_ret (pe_callB (kC (r := rAll) (cr_all rfl) (K := K) rfl) (by rfl) T.b_all bb_all (pa_cons (pe_lc (own := [("item", 6)]) rfl sc_is_door.nd (pi_seq (pe_tup (pa_cons (pv 3) (pa_cons (pv 5) pa_nil)))) (blkOk_by (own := [("item", 6)]) (N := ["value", "rooms", "near", "first", "far", "second", "item"]) (sc := defScope s_is_door) (by decide +kernel)) (fun _ _ _ _ _ => (pg_name (i := 6) sc_is_door.nd rfl (by first | exact Or.inl rfl | exact Or.inr rfl))) (fun _ _ _ _ _ => pts_nil) (fun _ _ _ _ _ => ((pe_and (pe_cal C_is_number (hr.mono (by decide)) passL (by rfl) (pa_cons (pv 6) pa_nil)) (pe_and (pe_cmpR (kO (r := rNeD) (op_neU hr) (K := K) rfl) (pv 6) (pe_int) (nomark _)) (pe_one (pe_chain op_leU op_leU (pe_un un_neg (pe_gint (by rfl) T.g_GREATEST)) (pv 6) (pe_gint (by rfl) T.g_GREATEST)))))))) pa_nil))))))), ?_⟩
  rintro W n0 ds hV hG hE hEP hl hp
  match ds, hl, hp with
  | [d, .int r], _, hp =>
  have hd : d.tn.isSome = true := plT_pl hp
  by_cases ht : ∃ a b c e, d = .tup [a, b, c, e]
  · obtain ⟨a, b, c, e, rfl⟩ := ht
    have ha : a.tn.isSome = true := hp a (by simp)
    have hb : b.tn.isSome = true := hp b (by simp)
    have hc : c.tn.isSome = true := hp c (by simp)
    have he : e.tn.isSome = true := hp e (by simp)
    have hx : ∀ d ∈ [b, e], d.tn.isSome = true := fun d hd => by
      simp only [List.mem_cons, List.not_mem_nil, or_false] at hd
      rcases hd with rfl | rfl <;> assumption
    repeat' (walk_at "hd1")
    · rename_i h1
      simp_all [fDoor, doorB]
    · rename_i h1 h2
      simp_all [fDoor, doorB]
    · rename_i h1 h2
      refine DF.de (df_lc_map (fun d => .bl (sgnB d)) (noOwn_by rfl) (di_seq (de_tup ?_)) in_self)
      repeat' (walk_at "hd1")
      refine ⟨[b, e], .inr rfl, szl (by show 2 ≤ 100000; decide), fun n d hd => dg_name ?_, fun n => ?_⟩
      · have hdp := hx d hd
        rcases num_or d with ⟨i, rfl⟩ | h0
        · repeat' (walk_at "hd1")
          all_goals simp_all [sgnB, isNum]
          all_goals (try intros; omega)
        · have e : sgnB d = false := by cases d <;> first | rfl | cases h0
          repeat' (walk_at "hd1")
          all_goals simp_all
      · refine da_nil (b_allM ?_)
        simp_all [fDoor, doorB]
  · have hl4 : ∀ l, d = .tup l → (l.length : Int) ≠ 4 := fun l e q => by
      subst e
      rcases l with _ | ⟨x, _ | ⟨y, _ | ⟨z, _ | ⟨u, _ | ⟨v, r⟩⟩⟩⟩⟩
      all_goals first | (simp only [List.length_cons, List.length_nil] at q; omega) | exact ht ⟨x, y, z, u, rfl⟩
    have e : doorB r d = false := by
      cases d with
      | tup l =>
        rcases l with _ | ⟨x, _ | ⟨y, _ | ⟨z, _ | ⟨u, _ | ⟨v, r⟩⟩⟩⟩⟩
        all_goals first | rfl | exact absurd ⟨x, y, z, u, rfl⟩ ht
      | _ => rfl
    cases d
    case tup l hx =>
      have hl3 : (!decide ((l.length : Int) = 4)) = true := by simp [hl4 l rfl]
      repeat' (walk_at "hd1")
      all_goals first
        | (show Out.ret false (D.bl false) = .ret false (.bl (doorB r (.tup l))); rw [e])
        | (rename_i hb'; rw [hl3] at hb'; cases hb')
    all_goals try exact absurd hd Bool.false_ne_true
    all_goals repeat' (walk_at "hd1")
    all_goals rfl
def doorsB (r : Int) : D → Bool
  | .tup ds => decide (ds.length ≤ 20) && ds.all (doorB r)
  | _ => false
def preDoors : List D → Prop
  | [.tup ds, .int _] => ds.length ≤ 1000 ∧ ∀ d ∈ ds, plT d
  | [d, .int _] => d.tn.isSome = true
  | _ => False
def fDoors : List D → Out
  | [d, .int r] => .ret false (.bl (doorsB r d))
  | _ => .ret false .non
abbrev sp_are_doors (K : PySem.W.Frag) (Tt : List (Addr × Str)) : Sp := PD 2 preDoors fDoors
theorem ok_are_doors (T : Txt K mg) (Dd : Def K mg "are_doors" s_are_doors ["value", "rooms"])
    (C_is_door : Cal P w K mg base 3 "is_door" s_is_door ["value", "rooms"] (sp_is_door K Tt)) :
    Cal P w K mg base 4 "are_doors" s_are_doors ["value", "rooms"] (sp_are_doors K Tt) := by
  refine Dd.ok sc_are_doors rfl stab0 fun f cdv A outer s H E hr => ⟨_, (pss_cons (ps_if (PW.pt (pw_or (pt_not (pt_val (pe_callB (kC (r := rIsiU) call_isiU (K := K) rfl) (by rfl) T.b_isinstance bb_isinstance (pa_cons (pv 0) (pa_cons (pe_bltn (v := .ty "tuple") (by rfl) T.b_tuple bb_tuple rfl) pa_nil))))) (pw_or1 (pt_cmpR op_gtU (pe_callB (kC (r := rLenU) call_lenU (K := K) rfl) (by rfl) T.b_len bb_len (pa_cons (pv 0) pa_nil)) (pe_gint (by rfl) T.g_MOST_DOORS) (nomark _))))) (pss_one (ps_ret (pe_bl))) pss_nil)
    (pss_one (ps_ret (pe_callB (kC (r := rAll) (cr_all rfl) (K := K) rfl) (by rfl) T.b_all bb_all (pa_cons (pe_lc (own := [("door", 2)]) rfl sc_are_doors.nd (pi_seq (pv 0)) (blkOk_by (own := [("door", 2)]) (N := ["value", "rooms", "door"]) (sc := defScope s_are_doors) (by decide +kernel)) (fun _ _ _ _ _ => (pg_name (i := 2) sc_are_doors.nd rfl (by first | exact Or.inl rfl | exact Or.inr rfl))) (fun _ _ _ _ _ => pts_nil) (fun _ _ _ _ _ => (pe_cal C_is_door (hr.mono (by decide)) passL (by rfl) (pa_cons (pv 2) (pa_cons (pv 1) pa_nil))))) pa_nil))))), ?_⟩
  rintro W n0 ds hV hG hE hEP hl hp
  match ds, hl with
  | [d, r0], _ =>
  have hr0 : ∃ r, r0 = .int r := by
    cases r0 with
    | int r => exact ⟨r, rfl⟩
    | _ => cases d <;> exact hp.elim
  obtain ⟨r, rfl⟩ := hr0
  have hd : d.tn.isSome = true := by cases d <;> first | rfl | exact hp
  cases d
  case tup l hx =>
    have hp2 : l.length ≤ 1000 ∧ ∀ d ∈ l, plT d := hp
    repeat' (walk_at "hd1")
    · rename_i hb
      have h1 : ¬ (l.length ≤ 20) := by have := of_decide_eq_true hb; omega
      show Out.ret false (.bl false) = .ret false (.bl (decide (l.length ≤ 20) && l.all (doorB r)))
      rw [decide_eq_false h1]; rfl
    · rename_i hb
      have h1 : l.length ≤ 20 := by have := of_decide_eq_false hb; omega
      refine DF.de (df_lc_map (fun d => .bl (doorB r d)) (noOwn_by rfl) (di_seq (de_var rfl ⟨l, .inr rfl, szl (by omega), fun n1 d hm => dg_name ?_, fun n2 => ?_⟩)) in_self)
      · repeat' (walk_at "hd1")
        exact ⟨hp2.2 d hm, _, _, rfl, rfl⟩
      · refine da_nil (b_allM ?_)
        show Out.ret false (.bl (l.all (doorB r))) = .ret false (.bl (decide (l.length ≤ 20) && l.all (doorB r)))
        rw [decide_eq_true h1]; rfl
  all_goals try exact absurd hd Bool.false_ne_true
  all_goals repeat' (walk_at "hd1")
  all_goals exact rfl
def doorOk (r : Int) (d : Door) : Prop := (0 ≤ d.near ∧ d.near < r) ∧ (0 ≤ d.far ∧ d.far < r) ∧ (d.first ≠ 0 ∧ -999 ≤ d.first ∧ d.first ≤ 999) ∧ (d.second ≠ 0 ∧ -999 ≤ d.second ∧ d.second ≤ 999)
structure HouseOk (r : Int) (ds : List Door) : Prop where
  r1 : 1 ≤ r
  r2 : r ≤ 12
  dl : ds.length ≤ 20
  dk : ∀ d ∈ ds, doorOk r d
  con : ∀ x, 0 ≤ x → x < r → Reach ds x
abbrev HH (K : PySem.W.Frag) : Type := Hs (He.ga K "House")
theorem door_b {r : Int} {d : Door} (h : doorOk r d) : doorB r (dDoor d) = true := by
  obtain ⟨⟨h1, h2⟩, ⟨h3, h4⟩, ⟨h5, h6, h7⟩, h8, h9, h10⟩ := h
  show (((decide (0 ≤ d.near) && decide (d.near < r)) && (decide (0 ≤ d.far) && decide (d.far < r))) && ((decide (d.first ≠ 0) && (decide (-999 ≤ d.first) && decide (d.first ≤ 999))) && (decide (d.second ≠ 0) && (decide (-999 ≤ d.second) && decide (d.second ≤ 999))))) = true
  simp [h1, h2, h3, h4, h5, h6, h7, h8, h9, h10]
theorem doors_b {r : Int} {ds : List Door} (h : ∀ d ∈ ds, doorOk r d) (hl : ds.length ≤ 20) : doorsB r (.tup (ds.map dDoor)) = true := by
  show (decide ((ds.map dDoor).length ≤ 20) && (ds.map dDoor).all (doorB r)) = true
  rw [List.length_map, decide_eq_true hl, Bool.true_and, List.all_eq_true]
  intro x hx
  obtain ⟨d, hd, rfl⟩ := List.mem_map.mp hx
  exact door_b (h d hd)
theorem plT_door (d : Door) : plT (dDoor d) := by
  show ∀ x ∈ [D.int d.near, .int d.first, .int d.far, .int d.second], x.tn.isSome = true
  intro x hx
  simp only [List.mem_cons, List.not_mem_nil, or_false] at hx
  rcases hx with rfl | rfl | rfl | rfl <;> rfl
theorem pre_doors {r : Int} {ds : List Door} (hl : ds.length ≤ 1000) : preDoors [.tup (ds.map dDoor), .int r] := ⟨by rw [List.length_map]; exact hl, fun x hx => by
  obtain ⟨d, _, rfl⟩ := List.mem_map.mp hx
  exact plT_door d⟩
/-- plain, or a house -/
def ph (K : PySem.W.Frag) (d : D) : Prop := pc (He.ga K "House") d
def isH (K : PySem.W.Frag) (d : D) : Bool := isC (He.ga K "House") d
theorem isH_house {K : PySem.W.Frag} {h : HH K} : isH K (dHs h) = true := by simp [isH, dHs, isC]
theorem ph_house {K : PySem.W.Frag} {h : HH K} : ph K (dHs h) := .inr ⟨_, _, rfl⟩
mutual
/-- plain at every depth -/
def plB : D → Bool
  | .non => true
  | .bl _ => true
  | .int _ => true
  | .str _ => true
  | .lst l => plsB l
  | .tup l => plsB l
  | .dic _ _ => true
  | .dct => true
  | _ => false
def plsB : List D → Bool
  | [] => true
  | d :: r => plB d && plsB r
end
theorem plB_tn {d : D} (h : plB d = true) : d.tn.isSome = true := by cases d <;> first | rfl | (simp [plB] at h)
theorem plsB_mem : ∀ {l : List D}, plsB l = true → ∀ d ∈ l, plB d = true
  | d :: r, h, x, hx => by
    have h' : plB d = true ∧ plsB r = true := by simpa [plsB] using h
    rcases List.mem_cons.mp hx with rfl | hx
    · exact h'.1
    · exact plsB_mem h'.2 x hx
theorem plB_tup {l : List D} (h : plB (.tup l) = true) : ∀ d ∈ l, plB d = true := plsB_mem (by simpa [plB] using h)
theorem plsB_map {α : Type} {f : α → D} (h : ∀ a, plB (f a) = true) : ∀ l : List α, plsB (l.map f) = true
  | [] => rfl
  | a :: r => by show (plB (f a) && plsB (r.map f)) = true; rw [h a, plsB_map h r]; rfl
def numsB : D → Bool
  | .tup l => l.all isNum
  | _ => false
/-- a pass of the doors -/
def passB (n : Nat) : D → Bool
  | .tup [a, b] => belowB n a && belowB 2 b
  | _ => false
theorem below_inv {s : Int} {d : D} (h : belowB s d = true) : ∃ i, d = .int i ∧ 0 ≤ i ∧ i < s := by
  cases d with
  | int i => simp only [belowB, Bool.and_eq_true, decide_eq_true_iff] at h; exact ⟨i, rfl, h⟩
  | _ => cases h
theorem passB_inv {dl : List Door} {d : D} (h : passB dl.length d = true) : ∃ p, d = dPs p ∧ psOk dl p := by
  cases d with
  | tup l =>
    rcases l with _ | ⟨a, _ | ⟨b, _ | ⟨c, r⟩⟩⟩
    · cases h
    · cases h
    · have h' : (belowB dl.length a && belowB 2 b) = true := h
      rw [Bool.and_eq_true] at h'
      obtain ⟨i, rfl, i1, i2⟩ := below_inv h'.1
      obtain ⟨j, rfl, j1, j2⟩ := below_inv h'.2
      exact ⟨(i, j), rfl, ⟨i1, i2⟩, by omega⟩
    · cases h
  | _ => cases h
theorem passB_ok {dl : List Door} {p : Ps} (h : psOk dl p) : passB dl.length (dPs p) = true := by
  show ((decide (0 ≤ p.1) && decide (p.1 < dl.length)) && (decide (0 ≤ p.2) && decide (p.2 < 2))) = true
  obtain ⟨⟨h1, h2⟩, h3⟩ := h
  rw [decide_eq_true h1, decide_eq_true h2, decide_eq_true (by omega), decide_eq_true (by omega)]; rfl
theorem gat_at {dl : List Door} {p : Ps} (h : psOk dl p) : ∃ d, atI (dl.map dDoor) p.1 = some (dDoor d) ∧ gat dl p = (if p.2 = 0 then d else d.flip) := by
  obtain ⟨⟨h1, h2⟩, _⟩ := h
  have hlt : p.1.toNat < dl.length := by omega
  refine ⟨dl[p.1.toNat], ?_, ?_⟩
  · unfold atI ixN
    rw [List.length_map]
    have e : (if 0 ≤ p.1 ∧ p.1 < dl.length then some p.1.toNat else if p.1 < 0 ∧ 0 ≤ p.1 + dl.length then some (p.1 + dl.length).toNat else none) = some p.1.toNat := by rw [if_pos ⟨h1, h2⟩]
    simp [h1, h2, hlt]
  · unfold gat
    rw [List.getD_eq_getElem?_getD, List.getElem?_eq_getElem hlt]
    rfl
/-- house.doors[at] of a pass -/
theorem r_door {W : Wd} {n : Nat} {ρ : Rho} {K : PySem.W.Frag} {dl : List Door} {p : Ps} {P : Nat → D → Prop} (h : psOk dl p) (k : ∀ d, gat dl p = (if p.2 = 0 then d else d.flip) → P n (dDoor d)) : DR (rIxU K) W n ρ (.tup (dl.map dDoor)) (.int p.1) P := by
  obtain ⟨d, h1, h2⟩ := gat_at h
  exact r_ixT h1 (k d h2)
theorem gat_fin {dl : List Door} {p : Ps} {d : Door} (e : gat dl p = (if p.2 = 0 then d else d.flip)) : (p.2 = 0 → dDoor (gat dl p) = dDoor d) ∧ (p.2 ≠ 0 → dDoor (gat dl p) = dDoor d.flip) := ⟨fun h => by rw [e, if_pos h], fun h => by rw [e, if_neg h]⟩
/-- passes one after another from a room -/
def stepsL (dl : List Door) : Int → List D → Bool
  | _, [] => true
  | r, d :: t => match d with
    | .tup [.int a, .int s] => passB dl.length d && (decide ((gat dl (a, s)).near = r) && stepsL dl (gat dl (a, s)).far t)
    | _ => false
def stepsB (dl : List Door) (r : Int) : D → Bool
  | .tup l => stepsL dl r l
  | _ => false
theorem stepsL_cons {dl : List Door} {r : Int} {d : D} {t : List D} (h : passB dl.length d = false) : stepsL dl r (d :: t) = false := by
  unfold stepsL
  split
  · rw [h]; rfl
  · rfl
theorem stepsL_ps {dl : List Door} {r : Int} {p : Ps} {t : List D} (h : psOk dl p) : stepsL dl r (dPs p :: t) = (decide ((gat dl p).near = r) && stepsL dl (gat dl p).far t) := by
  show (passB dl.length (dPs p) && _) = _
  rw [passB_ok h]; rfl
theorem stepsL_iff {dl : List Door} : ∀ {l : List D} {r : Int}, stepsL dl r l = true ↔ ∃ ps, l = ps.map dPs ∧ chain dl r ps
  | [], r => ⟨fun _ => ⟨[], rfl, True.intro⟩, fun _ => rfl⟩
  | d :: t, r => by
    cases hq : passB dl.length d
    · rw [stepsL_cons hq]
      refine ⟨fun h => (by cases h), fun ⟨ps, h1, h2⟩ => ?_⟩
      cases ps with
      | nil => cases h1
      | cons p ps =>
        simp only [List.map_cons, List.cons.injEq] at h1
        rw [h1.1, passB_ok h2.1] at hq; cases hq
    · obtain ⟨p, rfl, hp⟩ := passB_inv hq
      rw [stepsL_ps hp, Bool.and_eq_true, decide_eq_true_iff, stepsL_iff (l := t)]
      constructor
      · rintro ⟨h1, ps, rfl, h2⟩
        exact ⟨p :: ps, rfl, hp, h1, h2⟩
      · rintro ⟨ps, h1, h2⟩
        cases ps with
        | nil => cases h1
        | cons q ps =>
          simp only [List.map_cons, List.cons.injEq] at h1
          have e := dPs_inj h1.1
          subst e
          exact ⟨h2.2.1, ps, h1.2, h2.2.2⟩
def walkB (r : Int) (dl : List Door) : D → Bool
  | .tup [rm, pl, st] => belowB r rm && (numsB pl && (match rm with
    | .int i => stepsB dl i st
    | _ => false) && match pl, st with
    | .tup a, .tup b => decide (a.length = b.length + 1)
    | _, _ => false)
  | _ => false
theorem nums_inv : ∀ {l : List D}, l.all isNum = true → ∃ xs : List Int, l = xs.map D.int
  | [], _ => ⟨[], rfl⟩
  | d :: r, h => by
    rw [List.all_cons, Bool.and_eq_true] at h
    obtain ⟨xs, rfl⟩ := nums_inv h.2
    cases d with
    | int i => exact ⟨i :: xs, rfl⟩
    | _ => cases h.1
theorem nums_map (xs : List Int) : (xs.map D.int).all isNum = true := by
  rw [List.all_eq_true]
  intro x hx
  obtain ⟨i, _, rfl⟩ := List.mem_map.mp hx
  rfl
theorem walkB_iff {r : Int} {dl : List Door} {d : D} : walkB r dl d = true ↔ ∃ w, d = dWk w ∧ WkOk r dl w := by
  constructor
  · intro h
    unfold walkB at h
    split at h
    · rename_i rm pl st
      simp only [Bool.and_eq_true] at h
      obtain ⟨h1, ⟨h2, h3⟩, h4⟩ := h
      obtain ⟨i, rfl, i0, i1⟩ := below_inv h1
      cases pl with
      | tup a =>
        cases st with
        | tup b =>
          obtain ⟨xs, rfl⟩ := nums_inv h2
          obtain ⟨ps, rfl, hc⟩ := stepsL_iff.mp h3
          have h5 := of_decide_eq_true h4
          rw [List.length_map, List.length_map] at h5
          exact ⟨⟨i, xs, ps⟩, rfl, i0, i1, hc, h5⟩
        | _ => cases h4
      | _ => cases h2
    · cases h
  · rintro ⟨w, rfl, h⟩
    show (belowB r (.int w.room) && ((w.pulls.map D.int).all isNum && stepsL dl w.room (w.passes.map dPs) && decide ((w.pulls.map D.int).length = (w.passes.map dPs).length + 1))) = true
    rw [nums_map, stepsL_iff.mpr ⟨_, rfl, h.ch⟩, List.length_map, List.length_map, decide_eq_true h.ln]
    show ((decide (0 ≤ w.room) && decide (w.room < r)) && _) = true
    rw [decide_eq_true h.r0, decide_eq_true h.r1]; rfl
theorem plB_wk (w : Wk) : plB (dWk w) = true := by
  have h1 : plsB (w.pulls.map D.int) = true := plsB_map (fun _ => rfl) _
  have h2 : plsB (w.passes.map dPs) = true := plsB_map (fun _ => rfl) _
  show (true && (plsB (w.pulls.map D.int) && (plsB (w.passes.map dPs) && true))) = true
  rw [h1, h2]; rfl
/-- a value that may be asked whether it is a walk -/
def wkPre (d : D) : Prop := plB d = true ∧ ∀ a b c, d = .tup [a, b, c] → ∀ l, b = .tup l → l.length ≤ 1000
theorem wkPre_wk {w : Wk} (h : w.pulls.length ≤ 1000) : wkPre (dWk w) := ⟨plB_wk w, fun a b c e l e2 => by
  simp only [dWk, D.tup.injEq, List.cons.injEq] at e
  obtain ⟨_, rfl, _⟩ := e
  cases e2
  rw [List.length_map]; exact h⟩
def preIsWk (K : PySem.W.Frag) (_ : HH K) (v : D) : Prop := wkPre v
def fNeedW (K : PySem.W.Frag) (h : HH K) (v : D) : Out := if walkB h.rooms h.doors v = true then .ret false .non else .exc (He.ga K "BadWalk") [] []
theorem needW_ok {K : PySem.W.Frag} {h : HH K} {w : Wk} (o : WkOk h.rooms h.doors w) : fNeedW K h (dWk w) = .ret false .non := by unfold fNeedW; rw [if_pos (walkB_iff.mpr ⟨w, rfl, o⟩)]
def lvD (dl : List Door) : LF := fun p => (gat dl p).first
def arD (dl : List Door) : LF := fun p => (gat dl p).second
theorem ok_nz {r : Int} {dl : List Door} (O : HouseOk r dl) : nzD dl := fun d hd => ⟨(O.dk d hd).2.2.1.1, (O.dk d hd).2.2.2.1⟩
theorem flipD {r : Int} {dl : List Door} (O : HouseOk r dl) : Flip (psOk dl) (lvD dl) (arD dl) where
  nz := fun p => (gat_nz (ok_nz O) p).1
  nz2 := fun p => (gat_nz (ok_nz O) p).2
  okb := fun p h => bk_ok h
  l := fun p h => by unfold lvD arD; rw [gat_bk h]; rfl
  a := fun p h => by unfold lvD arD; rw [gat_bk h]; rfl
/-- the numbers of a pass -/
theorem gat_num {r : Int} {dl : List Door} (O : HouseOk r dl) (p : Ps) : ((gat dl p).first ≠ 0 ∧ -999 ≤ (gat dl p).first ∧ (gat dl p).first ≤ 999) ∧ ((gat dl p).second ≠ 0 ∧ -999 ≤ (gat dl p).second ∧ (gat dl p).second ≤ 999) := by
  have key : let d := dl.getD p.1.toNat ⟨0, 1, 0, 1⟩; (d.first ≠ 0 ∧ -999 ≤ d.first ∧ d.first ≤ 999) ∧ (d.second ≠ 0 ∧ -999 ≤ d.second ∧ d.second ≤ 999) := by
    rw [List.getD_eq_getElem?_getD]
    cases e : dl[p.1.toNat]? with
    | none => exact ⟨⟨by decide, by decide, by decide⟩, by decide, by decide, by decide⟩
    | some d => exact ⟨(O.dk d (List.mem_of_getElem? e)).2.2.1, (O.dk d (List.mem_of_getElem? e)).2.2.2⟩
  unfold gat
  split
  · exact key
  · exact ⟨key.2, key.1⟩
theorem gat_room {r : Int} {dl : List Door} (O : HouseOk r dl) {p : Ps} (hp : psOk dl p) : (0 ≤ (gat dl p).near ∧ (gat dl p).near < r) ∧ (0 ≤ (gat dl p).far ∧ (gat dl p).far < r) := by
  obtain ⟨⟨h1, h2⟩, _⟩ := hp
  have hlt : p.1.toNat < dl.length := by omega
  have hd := O.dk dl[p.1.toNat] (List.getElem_mem hlt)
  unfold gat
  rw [List.getD_eq_getElem?_getD, List.getElem?_eq_getElem hlt]
  split
  · exact ⟨hd.1, hd.2.1⟩
  · exact ⟨hd.2.1, hd.1⟩
structure HW {K : PySem.W.Frag} (h : HH K) (w : Wk) : Prop where
  H : HouseOk h.rooms h.doors
  W : WkOk h.rooms h.doors w
  len : w.passes.length ≤ 500
theorem HW.pl {K : PySem.W.Frag} {h : HH K} {w : Wk} (o : HW h w) : w.pulls.length ≤ 501 := by have := o.len; have := o.W.ln; omega
theorem HW.pre {K : PySem.W.Frag} {h : HH K} {w : Wk} (o : HW h w) : preIsWk K h (dWk w) := wkPre_wk (by have := o.pl; omega)
theorem HW.ps {K : PySem.W.Frag} {h : HH K} {w : Wk} (o : HW h w) : ∀ p ∈ w.passes, psOk h.doors p := chain_all o.W.ch
theorem HW.carry {K : PySem.W.Frag} {h : HH K} {w : Wk} {lv ar : LF} (o : HW h w) (i : Nat) (t : Int) : HW h (carryW lv ar w i t) := ⟨o.H, carry_WkOk o.W i t, o.len⟩
theorem HW.short {K : PySem.W.Frag} {h : HH K} {w : Wk} {lv ar : LF} (o : HW h w) {i : Nat} (t : turn w i) : HW h (shortW lv ar w i) := ⟨o.H, short_WkOk o.W t, by rw [short_len t]; have := o.len; omega⟩
/-- the pass at a spot, the pulls about it -/
structure AtW {K : PySem.W.Frag} (h : HH K) (w : Wk) (i : Int) : Prop where
  ok : psOk h.doors (pAt w i.toNat)
  p : atI (w.passes.map dPs) i = some (dPs (pAt w i.toNat))
  u : atI (w.pulls.map D.int) i = some (.int (uAt w i.toNat))
  v : atI (w.pulls.map D.int) (i + 1) = some (.int (uAt w (i.toNat + 1)))
theorem atW_p {w : Wk} {i : Int} (i0 : 0 ≤ i) (i1 : i < w.passes.length) : atI (w.passes.map dPs) i = some (dPs (pAt w i.toNat)) := by
  rw [atI_int i0 (by rw [List.length_map]; omega), List.getElem?_map, pAt_some (by omega)]; rfl
theorem atW_u {w : Wk} {i : Int} (i0 : 0 ≤ i) (i1 : i < w.pulls.length) : atI (w.pulls.map D.int) i = some (.int (uAt w i.toNat)) := by
  rw [atI_int i0 (by rw [List.length_map]; omega), List.getElem?_map, uAt_some (by omega)]; rfl
theorem atW_v {w : Wk} {i : Int} (i0 : 0 ≤ i) (i1 : i + 1 < w.pulls.length) : atI (w.pulls.map D.int) (i + 1) = some (.int (uAt w (i.toNat + 1))) := by
  rw [atW_u (by omega) i1, show (i + 1).toNat = i.toNat + 1 by omega]
theorem HW.at {K : PySem.W.Frag} {h : HH K} {w : Wk} (o : HW h w) {i : Int} (i0 : 0 ≤ i) (i1 : i < w.passes.length) : AtW h w i := by
  have hl := o.W.ln
  exact ⟨o.ps _ (List.mem_of_getElem? (pAt_some (by omega))), atW_p i0 i1, atW_u i0 (by omega), atW_v i0 (by omega)⟩
def spotsD {K : PySem.W.Frag} (h : HH K) (w : Wk) : List D := (spotsL (arD h.doors) w).map fun i : Nat => D.int (i : Int)
def trD (w : Wk) : D → Bool
  | .int i => decide (0 ≤ i) && decide (turn w i.toNat)
  | _ => false
def mulD {K : PySem.W.Frag} (h : HH K) (w : Wk) : D → Bool
  | .int i => decide (arD h.doors (pAt w i.toNat) ∣ uAt w (i.toNat + 1))
  | _ => false
theorem upTo_nat (n : Nat) : HD.upTo 0 n = (List.range n).map fun i : Nat => D.int (i : Int) := by
  unfold HD.upTo
  congr 1
  funext i
  rw [Int.zero_add]
theorem spots_eq {K : PySem.W.Frag} {h : HH K} {w : Wk} : ((HD.upTo 0 (w.passes.length - 1)).filter (trD w)).filter (mulD h w) = spotsD h w := by
  unfold spotsD spotsL
  rw [upTo_nat, List.filter_filter, List.filter_map]
  congr 1
  cases e : w.passes.length with
  | zero => rfl
  | succ n =>
    rw [List.range_succ, List.filter_append]
    show _ = _ ++ List.filter _ [n]
    have : ¬ spot (arD h.doors) w n := fun q => by have := q.1.1; omega
    rw [List.filter_cons, decide_eq_false this]
    show _ = _ ++ []
    rw [List.append_nil]
    show List.filter _ (List.range n) = _
    refine List.filter_congr fun i hi => ?_
    show (decide (_ ∣ _) && (decide (0 ≤ (i : Int)) && decide (turn w (i : Int).toNat))) = decide (spot _ w i)
    rw [decide_eq_true (by omega : (0 : Int) ≤ (i : Int)), Bool.true_and, Int.toNat_natCast]
    rw [Bool.eq_iff_iff, Bool.and_eq_true, decide_eq_true_iff, decide_eq_true_iff, decide_eq_true_iff]
    exact ⟨fun q => ⟨q.2, q.1⟩, fun q => ⟨q.2, q.1⟩⟩
def preSpots (K : PySem.W.Frag) (h : HH K) (w : Wk) : Prop := HW h w
theorem cut_to {l : List D} {i : Int} (i0 : 0 ≤ i) (i1 : i ≤ l.length) : HD.cutD l none (some i) = l.take i.toNat := by
  unfold HD.cutD HT.sIx
  dsimp only
  rw [if_neg (by omega), List.drop_zero, Nat.sub_zero, show min i.toNat l.length = i.toNat by omega]
theorem cut_from {l : List D} {i : Int} (i0 : 0 ≤ i) (i1 : i ≤ l.length) : HD.cutD l (some i) none = l.drop i.toNat := by
  unfold HD.cutD HT.sIx
  dsimp only
  rw [if_neg (by omega), show min i.toNat l.length = i.toNat by omega, List.take_of_length_le (by rw [List.length_drop]; omega)]
def preCancel (w : Wk) (i : Int) : Prop := w.pulls.length = w.passes.length + 1 ∧ w.passes.length ≤ 500 ∧ 0 ≤ i ∧ i + 1 < w.passes.length
theorem pre_cancel {K : PySem.W.Frag} {h : HH K} {w : Wk} (o : HW h w) {i : Int} (i0 : 0 ≤ i) (hs : turn w i.toNat) (t : Int) : preCancel (carryW (lvD h.doors) (arD h.doors) w i.toNat t) i := by
  have h1 := hs.1
  refine ⟨(o.carry i.toNat t).W.ln, o.len, i0, ?_⟩
  show i + 1 < (w.passes.length : Int)
  omega
theorem atI0 {x : D} {r : List D} : atI (x :: r) 0 = some x := by
  unfold atI ixN
  simp
theorem pds_map {α : Type} {k : Nat} {f : α → D} (h : ∀ a, pd k (f a) = true) : ∀ l : List α, pds k (l.map f) = true
  | [] => rfl
  | a :: r => by
    show (pd k (f a) && pds k (r.map f)) = true
    rw [h a, pds_map h r]; rfl
theorem pd_ints {α : Type} {f : α → D} (h : ∀ a, pd 59 (f a) = true) (l : List α) : pd 60 (.tup (l.map f)) = true := pds_map h l
theorem pd_spots {K : PySem.W.Frag} (h : HH K) (w : Wk) : pd 60 (.tup (spotsD h w)) = true := pd_ints (fun _ => rfl) _
theorem pd_wk (w : Wk) : pd 60 (dWk w) = true := by
  have h1 : pds 58 (w.pulls.map D.int) = true := pds_map (fun _ => rfl) _
  have h2 : pds 58 (w.passes.map dPs) = true := pds_map (fun _ => rfl) _
  show (true && (pds 58 (w.pulls.map D.int) && (pds 58 (w.passes.map dPs) && true))) = true
  rw [h1, h2]; rfl
theorem pd_nil : pd 60 (.tup []) = true := rfl
abbrev pfD {K : PySem.W.Frag} (h : HH K) (w : Wk) : Wk := pf (lvD h.doors) (arD h.doors) w
theorem HW.pcar {K : PySem.W.Frag} {h : HH K} {w : Wk} (o : HW h w) {i : Int} (i0 : 0 ≤ i) (i1 : i < w.passes.length) (t : Int) : HW h w ∧ 0 ≤ i ∧ i < w.passes.length := ⟨o, i0, i1⟩
theorem spots_head {K : PySem.W.Frag} {h : HH K} {w : Wk} (hne : D.tup (spotsD h w) ≠ .tup []) : ∃ (j : Int) (r : List D), spotsD h w = .int j :: r ∧ 0 ≤ j ∧ spot (arD h.doors) w j.toNat := by
  cases e : spotsL (arD h.doors) w with
  | nil => exact absurd (by unfold spotsD; rw [e]; rfl) hne
  | cons i r =>
    refine ⟨(i : Int), r.map fun i : Nat => D.int (i : Int), by unfold spotsD; rw [e]; rfl, by omega, ?_⟩
    rw [Int.toNat_natCast]
    exact mem_spots.mp (by rw [e]; exact List.mem_cons_self)
theorem spots_none {K : PySem.W.Frag} {h : HH K} {w : Wk} (hn : D.tup (spotsD h w) = .tup []) : ∀ i, ¬ spot (arD h.doors) w i := by
  have e : spotsD h w = [] := by injection hn
  unfold spotsD at e
  exact spots_nil.mp (List.map_eq_nil_iff.mp e)
theorem upTo_succ {lo : Int} {n : Nat} : HD.upTo lo (n + 1) = .int lo :: HD.upTo (lo + 1) n := by
  unfold HD.upTo
  rw [List.range_succ_eq_map]
  simp only [List.map_cons, List.map_map]
  congr 1
  · show D.int (lo + ((0 : Nat) : Int)) = _
    rw [Int.natCast_zero, Int.add_zero]
  · refine List.map_congr_left fun i _ => ?_
    show D.int (lo + ((i + 1 : Nat) : Int)) = _
    congr 1; omega
theorem HW.f {K : PySem.W.Frag} {h : HH K} {w : Wk} (o : HW h w) : Flip (psOk h.doors) (lvD h.doors) (arD h.doors) := flipD o.H
theorem belowB_inv {r : Int} {d : D} (h : belowB r d = true) : ∃ i, d = .int i ∧ 0 ≤ i ∧ i < r := by
  cases d with
  | int i =>
    have h : (decide (0 ≤ i) && decide (i < r)) = true := h
    simp only [Bool.and_eq_true, decide_eq_true_eq] at h
    exact ⟨i, rfl, h⟩
  | _ => cases h
theorem sgnB_inv {d : D} (h : sgnB d = true) : ∃ i, d = .int i ∧ i ≠ 0 ∧ -999 ≤ i ∧ i ≤ 999 := by
  cases d with
  | int i =>
    have h : (decide (i ≠ 0) && (decide (-999 ≤ i) && decide (i ≤ 999))) = true := h
    simp only [Bool.and_eq_true, decide_eq_true_eq] at h
    exact ⟨i, rfl, h⟩
  | _ => cases h
theorem doorB_inv {r : Int} {d : D} (h : doorB r d = true) : ∃ e : Door, d = dDoor e ∧ doorOk r e := by
  cases d with
  | tup l =>
    rcases l with _ | ⟨x, _ | ⟨y, _ | ⟨z, _ | ⟨u, _ | ⟨v, t⟩⟩⟩⟩⟩
    case cons.cons.cons.cons.nil =>
      have h : (belowB r x && belowB r z && (sgnB y && sgnB u)) = true := h
      simp only [Bool.and_eq_true] at h
      obtain ⟨⟨h1, h2⟩, h3, h4⟩ := h
      obtain ⟨a, rfl, a1, a2⟩ := belowB_inv h1
      obtain ⟨c, rfl, c1, c2⟩ := belowB_inv h2
      obtain ⟨b, rfl, b1, b2, b3⟩ := sgnB_inv h3
      obtain ⟨e, rfl, e1, e2, e3⟩ := sgnB_inv h4
      exact ⟨⟨a, b, c, e⟩, rfl, ⟨a1, a2⟩, ⟨c1, c2⟩, ⟨b1, b2, b3⟩, e1, e2, e3⟩
    all_goals cases h
  | _ => cases h
theorem doorsB_inv {r : Int} {d : D} (h : doorsB r d = true) : ∃ dl : List Door, d = .tup (dl.map dDoor) ∧ (∀ e ∈ dl, doorOk r e) ∧ dl.length ≤ 20 := by
  cases d with
  | tup l =>
    have h : (decide (l.length ≤ 20) && l.all (doorB r)) = true := h
    simp only [Bool.and_eq_true, decide_eq_true_eq, List.all_eq_true] at h
    obtain ⟨h1, h2⟩ := h
    have key : ∀ m : List D, (∀ x ∈ m, doorB r x = true) → ∃ dl : List Door, m = dl.map dDoor ∧ ∀ e ∈ dl, doorOk r e := by
      intro m
      induction m with
      | nil => exact fun _ => ⟨[], rfl, fun _ q => (nomatch q)⟩
      | cons a m ih =>
        intro hm
        obtain ⟨e, rfl, he⟩ := doorB_inv (hm a List.mem_cons_self)
        obtain ⟨dl, rfl, hd⟩ := ih fun x hx => hm x (List.mem_cons_of_mem _ hx)
        exact ⟨e :: dl, rfl, fun x hx => (List.mem_cons.mp hx).elim (fun q => by rw [q]; exact he) (hd x)⟩
    obtain ⟨dl, rfl, hd⟩ := key l h2
    exact ⟨dl, rfl, hd, by rw [List.length_map] at h1; exact h1⟩
  | _ => cases h
/-- what House(x, d) comes to -/
structure RHo (K : PySem.W.Frag) (x d : D) (o : Out) : Prop where
  br : (¬ ∃ r, x = .int r ∧ 1 ≤ r ∧ r ≤ 12) → o = .exc (He.ga K "BadRooms") [] []
  bd : ∀ r, x = .int r → 1 ≤ r → r ≤ 12 → doorsB r d = false → o = .exc (He.ga K "BadDoors") [] []
  ok : ∀ (r : Int) (dl : List Door), x = .int r → d = .tup (dl.map dDoor) → HouseOk r dl → o = .ret true (dHs (⟨r, dl⟩ : HH K))
  ap : ∀ (r : Int) (dl : List Door) (i : Int), x = .int r → d = .tup (dl.map dDoor) → 1 ≤ r → r ≤ 12 → (∀ e ∈ dl, doorOk r e) → dl.length ≤ 20 → (0 ≤ i ∧ i < r) → ¬ Reach dl i → (∀ j, 0 ≤ j → j < i → Reach dl j) → o = .exc (He.ga K "Apart") ["room"] [.int i]
theorem tup_doors {a b : List Door} (h : D.tup (a.map dDoor) = .tup (b.map dDoor)) : a = b := by
  injection h with h
  exact doors_inj h
theorem RHo.mBR {K : PySem.W.Frag} {x d : D} (h : ¬ ∃ r, x = .int r ∧ 1 ≤ r ∧ r ≤ 12) : RHo K x d (.exc (He.ga K "BadRooms") [] []) :=
  ⟨fun _ => rfl, fun r e h1 h2 => absurd ⟨r, e, h1, h2⟩ h, fun r dl e _ O => absurd ⟨r, e, O.r1, O.r2⟩ h, fun r dl i e _ h1 h2 => absurd ⟨r, e, h1, h2⟩ h⟩
theorem RHo.mBD {K : PySem.W.Frag} {r : Int} {d : D} (h1 : 1 ≤ r) (h2 : r ≤ 12) (h : doorsB r d = false) : RHo K (.int r) d (.exc (He.ga K "BadDoors") [] []) := by
  refine ⟨fun z => absurd ⟨r, rfl, h1, h2⟩ z, fun _ _ _ _ _ => rfl, fun r' dl e e2 O => ?_, fun r' dl i e e2 _ _ dk l20 => ?_⟩
  · injection e with e
    subst e e2
    rw [doors_b O.dk O.dl] at h
    cases h
  · injection e with e
    subst e e2
    rw [doors_b dk l20] at h
    cases h
theorem RHo.mOk {K : PySem.W.Frag} {r : Int} {dl : List Door} (O : HouseOk r dl) : RHo K (.int r) (.tup (dl.map dDoor)) (.ret true (dHs (⟨r, dl⟩ : HH K))) := by
  refine ⟨fun z => absurd ⟨r, rfl, O.r1, O.r2⟩ z, fun r' e _ _ h => ?_, fun r' dl' e e2 _ => ?_, fun r' dl' i e e2 _ _ _ _ hi hn => ?_⟩
  · injection e with e
    subst e
    rw [doors_b O.dk O.dl] at h
    cases h
  · injection e with e
    have e2 := tup_doors e2
    subst e e2
    rfl
  · injection e with e
    have e2 := tup_doors e2
    subst e e2
    exact absurd (O.con i hi.1 hi.2) hn
theorem RHo.mAp {K : PySem.W.Frag} {r i : Int} {dl : List Door} (h1 : 1 ≤ r) (h2 : r ≤ 12) (dk : ∀ e ∈ dl, doorOk r e) (l20 : dl.length ≤ 20) (hi : 0 ≤ i ∧ i < r) (hn : ¬ Reach dl i) (hj : ∀ j, 0 ≤ j → j < i → Reach dl j) : RHo K (.int r) (.tup (dl.map dDoor)) (.exc (He.ga K "Apart") ["room"] [.int i]) := by
  refine ⟨fun z => absurd ⟨r, rfl, h1, h2⟩ z, fun r' e _ _ h => ?_, fun r' dl' e e2 O => ?_, fun r' dl' i' e e2 _ _ _ _ hi' hn' hj' => ?_⟩
  · injection e with e
    subst e
    rw [doors_b dk l20] at h
    cases h
  · injection e with e
    have e2 := tup_doors e2
    subst e e2
    exact absurd (O.con i hi.1 hi.2) hn
  · injection e with e
    have e2 := tup_doors e2
    subst e e2
    have : i = i' := by
      rcases Int.lt_trichotomy i i' with z | z | z
      · exact absurd (hj' i hi.1 z) hn
      · exact z
      · exact absurd (hj i' hi'.1 z) hn'
    rw [this]
theorem least_un {dl : List Door} : ∀ (n : Nat), (∃ i : Int, (0 ≤ i ∧ i < n) ∧ ¬ Reach dl i) → ∃ i : Int, (0 ≤ i ∧ i < n) ∧ ¬ Reach dl i ∧ ∀ j, 0 ≤ j → j < i → Reach dl j
  | 0, ⟨i, h, _⟩ => absurd h (by omega)
  | n + 1, ⟨i, h, hi⟩ => by
    by_cases q : ∃ i : Int, (0 ≤ i ∧ i < n) ∧ ¬ Reach dl i
    · obtain ⟨k, k1, k2⟩ := least_un n q
      exact ⟨k, ⟨k1.1, by omega⟩, k2⟩
    · have hj : ∀ j : Int, 0 ≤ j → j < n → Reach dl j := fun j j0 j1 => Classical.byContradiction fun z => q ⟨j, ⟨j0, j1⟩, z⟩
      have e : i = n := by
        rcases Int.lt_or_le i n with z | z
        · exact absurd (hj i h.1 z) hi
        · omega
      exact ⟨i, h, hi, fun j j0 j1 => hj j j0 (by omega)⟩
theorem RHo.uniq {K : PySem.W.Frag} {x d : D} {o o' : Out} (h : RHo K x d o) (h' : RHo K x d o') : o = o' := by
  by_cases hr : ∃ r, x = .int r ∧ 1 ≤ r ∧ r ≤ 12
  · obtain ⟨r, rfl, r1, r2⟩ := hr
    by_cases hb : doorsB r d = true
    · obtain ⟨dl, rfl, dk, l20⟩ := doorsB_inv hb
      by_cases hc : ∃ i : Int, (0 ≤ i ∧ i < (r.toNat : Int)) ∧ ¬ Reach dl i
      · obtain ⟨i, i1, i2, i3⟩ := least_un _ hc
        have i1 : 0 ≤ i ∧ i < r := by omega
        rw [h.ap r dl i rfl rfl r1 r2 dk l20 i1 i2 i3, h'.ap r dl i rfl rfl r1 r2 dk l20 i1 i2 i3]
      · have O : HouseOk r dl := ⟨r1, r2, l20, dk, fun y y0 y1 => Classical.byContradiction fun z => hc ⟨y, by omega, z⟩⟩
        rw [h.ok r dl rfl rfl O, h'.ok r dl rfl rfl O]
    · have hb : doorsB r d = false := by simpa using hb
      rw [h.bd r rfl r1 r2 hb, h'.bd r rfl r1 r2 hb]
  · rw [h.br hr, h'.br hr]
noncomputable def fHX (K : PySem.W.Frag) (x d : D) : Out := @dite _ (∃ o, RHo K x d o) (Classical.propDecidable _) (fun h => Classical.choose h) fun _ => .ret false .non
theorem fHX_eq {K : PySem.W.Frag} {x d : D} {o : Out} (h : RHo K x d o) : fHX K x d = o := by
  unfold fHX
  have hx : ∃ o, RHo K x d o := ⟨o, h⟩
  rw [dif_pos hx]
  exact (Classical.choose_spec hx).uniq h
instance doorDec : DecidableEq Door := fun a b => if h : a.near = b.near ∧ a.first = b.first ∧ a.far = b.far ∧ a.second = b.second then isTrue (by obtain ⟨x, y, z, u⟩ := a; obtain ⟨x', y', z', u'⟩ := b; obtain ⟨h1, h2, h3, h4⟩ := h; dsimp only at h1 h2 h3 h4; rw [h1, h2, h3, h4]) else isFalse fun e => h (by rw [e]; exact ⟨rfl, rfl, rfl, rfl⟩)
def unDoor : D → Door
  | .tup [.int a, .int b, .int c, .int d] => ⟨a, b, c, d⟩
  | _ => ⟨0, 1, 0, 1⟩
def unH (K : PySem.W.Frag) : D → HH K
  | .ins _ _ [.int r, .tup l] => ⟨r, l.map unDoor⟩
  | _ => ⟨0, []⟩
theorem unH_h {K : PySem.W.Frag} (h : HH K) : unH K (dHs h) = h := by
  show (⟨h.rooms, (h.doors.map dDoor).map unDoor⟩ : HH K) = h
  have h1 : (h.doors.map dDoor).map unDoor = h.doors := by rw [List.map_map]; exact List.map_id' _
  rw [h1]
def heqB (K : PySem.W.Frag) (h : HH K) (d : D) : Bool := isH K d && (decide (h.rooms = (unH K d).rooms) && decide (h.doors = (unH K d).doors))
theorem heqB_pl {K : PySem.W.Frag} {h : HH K} {d : D} (hd : d.tn.isSome = true) : heqB K h d = false := by
  have : isH K d = false := by cases d <;> first | rfl | cases hd
  unfold heqB; rw [this]; rfl
theorem heqB_h {K : PySem.W.Frag} {h g : HH K} : heqB K h (dHs g) = (decide (h.rooms = g.rooms) && decide (h.doors = g.doors)) := by
  unfold heqB; rw [isH_house, unH_h]; rfl
def preHX (x d : D) : Prop := x.tn.isSome = true ∧ d.tn.isSome = true ∧ ∀ l, d = .tup l → l.length ≤ 1000 ∧ ∀ e ∈ l, plT e
theorem pre_dd {r : Int} {d : D} (h1 : d.tn.isSome = true) (h : ∀ l, d = .tup l → l.length ≤ 1000 ∧ ∀ e ∈ l, plT e) : preDoors [d, .int r] := by
  cases d with
  | tup l => exact h l rfl
  | _ => exact h1
theorem preHX_d {r : Int} {dl : List Door} (h : dl.length ≤ 1000) : preHX (.int r) (.tup (dl.map dDoor)) := ⟨rfl, rfl, fun l e => by
  injection e with e
  rw [← e, List.length_map]
  refine ⟨h, fun x hx => ?_⟩
  obtain ⟨d, _, rfl⟩ := List.mem_map.mp hx
  exact plT_door d⟩
abbrev sp_House (K : PySem.W.Frag) (Tt : List (Addr × Str)) : Sp := PF2 preHX (fHX K)
theorem ok_House (T : Txt K mg) (Dd : DefI K mg "House" "House.__init__" s_House_init ["rooms", "doors"] (He.ga K "House"))
    (C_joined_rooms : Cal P w K mg base 1 "joined_rooms" s_joined_rooms ["doors"] (sp_joined_rooms K Tt))
    (C_are_doors : Cal P w K mg base 4 "are_doors" s_are_doors ["value", "rooms"] (sp_are_doors K Tt))
    (C_is_number : Cal P w K mg base 1 "is_number" s_is_number ["value"] (sp_is_number K Tt))
    (C_Apart : SupOk P w K mg base 1 "Apart" (He.ga K "Apart") "room") :
    CalC P w K mg base 5 "House" "House.__init__" s_House_init ["rooms", "doors"] (He.ga K "House") (sp_House K Tt) := by
  refine Dd.ok sc_House_init rfl stab0 fun f cdv A outer s H E hr => ⟨_, (pss_cons (ps_if (PW.pt (pw_or (pt_not (pt_val (pe_cal C_is_number (hr.mono (by decide)) passD (by rfl) (pa_cons (pv 1) pa_nil)))) (pw_or1 (pt_not (pt_chain op_leU op_leU (pe_int) (pv 1) (pe_gint (by rfl) T.g_MOST_ROOMS)))))) (pss_one (ps_raise rfl (takes_of rfl rfl rfl rfl) (T.x_BadRooms.mk' (by rfl)))) pss_nil)
    (pss_cons (ps_if (pt_not (pt_val (pe_cal C_are_doors (hr.mono (by decide)) passD (by rfl) (pa_cons (pv 2) (pa_cons (pv 1) pa_nil))))) (pss_one (ps_raise rfl (takes_of rfl rfl rfl rfl) (T.x_BadDoors.mk' (by rfl)))) pss_nil)
    (pss_cons (ps_set (i := 3) sc_House_init.nd rfl (by first | exact Or.inl rfl | exact Or.inr rfl) (pe_cal C_joined_rooms (hr.mono (by decide)) passD (by rfl) (pa_cons (pv 2) pa_nil)))
    (pss_cons (ps_for passOwnU rfl (pi_range1 (by rfl) T.b_range (pa_cons (pv 1) pa_nil)) (pg_name (i := 4) sc_House_init.nd rfl (by first | exact Or.inl rfl | exact Or.inr rfl)) (pss_one (ps_if (pt_cmpR (kO (r := rNotInU) (op_notInU hr) (K := K) rfl) (pv 4) (pv 3) (by rfl)) (pss_one (ps_raiseSup C_Apart (hr.mono (by decide)) passL (by rfl) rfl (takes_of rfl rfl rfl rfl) (pv 4))) pss_nil)))
    (pss_cons (ps_fld (pv 0) (pv 1) rfl)
    (pss_one (ps_fld (pv 0) (pv 2) rfl))))))), ?_⟩
  rintro x dx W n0 ds hV hG hE hEP hl hp
  match ds, hl, hp with
  | _, _, ⟨xv, d, rfl, hx, hd, hdl⟩ =>
  dsimp only [enc_D]
  have cl := T.cl_House
  have fin : ∀ fr dd, RHo K xv d (.ret fr dd) → ∀ (a0 : D) (a1 : D), [Enc.e xv, Enc.e d] = [Enc.e a0, Enc.e a1] → Out.ret fr dd = fHX K a0 a1 := fun fr dd m => pf2_post (out := fHX K) (a0 := xv) (a1 := d) (fHX_eq m).symm
  have ep : ∀ n C ns l, RHo K xv d (.exc C ns l) → W.EP n C ns l := fun n C ns l m => by
    rw [hEP]
    exact pf2_post (fHX_eq m).symm
  by_cases hr : ∃ r, xv = .int r ∧ 1 ≤ r ∧ r ≤ 12
  · obtain ⟨r, rfl, r1, r2⟩ := hr
    have pdd := pre_dd (r := r) hd hdl
    have e1 : fNum [.int r] = .ret false (.bl true) := rfl
    by_cases hb : doorsB r d = true
    · obtain ⟨dl, rfl, dk, l20⟩ := doorsB_inv hb
      have e2 : fDoors [.tup (dl.map dDoor), .int r] = .ret false (.bl true) := by show Out.ret false (.bl (doorsB r _)) = _; rw [hb]
      refine dsi_do ?_
      repeat' (walk_at "hd2")
      refine dsi_do ?_
      repeat' (walk_at "hd2")
      refine dsi_do ?_
      refine ds_own (df_rel (da_cons (de_var rfl (da_nil ⟨rfl, ⟨dl, rfl, by omega⟩, fun o ho => ?_⟩))))
      obtain ⟨kn, rfl, hkn⟩ := ho dl rfl
      refine ⟨_, rfl, ?_⟩
      refine dsi_do ?_
      refine ds_forR (LW := fun rs n ρ => ∃ (k : Int) (m : Nat), rs = HD.upTo k m ∧ k + m = r ∧ 0 ≤ k ∧ (∀ j, 0 ≤ j → j < k → Reach dl j) ∧ ρ = [some (false, .raw x), some (false, .int r), some (false, .tup (dl.map dDoor)), some (true, kns kn), none]) (di_range1 (da_cons (de_var rfl (da_nil ⟨r, rfl, by omega, by omega, _, Rfn.refl _, 0, r.toNat, rfl, by omega, by omega, fun j j0 j1 => absurd j1 (by omega), rfl⟩)))) ?_ ?_
      · rintro d rs n ρ' ⟨k, m, hrs, hkm, k0, hj, rfl⟩
        cases m with
        | zero => cases hrs
        | succ m =>
        rw [upTo_succ] at hrs
        simp only [List.cons.injEq] at hrs
        obtain ⟨rfl, rfl⟩ := hrs
        repeat' (walk_at "hd2")
        refine r_notInDic (k := .inl k) rfl ⟨_, rfl, fun hb => ?_, fun hb => ?_⟩
        · rw [keyIn_inl] at hb
          have hk : ¬ Reach dl k := fun q => by simp [(hkn k).mpr q] at hb
          repeat' (walk_at "hd2")
          exact ep _ _ _ _ (.mAp r1 r2 dk l20 ⟨by omega, by omega⟩ hk hj)
        · rw [keyIn_inl] at hb
          have hk : Reach dl k := (hkn k).mp (by simpa using hb)
          exact ds_next ⟨_, Rfn.keep (Rfn.keep (Rfn.keep (Rfn.keep (Rfn.skip Rfn.nil)))), k + 1, m, rfl, by omega, by omega, fun j j0 j1 => by
            by_cases e : j = k
            · rw [e]; exact hk
            · exact hj j j0 (by omega), rfl⟩
      · rintro n ρ' ⟨k, m, hrs, hkm, k0, hj, rfl⟩
        cases m with
        | succ m => rw [upTo_succ] at hrs; cases hrs
        | zero =>
        have O : HouseOk r dl := ⟨r1, r2, l20, dk, fun j j0 j1 => hj j j0 (by omega)⟩
        refine dsi_seq (dsi_fld rfl cl.I.cl (cl.na _ (by simp)) (by simp) (by simp) (de_var rfl ?_))
        refine dsi_fld rfl cl.I.cl (cl.na _ (by simp)) (by decide) (by simp) (de_var rfl ?_)
        exact fin _ _ (.mOk O)
    · have hb : doorsB r d = false := by simpa using hb
      have e2 : fDoors [d, .int r] = .ret false (.bl false) := by show Out.ret false (.bl (doorsB r _)) = _; rw [hb]
      refine dsi_do ?_
      repeat' (walk_at "hd2")
      refine dsi_do ?_
      repeat' (walk_at "hd2")
      exact ep _ _ _ _ (.mBD r1 r2 hb)
  · refine dsi_do ?_
    rcases num_or xv with ⟨i, rfl⟩ | h0
    · have e1 : fNum [.int i] = .ret false (.bl true) := rfl
      by_cases i1 : 1 ≤ i
      · have i2 : ¬ i ≤ 12 := fun z => hr ⟨i, rfl, i1, z⟩
        repeat' (walk_at "hd2")
        exact ep _ _ _ _ (.mBR hr)
      · repeat' (walk_at "hd2")
        exact ep _ _ _ _ (.mBR hr)
    · have e1 : fNum [xv] = .ret false (.bl false) := by show Out.ret false (.bl (isNum xv)) = _; rw [h0]
      repeat' (walk_at "hd2")
      exact ep _ _ _ _ (.mBR hr)
def preHEq (K : PySem.W.Frag) (_ : HH K) (d : D) : Prop := d.tn.isSome = true ∨ ∃ g : HH K, d = dHs g
def fHEq (K : PySem.W.Frag) (h : HH K) (d : D) : Out := .ret false (.bl (heqB K h d))
abbrev sp_House_eq (K : PySem.W.Frag) (Tt : List (Addr × Str)) : Sp := PF2 (preHEq K) (fHEq K)
theorem ok_House_eq (T : Txt K mg) (Dd : DefM K (He.ga K "House") "__eq__" "House.__eq__" s_House_eq ["self", "other"]) :
    CalM P w K mg base 1 (He.ga K "House") "__eq__" ["self", "other"] (sp_House_eq K Tt) := by
  refine Dd.okF2 sc_House_eq rfl fun f cdv A outer s H E hr => ⟨_, (pss_one (ps_ret ((pe_and (pe_callB (kC (r := rIsiU) call_isiU (K := K) rfl) (by rfl) T.b_isinstance bb_isinstance (pa_cons (pv 1) (pa_cons (pe_glob (v := .ref _) (by rfl) T.c_House rfl) pa_nil))) (pe_and (pe_cmpR (kO (r := rEqD) (op_eqU hr) (K := K) rfl) (pe_fldK (K := K) rfl (pv 0) rfl) (pe_fldK (K := K) rfl (pv 1) rfl) (nomark _)) (pe_one (pe_cmpR (kO (r := rEqD) (op_eqU hr) (K := K) rfl) (pe_fldK (K := K) rfl (pv 0) rfl) (pe_fldK (K := K) rfl (pv 1) rfl) (nomark _)))))))), ?_⟩
  rintro W n0 h d hV hG hE hEP hp
  dsimp only [enc_D, enc_int, enc_ps, enc_wk, enc_dl, enc_nl, enc_hs]
  have cl := T.cl_House
  rcases hp with hd | ⟨g, rfl⟩
  · have e : fHEq K h d = .ret false (.bl false) := by unfold fHEq; rw [heqB_pl hd]
    have hp' : pc (He.ga K "House") d := .inl hd
    have hn : isC (He.ga K "House") d = false := by cases d <;> first | rfl | cases hd
    repeat' (walk_at "hd2")
    exact e.symm
  · have hp' : pc (He.ga K "House") (dHs g) := .inr ⟨_, _, rfl⟩
    have hn : isC (He.ga K "House") (dHs g) = true := isH_house
    have e : fHEq K h (dHs g) = .ret false (.bl (decide (h.rooms = g.rooms) && decide (h.doors = g.doors))) := by unfold fHEq; rw [heqB_h]
    have q1 : pd 60 (.tup (h.doors.map dDoor)) = true := pds_map (fun _ => rfl) _
    have q2 : pd 60 (.tup (g.doors.map dDoor)) = true := pds_map (fun _ => rfl) _
    repeat' (walk_at "hd2")
    · rename_i h1 b hb
      rw [e, h1, Bool.true_and]
      congr 2
      rw [Bool.eq_iff_iff, hb, decide_eq_true_iff]
      exact ⟨fun q => tup_doors q, fun q => by rw [q]⟩
    · rename_i h1
      rw [e, h1]; rfl
end
section
variable {P : Program} {w : World} {K : PySem.W.Frag} {mg : Str → Option Value} {base : Heap} {Tt : List (Addr × Str)} {c Pt : Addr}
end
/-- what the draws ask of the module's names -/
structure Txd (mg : Str → Option Value) : Prop where
  b_len : mg "len" = none
  b_int : mg "int" = none
  b_abs : mg "abs" = none

/-! ### the draws -/
section
variable {P : Program} {w : World} {K : PySem.W.Frag} {mg : Str → Option Value} {base : Heap} {Tt : List (Addr × Str)}
theorem ok__law_begun (T : Txd mg) (Dd : Def K mg "_law_begun" s__law_begun ["_law_script"]) : Cal P w K mg base 1 "_law_begun" s__law_begun ["_law_script"] (spBegun K) := by
  refine Dd.raw sc__law_begun (fun vs H Q E ⟨a, ns, h, _⟩ => by rw [h]; rfl) fun f cdv A outer s H vs Q E hr hq => ⟨_, (pss_cons (ps_setLc (i := 1) (own := [("_law_cell", 2)]) rfl sc__law_begun.nd rfl rfl (sw_true rfl rfl rfl (by decide +kernel)) (pi_seq (pv 0)) (blkOk_by (own := [("_law_cell", 2)]) (N := ["_law_script", "_law_great", "_law_cell"]) (sc := defScope s__law_begun) (by decide +kernel)) (fun _ _ _ _ _ => (pg_name (i := 2) sc__law_begun.nd rfl (by first | exact Or.inl rfl | exact Or.inr rfl))) (fun _ _ _ _ _ => (pts_one (pt_cmpR op_geU (pe_callB call_absU (by rfl) T.b_abs bb_abs (pa_cons (pv 2) pa_nil)) (pe_op op_powU (pe_int) (pe_int)) (nomark _)))) (fun _ _ _ _ _ => (pe_op op_subU (pe_callB call_absU (by rfl) T.b_abs bb_abs (pa_cons (pv 2) pa_nil)) (pe_op op_powU (pe_int) (pe_int)))))
    (pss_one (ps_ret (pe_disp (pps_cons (pe_str) (pv 1) (pps_cons (pe_str) (pe_lc (own := [("_law_cell", 2)]) rfl sc__law_begun.nd (pi_seq (pv 0)) (blkOk_by (own := [("_law_cell", 2)]) (N := ["_law_script", "_law_great", "_law_cell"]) (sc := defScope s__law_begun) (by decide +kernel)) (fun _ _ _ _ _ => (pg_name (i := 2) sc__law_begun.nd rfl (by first | exact Or.inl rfl | exact Or.inr rfl))) (fun _ _ _ _ _ => pts_nil) (fun _ _ _ _ _ => (pe_callB call_absU (by rfl) T.b_abs bb_abs (pa_cons (pv 2) pa_nil)))) (pps_cons (pe_str) (pe_int) (pps_cons (pe_str) (pe_int) pps_nil)))) (by rfl) (by rfl) (fun z => by cases z) (by decide))))), ?_⟩
  obtain ⟨a, ns, rfl, hsq, hl, q⟩ := hq
  obtain ⟨tr, hs⟩ := scr_of hsq
  have e0 : Env (Wscr K tr a (ns.map .int) H E hs) 0 [] [] [some (false, .raw a), none, none] (L2.start ["_law_script", "_law_great", "_law_cell"] [.ref a]) H :=
    env_slots ⟨.raw a, trivial⟩ (fun _ _ h _ => h) hs
  have pw : ((10 : Int) ^ (18 : Int).toNat) = 1000000000000000000 := by decide
  refine (show DS (tAsg _ _) (Wscr K tr a (ns.map .int) H E hs) 0 [some (false, .raw a), none, none] (fun _ ρ => ∃ gr : List Int, (∀ x ∈ gr, 0 ≤ x) ∧ ρ = [some (false, .raw a), some (true, .lst (gr.map D.int)), none]) (fun _ _ _ => False) (fun _ _ => False) (fun _ _ => False) from ds_own ?c1) [] [] _ H e0 _ ⟨fun n ρ σ H1 hN e => ?_, fun _ _ _ _ h => h.elim, fun _ _ _ _ _ h => h.elim, fun _ _ _ _ h => h.elim, fun _ _ _ _ h => h.elim⟩
  case c1 =>
    refine df_lc (noOwn_by rfl) in_self (di_script (ns := ns) (fun n H h => Scr.sq h) (de_var rfl ⟨rfl, fun i _ acc => acc.length ≤ i ∧ i ≤ ns.length ∧ ∃ gr : List Int, (∀ x ∈ gr, 0 ≤ x) ∧ acc = gr.map D.int, ⟨Nat.le_refl _, Nat.zero_le _, [], (fun _ h => nomatch h), rfl⟩, fun i n d acc hd ⟨h1, h2, gr, h3, h4⟩ => dg_name ?_, fun n acc ⟨_, _, gr, h3, h4⟩ => ⟨gr, h3, by rw [h4]; rfl⟩⟩))
    rw [List.getElem?_map] at hd
    obtain ⟨z, hz, rfl⟩ := Option.map_eq_some_iff.mp hd
    have hi : i < ns.length := (List.getElem?_eq_some_iff.mp hz).1
    repeat' (walk_at "hd1")
    · rename_i hb
      rw [pw] at hb
      have hb2 := of_decide_eq_true hb
      refine ⟨by rw [List.length_append]; simpa using h1, hi, gr ++ [(if z < 0 then -z else z) - (10 : Int) ^ (18 : Int).toNat], fun x hx => ?_, by rw [h4, List.map_append]; rfl⟩
      rcases List.mem_append.mp hx with hx | hx
      · exact h3 x hx
      · have : x = (if z < 0 then -z else z) - (10 : Int) ^ (18 : Int).toNat := by simpa using hx
        rw [this, pw]; omega
    · exact ⟨by omega, hi, gr, h3, h4⟩
  obtain ⟨gr, hgr, rfl⟩ := hN
  obtain ⟨g, o, hg, hgH, hob, hg0, _⟩ := e.ow 1 _ rfl
  cases hob with
  | @lst xs _ hall =>
  have hx := all_ints hall
  subst hx
  intro p hp
  refine ⟨_, hg, ?_⟩
  have e1 := e.lay (o := .dK []) hp
  dsimp only [tPairs, tC]
  refine (show DF _ (Wscr K tr a (ns.map .int) H E hs) n [some (false, .raw a), some (true, .lst (gr.map D.int)), none] (fun _ d => ∃ zs : List Int, d = .lst (zs.map D.int)) from ?c2) [(p, .dK [])] [] σ _ e1 _ fun n2 c oc d H2 ⟨zs, hd⟩ e2 ho => ?_
  case c2 =>
    refine df_lc_each (fun _ y => ∃ z, y = D.int z) (noOwn_by rfl) (di_script (ns := ns) (fun n H h => Scr.sq h) (de_var rfl ⟨rfl, szl (by rw [List.length_map]; omega), fun n1 d hd => dg_name ?_, fun n1 ys h => ?_⟩)) in_self
    · obtain ⟨z, hz, rfl⟩ := List.mem_map.mp hd
      repeat' (walk_at "hd1")
      exact ⟨_, rfl⟩
    · obtain ⟨zs, rfl⟩ := each_ints h
      exact ⟨zs, rfl⟩
  subst hd
  cases ho with
  | @lst xc _ hall2 =>
  have hx := all_ints hall2
  subst hx
  obtain ⟨g', o', hg', hgH', hob', _, hgz⟩ := e2.ow 1 _ rfl
  rw [hg] at hg'; cases hg'
  cases hob' with
  | @lst xg _ hall3 =>
  have hx := all_ints hall3
  subst hx
  have zc := e2.z (c, .lst (zs.map .int)) List.mem_cons_self
  have zp := e2.z (p, .dK []) (List.mem_cons_of_mem _ List.mem_cons_self)
  have npc : p ≠ c := fun z => by have h1 := zc.1; have h2 := zp.1; rw [← z] at h1; have h1 : H2 p = some (.lst (zs.map .int)) := h1; rw [h2] at h1; cases h1
  have ngp : g ≠ p := fun z => hgz ⟨.dK [], by rw [z]; exact List.mem_cons_of_mem _ List.mem_cons_self⟩
  have ngc : g ≠ c := fun z => hgz ⟨_, by rw [z]; exact List.mem_cons_self⟩
  refine ⟨zp.1, [(.inr "great", .ref g), (.inr "cells", .ref c), (.inr "left", .int 0), (.inr "turn", .int 0)], rfl, (by show 4 ≤ 15; decide), ?_⟩
  have q := q p g c gr zs (upd H2 p (.dK (stK g c 0 0))) hgr zp.2 hg0 zc.2 (Ne.symm ngp) npc ngc upd_same (by rw [upd_ne ngp]; exact hgH') (by rw [upd_ne (Ne.symm npc)]; exact zc.1) fun b o hb => by
    rw [upd_ne (fun z => by have h2 : H p = none := zp.2; rw [z, h2] at hb; cases hb)]
    exact hs.keep e2.g e2.fr b o hb
  rw [merge_st]
  exact q
theorem ok__law_blended (T : Txd mg) (Dd : Def K mg "_law_blended" s__law_blended ["_law_state"]) : Cal P w K mg base 1 "_law_blended" s__law_blended ["_law_state"] spBlend := by
  refine Dd.raw sc__law_blended (fun vs H Q E ⟨s, g, c, cells, left, turn, h, _⟩ => by rw [h]; rfl) fun f cdv A outer s H vs Q E hr hq => ⟨_, (pss_cons (ps_par (i := 1) (j := 2) rfl sc__law_blended.nd rfl rfl (by decide) rfl rfl (pa_cons (pe_op (kO (r := rAddU) op_addU (K := K) rfl) (pe_ix (ix_U (u1 hr)) (pv 0) (pe_str) (fun _ _ => rfl)) (pe_int)) (pa_cons (pe_int) pa_nil)) (by rfl))
    (pss_cons (ps_dput (u1 hr) (pv 0) (pe_str) (pv 1) rfl)
    (pss_cons (ps_for passOwnU rfl (pi_seq (pe_lst (pa_cons (pe_int) (pa_cons (pe_int) (pa_cons (pe_int) pa_nil))))) (pg_name (i := 3) sc__law_blended.nd rfl (by first | exact Or.inl rfl | exact Or.inr rfl)) (pss_cons (ps_set (i := 4) sc__law_blended.nd rfl (by first | exact Or.inl rfl | exact Or.inr rfl) (pe_op (kO (r := rAddU) op_addU (K := K) rfl) (pe_op (kO (r := rMulU) op_mulU (K := K) rfl) (pe_int) (pv 1)) (pe_op op_fdivU (pv 3) (pe_int))))
    (pss_cons (ps_for passOwnU rfl (pi_seq (pe_ix (ix_U (u1 hr)) (pv 0) (pe_str) (fun _ _ => rfl))) (pg_name (i := 5) sc__law_blended.nd rfl (by first | exact Or.inl rfl | exact Or.inr rfl)) (pss_one (ps_set (i := 4) sc__law_blended.nd rfl (by first | exact Or.inl rfl | exact Or.inr rfl) (pe_op op_modU (pe_callTy call_intU (by rfl) T.b_int bb_int (pa_cons (pe_op (kO (r := rAddU) op_addU (K := K) rfl) (pe_op (kO (r := rAddU) op_addU (K := K) rfl) (pe_op (kO (r := rMulU) op_mulU (K := K) rfl) (pv 4) (pe_int)) (pv 5)) (pv 1)) pa_nil)) (pv 3)))))
    (pss_one (ps_set (i := 2) sc__law_blended.nd rfl (by first | exact Or.inl rfl | exact Or.inr rfl) (pe_op (kO (r := rAddU) op_addU (K := K) rfl) (pe_op (kO (r := rMulU) op_mulU (K := K) rfl) (pv 2) (pe_int)) (pe_op op_modU (pe_callTy call_intU (by rfl) T.b_int bb_int (pa_cons (pe_op op_powU (pv 4) (pe_int)) pa_nil)) (pv 3))))))))
    (pss_one (ps_ret (pv 2)))))), ?_⟩
  obtain ⟨st, g, c, cells, left, turn, rfl, hst, hc, t0, t1, q⟩ := hq
  -- turn, found = state['turn'] + 1, 0; state['turn'] = turn
  refine ⟨_, rfl, .inr ⟨st, .int turn, rfl, .inl ⟨_, .inr "turn", .inl hst, rfl, st_turn.symm⟩, .inl ⟨turn, 1, rfl, rfl, ⟨_, _, rfl, ⟨_, rfl, ⟨_, rfl, ⟨st, _, rfl, .inl ⟨_, .inr "turn", hst, rfl, (by show 4 < sizeLine; exact szlt (by decide)), rfl⟩, ?_⟩⟩⟩⟩⟩⟩⟩
  rw [put_turn]
  have hne : c ≠ st := fun z => by rw [z, hst] at hc; cases hc
  have e0 : Env (Wq (upd H st (.dK (stK g c left (turn + 1)))) E) 0 [] [] [some (false, .dic [.inr "great", .inr "cells", .inr "left", .inr "turn"] [.raw g, .lst (cells.map D.int), .int left, .int (turn + 1)]), some (false, .int (turn + 1)), some (false, .int 0), none, none, none] [some (.ref st), some (.int (turn + 1)), some (.int 0), none, none, none] (upd H st (.dK (stK g c left (turn + 1)))) :=
    env_slots ⟨.dic (fun h => h) upd_same rfl (.cons (.raw g) (.cons (.lst (fun h => h) (by rw [upd_ne hne]; exact hc) ints_all) (.cons (.int left) (.cons (.int (turn + 1)) .nil)))), .int (turn + 1), .int 0, trivial⟩ (fun _ _ h _ => h) True.intro
  dsimp only
  refine (show DS (tSeq (tFor _ _ _) (tRet _)) (Wq (upd H st (.dK (stK g c left (turn + 1)))) E) 0 [some (false, .dic [.inr "great", .inr "cells", .inr "left", .inr "turn"] [.raw g, .lst (cells.map D.int), .int left, .int (turn + 1)]), some (false, .int (turn + 1)), some (false, .int 0), none, none, none] (fun _ _ => False) (fun _ b d => b = false ∧ ∃ v, d = .int v ∧ 0 ≤ v) (fun _ _ => False) (fun _ _ => False) from ?c1) [] [] _ _ e0 _ ⟨fun _ _ _ _ h => h.elim, fun _ v d H' ⟨_, z, hd, hz⟩ f _ i => ?_, fun _ _ _ _ _ ⟨h, _⟩ => (by cases h), fun _ _ _ _ h => h.elim, fun _ _ _ _ h => h.elim⟩
  case c1 =>
    refine ds_seq ?_
    refine ds_for (S := [3]) (di_seqL (DF.de (df_lst ?_)))
    refine da_cons (de_int (da_cons (de_int (da_cons (de_int (da_nil ⟨szl (by show 3 ≤ 100000; decide), _, rfl, fun _ _ ρ => ∃ (f : Int) (x3 x4 x5 : Option (Bool × D)), 0 ≤ f ∧ ρ = [some (false, .dic [.inr "great", .inr "cells", .inr "left", .inr "turn"] [.raw g, .lst (cells.map D.int), .int left, .int (turn + 1)]), some (false, .int (turn + 1)), some (false, .int f), x3, x4, x5], ?_, ?_, ?_⟩))))))
    · exact ⟨0, _, _, _, Int.le_refl _, rfl⟩
    · rintro i n d ρ' hd ⟨f, x3, x4, x5, hf, rfl⟩
      have hp : ∃ pr : Int, d = .int pr ∧ 2147483000 < pr ∧ pr < 2147484000 := by
        rcases i with _ | _ | _ | i
        · cases hd; exact ⟨_, rfl, by decide, by decide⟩
        · cases hd; exact ⟨_, rfl, by decide, by decide⟩
        · cases hd; exact ⟨_, rfl, by decide, by decide⟩
        · simp at hd
      obtain ⟨pr, rfl, p1, p2⟩ := hp
      repeat' (walk_at "hd1")
      try refine r_fdiv (c_divN (by decide) (by decide)) ?_
      repeat' (walk_at "hd1")
      refine ds_for (S := [5]) (di_seqL (de_op (de_var rfl (de_str (r_ixD (k := .inr "cells") rfl rfl ⟨_, rfl, fun _ _ ρ => ∃ (b : Int) (x5 : Option (Bool × D)), b.natAbs < 2 ^ 64 ∧ ρ = [some (false, .dic [.inr "great", .inr "cells", .inr "left", .inr "turn"] [.raw g, .lst (cells.map D.int), .int left, .int (turn + 1)]), some (false, .int (turn + 1)), some (false, .int f), some (false, .int pr), some (false, .int b), x5], ?_, ?_, ?_⟩)))))
      · refine ⟨_, _, ?_, rfl⟩
        have h1 : (0 : Int) ≤ pr.fdiv 61 := by rw [Int.fdiv_eq_ediv_of_nonneg _ (by decide)]; omega
        have h2 : pr.fdiv 61 ≤ 2147484000 := by rw [Int.fdiv_eq_ediv_of_nonneg _ (by decide)]; omega
        omega
      · rintro i n d ρ' hd ⟨b, x5, hb, rfl⟩
        rw [List.getElem?_map] at hd
        obtain ⟨z, hz, rfl⟩ := Option.map_eq_some_iff.mp hd
        repeat' (walk_at "hd1")
        first | (refine r_mod (by omega) ?_; refine ⟨_, _, ?_, rfl⟩) | refine ⟨_, _, ?_, rfl⟩
        have h1 := Int.fmod_nonneg_of_pos (b * 69621 + z + (turn + 1)) (show 0 < pr by omega)
        have h2 := Int.fmod_lt_of_pos (b * 69621 + z + (turn + 1)) (show 0 < pr by omega)
        omega
      · rintro n ρ' ⟨b, x5, hb, rfl⟩
        repeat' (walk_at "hd1")
        refine r_pow ⟨by decide, by decide, hb⟩ ?_
        repeat' (walk_at "hd1")
        first | (refine r_mod (by omega) ?_; repeat' (walk_at "hd1"); refine ⟨_, _, _, _, ?_, rfl⟩) | refine ⟨_, _, _, _, ?_, rfl⟩
        have h1 := Int.fmod_nonneg_of_pos (b ^ (5 : Int).toNat) (show 0 < pr by omega)
        omega
    · rintro n ρ' ⟨f, x3, x4, x5, hf, rfl⟩
      exact ds_ret (de_var rfl ⟨rfl, f, rfl, hf⟩)
  subst hd
  cases i
  exact q z H' hz (f st _ upd_same (fun h => h)) fun b o hb ho => f b o (by show upd H st _ b = some o; rw [upd_ne hb]; exact ho) (fun h => h)
theorem ok__law_draw (T : Txd mg) (Dd : Def K mg "_law_draw" s__law_draw ["_law_state", "_law_size_here"]) (C__law_blended : Cal P w K mg base 1 "_law_blended" s__law_blended ["_law_state"] spBlend) : Cal P w K mg base 2 "_law_draw" s__law_draw ["_law_state", "_law_size_here"] (spDraw K Tt) := by
  refine Dd.raw sc__law_draw (fun vs H Q E ⟨L, q⟩ => prm_len q) fun f cdv A outer s H vs Q E hr hq => ⟨_, (pss_cons (ps_if (pt_cmpR (kO (r := rEqD) (op_eqU hr) (K := K) rfl) (pe_ix (ix_U (u1 hr)) (pv 0) (pe_str) (fun _ _ => rfl)) (pe_int) (nomark _)) (pss_one (ps_dput (u1 hr) (pv 0) (pe_str) (pe_ifExp (pt_cmpR (kO (r := rNeD) (op_neU hr) (K := K) rfl) (pe_ix (ix_U (u1 hr)) (pv 0) (pe_str) (fun _ _ => rfl)) (pe_lst pa_nil) (nomark _)) (pe_bm PySem.F.plainAttrs_list PySem.F.slot_list_pop PySem.F.type_list_pop mt_popAt (pe_ix (ix_U (u1 hr)) (pv 0) (pe_str) (fun _ _ => rfl)) (pa_cons (pe_int) pa_nil)) (pe_cal C__law_blended (hr.mono (by decide)) passD (by rfl) (pa_cons (pv 0) pa_nil))) rfl)) pss_nil)
    (pss_cons (ps_set (i := 2) sc__law_draw.nd rfl (by first | exact Or.inl rfl | exact Or.inr rfl) (pe_op op_modU (pe_callTy call_intU (by rfl) T.b_int bb_int (pa_cons (pe_ix (ix_U (u1 hr)) (pv 0) (pe_str) (fun _ _ => rfl)) pa_nil)) (pv 1)))
    (pss_cons (ps_dput (u1 hr) (pv 0) (pe_str) (pe_op op_fdivU (pe_ix (ix_U (u1 hr)) (pv 0) (pe_str) (fun _ _ => rfl)) (pv 1)) rfl)
    (pss_one (ps_ret (pv 2)))))), ?_⟩
  obtain ⟨L, X, ds, n, hVX, hX, ⟨⟨gr, left, turn, g1, g2, g3, g4, g5, g6, g7⟩, hsc, hta, ngc, nga⟩, hi, hl, ⟨hc, size, rfl, h0, hsz⟩, k1, k2, k3⟩ := hq
  cases hi with
  | cons i1 t =>
  cases t with
  | cons i2 t =>
  cases t
  cases i1
  cases i2
  have nsg : L.g ≠ L.s := fun z => by rw [z, g1] at g2; cases g2
  have nsc : L.c ≠ L.s := fun z => by rw [z, g1] at g3; cases g3
  refine draw_head (K := K) (E := E) (D := { nx := tailTS K { nx := fun _ H' => Q .non H', rt := Q }, rt := Q }) g1 g2 g3 ngc g4 g5 g6 (by omega) fun left1 turn1 gr1 H1 q1 q2 q3 q4 q5 q6 q7 q8 => ?_
  refine draw_tail q1 h0 hsz ?_
  have fr : Frm L.V H (upd H1 L.s (.dK (stK L.g L.c (left1.fdiv size) turn1))) := fun b o hb hv => by
    have b1 : b ≠ L.s := fun z => hv (.inl z)
    have b2 : b ≠ L.g := fun z => hv (.inr (.inl z))
    rw [upd_ne b1]
    exact q8 b o b1 b2 hb
  have kp : ∀ b o, b ≠ L.s → b ≠ L.g → H b = some o → (upd H1 L.s (.dK (stK L.g L.c (left1.fdiv size) turn1))) b = some o := fun b o b1 b2 hb => by
    rw [upd_ne b1]
    exact q8 b o b1 b2 hb
  refine k1 (n - 1) (.int (left1.fmod size)) (.int (left1.fmod size)) _ ⟨by omega, false, _, rfl, ⟨_, rfl, rfl, Int.fmod_nonneg_of_pos _ h0, fun sz e => ?_⟩⟩ fr ⟨⟨gr1, left1.fdiv size, turn1, upd_same, by rw [upd_ne nsg]; exact q2, by rw [upd_ne nsc]; exact q3, ?_, q5, by omega, by omega⟩, ?_, fun p hp => ?_, ngc, nga⟩ (.int _)
  · have e2 : size = sz := by simpa using e
    rw [← e2]
    exact Int.fmod_lt_of_pos _ h0
  · rw [Int.fdiv_eq_ediv_of_nonneg _ (Int.le_of_lt h0)]
    exact Int.ediv_nonneg q4 (Int.le_of_lt h0)
  · rcases hsc with ⟨tr, h⟩ | ⟨tr, ⟨o, h⟩ | h⟩
    · exact .inl ⟨tr, kp _ _ (fun z => by rw [z, g1] at h; cases h) (nga tr) h⟩
    · exact .inr ⟨tr, .inl ⟨o, kp _ _ (fun z => by rw [z, g1] at h; cases h) (fun z => by rw [z, g2] at h; cases h) h⟩⟩
    · exact .inr ⟨tr, .inr h⟩
  · obtain ⟨ps, e1, e2, e3⟩ := hta p hp
    refine ⟨ps, kp _ _ (fun z => by rw [z, g1] at e1; cases e1) (fun z => by rw [z, g2] at e1; cases e1) e1, e2, fun pos cv hcv => ?_⟩
    obtain ⟨c', e4, e5⟩ := e3 pos cv hcv
    exact ⟨c', e4, kp _ _ (fun z => by rw [z, g1] at e5; cases e5) (fun z => by rw [z, g2] at e5; cases e5) e5⟩
theorem ok__law_pick (T : Txd mg) (Dd : Def K mg "_law_pick" s__law_pick ["_law_state", "_law_several"]) (C__law_draw : Cal P w K mg base 2 "_law_draw" s__law_draw ["_law_state", "_law_size_here"] (spDraw K Tt)) : Cal P w K mg base 3 "_law_pick" s__law_pick ["_law_state", "_law_several"] (spPick K Tt) := by
  refine Dd.okL sc__law_pick rfl fun f cdv A outer s H E hr => ⟨_, (pss_one (ps_ret (pe_ix (ix_U (u1 hr)) (pv 1) (pe_cal C__law_draw (hr.mono (by decide)) passD (by rfl) (pa_cons (pv 0) (pa_cons (pe_callB (kC (r := rLenU) call_lenU (K := K) rfl) (by rfl) T.b_len bb_len (pa_cons (pv 1) pa_nil)) pa_nil))) (fun _ _ => rfl)))), ?_⟩
  rintro L W n ds hV hG hE hl hc ⟨l, e, h1, h2⟩
  rcases e with rfl | rfl
  all_goals
    repeat' (walk_at "hd1")
    rename_i n' k h3 h4 h5
    · obtain ⟨d, hd, hm⟩ := atI_mem h4 h5
      first | refine r_ixL hd ?_ | refine r_ixT hd ?_
      refine ⟨h3, rfl, fun l' e => ?_⟩
      have e2 : l = l' := by simpa using e
      rw [← e2]
      exact hm
end

/-! ### errors caught -/
theorem caught_givesP {X : Cx} {g CS : Addr} {cdg : Value} (hm : X.mg "PullError" = some (.ref CS)) : GivesP X ["_law_work", "_law_caught_here", "error"] "_law_caught" (defScope s__law_caught) g cdg (defBody s__law_caught) "_law_work" (TCaught X.K CS) := by
  intro f Pf s H Q tl act hc h
  refine ⟨_, pss_cons (ps_set (i := 1) sc__law_caught.nd rfl (by first | exact Or.inl rfl | exact Or.inr rfl) pe_non) (pss_cons (ps_try_keep (i := 2) (c := .ref CS)
      (tb := fun W D σ H => ∃ Ech : XK, (∀ cls d σ' H', Ech cls d H' → W cls d σ' H') ∧ σ[0]? = some (some (.ref f)) ∧ Pf H ∧ tl Ech H fun _ H' => D.nx σ H')
      rfl rfl rfl sc__law_caught.nd rfl rfl ⟨rfl, rfl, .inl hm⟩ (fun W pn xe tk _ => ?_) (fun a oe cls d pn _ _ => pss_one (ps_set (i := 1) sc__law_caught.nd rfl (by first | exact Or.inl rfl | exact Or.inr rfl) (pv 2)))) (pss_one (ps_ret (pv 1)))), ?_⟩
  · refine ⟨fun pins s' σ H' D I ⟨Ech, hW, h1, h2, h3⟩ => ?_⟩
    exact (pss_one (ps_expr (act W pn xe Ech _ _ tk hW))).run pins s' σ H' D I ⟨h1, h2, h3⟩
  · refine ⟨fun cls d H' => ∃ C : Addr, cls = .ref C ∧ PySem.W.exmOne X.K cls (.ref CS) = some true ∧ ∀ a, H' a = none → Q (.ref a) (upd H' a (excH a C d)), fun cls d σ' H' ⟨C, e1, e2, e3⟩ => ⟨C, e1, e2, fun a hl ha => ?_⟩, rfl, hc, ?_⟩
    · match σ', hl with
      | [x, y, z], _ => exact ⟨_, rfl, ⟨_, rfl, e3 a ha⟩⟩
    · have e : (fun (_ : L2.V) (H' : Hp) => tRet (tVar 1) { nx := fun _ H' => Q .non H', rt := Q } [some (L2.V.ref f), some .non, none] H') = fun _ H' => Q .non H' := by
        funext v H'
        exact propext ⟨fun ⟨v, e1, e2⟩ => by cases e1; exact e2, fun h => ⟨_, rfl, h⟩⟩
      show tl _ H (fun _ H' => tRet (tVar 1) { nx := fun _ H' => Q .non H', rt := Q } [some (L2.V.ref f), some .non, none] H')
      rw [e]
      exact h
theorem caught_gives {X : Cx} {q : Str} {g CS : Addr} {cdg : Value} (hm : X.mg "PullError" = some (.ref CS)) : LamX.GivesTo X ["_law_work", "_law_caught_here", "error"] "_law_caught" (defScope s__law_caught) g cdg (defBody s__law_caught) "_law_work" q (TCaught X.K CS) := (caught_givesP hm).gives

section
variable {P : Program} {w : World} {K : PySem.W.Frag} {mg : Str → Option Value} {base : Heap} {Tt : List (Addr × Str)} {c Pt : Addr}
abbrev sp__law_begun (K : PySem.W.Frag) (Tt : List (Addr × Str)) : Sp := spBegun K
abbrev sp__law_draw (K : PySem.W.Frag) (Tt : List (Addr × Str)) : Sp := spDraw K Tt
abbrev sp__law_pick (K : PySem.W.Frag) (Tt : List (Addr × Str)) : Sp := spPick K Tt
theorem erase_perm' {α : Type} : ∀ {l : List α} {i : Nat} {x : α}, l[i]? = some x → List.Perm (x :: l.eraseIdx i) l
  | a :: l, 0, x, h => by
    simp at h
    subst h
    exact .refl _
  | a :: l, i + 1, x, h => by
    show List.Perm (x :: a :: l.eraseIdx i) (a :: l)
    exact (List.Perm.swap a x _).trans (.cons a (erase_perm' (by simpa using h)))
  | [], i, x, h => by simp at h
theorem pds_mem {k : Nat} : ∀ {l : List D}, pds k l = true ↔ ∀ d ∈ l, pd k d = true
  | [] => ⟨fun _ _ h => (nomatch h), fun _ => rfl⟩
  | a :: r => by
    show (pd k a && pds k r) = true ↔ _
    rw [Bool.and_eq_true, pds_mem (l := r)]
    exact ⟨fun ⟨h1, h2⟩ d hd => (List.mem_cons.mp hd).elim (fun e => by rw [e]; exact h1) (h2 d), fun h => ⟨h a List.mem_cons_self, fun d hd => h d (List.mem_cons_of_mem _ hd)⟩⟩
def mixPre {K : PySem.W.Frag} {Tt : List (Addr × Str)} (L : LP K Tt) (ds : List D) : Prop := ∃ l, (ds = [.raw L.s, .lst l] ∨ ds = [.raw L.s, .tup l]) ∧ pds 59 l = true ∧ l.length ≤ 60
def mixR {K : PySem.W.Frag} {Tt : List (Addr × Str)} (L : LP K Tt) (ds : List D) (_ : Bool) (d : D) : Prop := ∃ l', d = .lst l' ∧ ∀ l, (ds = [.raw L.s, .lst l] ∨ ds = [.raw L.s, .tup l]) → l'.Perm l
abbrev sp__law_mixed (K : PySem.W.Frag) (Tt : List (Addr × Str)) : Sp := spL K Tt 2 60 mixPre mixR
theorem ok__law_mixed (T : Txt K mg) (Dd : Def K mg "_law_mixed" s__law_mixed ["_law_state", "_law_several"])
    (C__law_draw : Cal P w K mg base 2 "_law_draw" s__law_draw ["_law_state", "_law_size_here"] (sp__law_draw K Tt)) :
    Cal P w K mg base 3 "_law_mixed" s__law_mixed ["_law_state", "_law_several"] (sp__law_mixed K Tt) := by
  refine Dd.okL sc__law_mixed rfl fun f cdv A outer s H E hr => ⟨_, (pss_cons (ps_par (i := 2) (j := 3) rfl sc__law_mixed.nd rfl rfl (by decide) rfl rfl (pa_cons (pe_callTy (kC (r := rList) call_listU (K := K) rfl) (by rfl) T.b_list bb_list (pa_cons (pv 1) pa_nil)) (pa_cons (pe_lst pa_nil) pa_nil)) (by rfl))
    (pss_cons (ps_while passOwnU (pt_cmpR (kO (r := rNeD) (op_neU hr) (K := K) rfl) (pv 2) (pe_lst pa_nil) (nomark _)) (pss_one (ps_expr (pe_bm PySem.F.plainAttrs_list PySem.F.slot_list_append PySem.F.type_list_append mt_append (pv 3) (pa_cons (pe_bm PySem.F.plainAttrs_list PySem.F.slot_list_pop PySem.F.type_list_pop mt_popAt (pv 2) (pa_cons (pe_cal C__law_draw (hr.mono (by decide)) passD (by rfl) (pa_cons (pv 0) (pa_cons (pe_callB (kC (r := rLenU) call_lenU (K := K) rfl) (by rfl) T.b_len bb_len (pa_cons (pv 2) pa_nil)) pa_nil))) pa_nil)) pa_nil)))))
    (pss_one (ps_ret (pv 3))))), ?_⟩
  rintro L W n ds hV hG hE hl hc hp
  obtain ⟨l, hds, hpl, hlen⟩ := hp
  obtain ⟨d0, rfl, hd0⟩ : ∃ d0, ds = [.raw L.s, d0] ∧ (d0 = .lst l ∨ d0 = .tup l) := by
    rcases hds with e | e
    · exact ⟨_, e, .inl rfl⟩
    · exact ⟨_, e, .inr rfl⟩
  refine ds_seq (ds_par_oo (df_list (da_cons (de_var rfl (da_nil ⟨d0, l, rfl, hd0, df_lst (da_nil ⟨Nat.zero_le _, ?_⟩)⟩)))))
  refine ds_seq ?_
  refine ds_whileR (fun m n' ρ => ∃ left found : List D, m = left.length ∧ n + left.length ≤ n' + l.length ∧ (found ++ left).Perm l ∧ ρ = [some (false, .raw L.s), some (false, d0), some (true, .lst left), some (true, .lst found)]) l.length ⟨_, Rfn.refl _, l, [], rfl, Nat.le_refl _, .refl _, rfl⟩ ?_
  rintro m n' ρ' ⟨left, found, rfl, hn, hperm, rfl⟩
  have hpl2 : pd 60 (.lst left) = true := pds_mem.mpr fun d hd => pds_mem.mp hpl d (hperm.mem_iff.mp (List.mem_append_right _ hd))
  have hp0 : pd 60 (.lst []) = true := rfl
  have hlen2 : found.length + left.length = l.length := by rw [← List.length_append]; exact hperm.length_eq
  refine dt_test (de_op_o rfl (DF.de (df_lst (da_nil ⟨Nat.zero_le _, ?_⟩))))
  refine r_neP hpl2 hp0 fun b hb => ?_
  refine ⟨b, rfl, fun hbt => ?_, fun hbf => ?_⟩
  · have hne : left ≠ [] := fun e => hb.mp hbt (by rw [e])
    have hpos : 0 < left.length := List.length_pos_iff.mpr hne
    refine ds_append_pop rfl rfl (by decide) ?_
    repeat' (walk_at "hd1")
    rename_i n2 k hn2 k0 k1
    obtain ⟨x, hx⟩ : ∃ x, left[k.toNat]? = some x := ⟨_, List.getElem?_eq_getElem (by omega)⟩
    refine ⟨k.toNat, x, by rw [show ((k.toNat : Nat) : Int) = k by omega], by omega, hx, szlt (by omega), _, ?_, _, Rfn.refl _, left.eraseIdx k.toNat, found ++ [x], rfl, ?_, ?_, rfl⟩
    · rw [List.length_eraseIdx]; split <;> omega
    · rw [List.length_eraseIdx, if_pos (by omega)]; omega
    · refine .trans ?_ hperm
      rw [List.append_assoc]
      exact (erase_perm' hx).append_left found
  · have e : left = [] := by
      cases left with
      | nil => rfl
      | cons a r => exact absurd (hb.mpr (fun q => by cases q)) (by rw [hbf]; decide)
    subst e
    refine ds_ret_own rfl ⟨by simp only [List.length_nil] at hn; omega, found, rfl, fun l2 h2 => ?_⟩
    rw [List.append_nil] at hperm
    have : l2 = l := by
      rcases hd0 with rfl | rfl
      · rcases h2 with h2 | h2
        · simpa using h2.symm
        · simp at h2
      · rcases h2 with h2 | h2
        · simp at h2
        · simpa using h2.symm
    rw [this]; exact hperm
def big (i : Int) : Prop := i.natAbs < 2 ^ 200
def stPre {K : PySem.W.Frag} {Tt : List (Addr × Str)} (L : LP K Tt) (ds : List D) : Prop := ds = [.raw L.s]
/-- 1 to 12, of either sign -/
def szOk (i : Int) : Prop := i ≠ 0 ∧ -12 ≤ i ∧ i ≤ 12
def sizeR {K : PySem.W.Frag} {Tt : List (Addr × Str)} (_ : LP K Tt) (_ : List D) (b : Bool) (d : D) : Prop := b = false ∧ ∃ i, d = .int i ∧ szOk i
abbrev sp__law_size (K : PySem.W.Frag) (Tt : List (Addr × Str)) : Sp := spL K Tt 1 10 stPre sizeR
theorem ok__law_size (T : Txt K mg) (Dd : Def K mg "_law_size" s__law_size ["_law_state"])
    (C__law_pick : Cal P w K mg base 3 "_law_pick" s__law_pick ["_law_state", "_law_several"] (sp__law_pick K Tt)) :
    Cal P w K mg base 4 "_law_size" s__law_size ["_law_state"] (sp__law_size K Tt) := by
  refine Dd.okL sc__law_size rfl fun f cdv A outer s H E hr => ⟨_, (pss_cons (ps_set (i := 1) sc__law_size.nd rfl (by first | exact Or.inl rfl | exact Or.inr rfl) (pe_cal C__law_pick (hr.mono (by decide)) passD (by rfl) (pa_cons (pv 0) (pa_cons (pe_lst (pa_cons (pe_int) (pa_cons (pe_int) (pa_cons (pe_int) (pa_cons (pe_int) (pa_cons (pe_int) (pa_cons (pe_int) (pa_cons (pe_int) (pa_cons (pe_int) (pa_cons (pe_int) (pa_cons (pe_int) (pa_cons (pe_int) (pa_cons (pe_int) pa_nil))))))))))))) pa_nil))))
    (pss_one (ps_ret (pe_op (kO (r := rMulU) op_mulU (K := K) rfl) (pv 1) (pe_cal C__law_pick (hr.mono (by decide)) passD (by rfl) (pa_cons (pv 0) (pa_cons (pe_lst (pa_cons (pe_int) (pa_cons (pe_int) (pa_cons (pe_int) (pa_cons (pe_un un_neg (pe_int)) pa_nil))))) pa_nil))))))), ?_⟩
  rintro L W n ds hV hG hE hl hc hp
  cases hp
  repeat' (walk_at "hd1")
  rename_i n1 d1 a1 hm1 n2 d2 a2 hm2
  have e1 : ∃ i, d1 = .int i ∧ 1 ≤ i ∧ i ≤ 12 := by
    simp only [List.mem_cons, List.not_mem_nil, or_false] at hm1
    rcases hm1 with rfl | rfl | rfl | rfl | rfl | rfl | rfl | rfl | rfl | rfl | rfl | rfl
    all_goals exact ⟨_, rfl, by decide, by decide⟩
  have e2 : d2 = .int 1 ∨ d2 = .int (-1) := by
    simp only [List.mem_cons, List.not_mem_nil, or_false] at hm2
    rcases hm2 with rfl | rfl | rfl | rfl
    all_goals first | exact .inl rfl | exact .inr rfl
  obtain ⟨i, rfl, h1, h2⟩ := e1
  rcases e2 with rfl | rfl
  all_goals
    refine r_mul (c_smallL (by omega)) ⟨by omega, rfl, _, rfl, ?_⟩
    unfold szOk
    omega
def drOk (r : Int) (d : Door) : Prop := (0 ≤ d.near ∧ d.near < r) ∧ (0 ≤ d.far ∧ d.far < r) ∧ szOk d.first ∧ szOk d.second
theorem drOk.flip {r : Int} {d : Door} (h : drOk r d) : drOk r d.flip := ⟨h.2.1, h.1, h.2.2.2, h.2.2.1⟩
theorem drOk.door {r : Int} {d : Door} (h : drOk r d) : doorOk r d := by
  obtain ⟨h1, h2, ⟨h3, h4, h5⟩, h6, h7, h8⟩ := h
  exact ⟨h1, h2, ⟨h3, by omega, by omega⟩, h6, by omega, by omega⟩
/-- each room from 1 on below k has a door to a room below it -/
def Hang (k : Int) (dl : List Door) : Prop := ∀ x, 1 ≤ x → x < k → ∃ d ∈ dl, ((0 ≤ d.near ∧ d.near < x) ∧ d.far = x) ∨ ((0 ≤ d.far ∧ d.far < x) ∧ d.near = x)
theorem Hang.con {r : Int} {dl : List Door} (h : Hang r dl) : ∀ x, 0 ≤ x → x < r → Reach dl x := by
  have key : ∀ (n : Nat) (x : Int), x.toNat = n → 0 ≤ x → x < r → Reach dl x := by
    intro n
    induction n using Nat.strongRecOn with
    | _ n ih =>
      intro x hx h0 h1
      by_cases e : x = 0
      · rw [e]; exact .zero
      · obtain ⟨d, hd, ⟨⟨q1, q2⟩, q3⟩ | ⟨⟨q1, q2⟩, q3⟩⟩ := h x (by omega) h1
        · exact .step (ih d.near.toNat (by omega) d.near rfl q1 (by omega)) ⟨d, hd, .inl ⟨rfl, q3⟩⟩
        · exact .step (ih d.far.toNat (by omega) d.far rfl q1 (by omega)) ⟨d, hd, .inr ⟨rfl, q3⟩⟩
  exact fun x => key _ x rfl
theorem each_mem {R : D → D → Prop} : ∀ {ds ys : List D}, Each R ds ys → (∀ y ∈ ys, ∃ x ∈ ds, R x y) ∧ (∀ x ∈ ds, ∃ y ∈ ys, R x y)
  | _, _, .nil => ⟨fun _ h => (nomatch h), fun _ h => (nomatch h)⟩
  | _, _, .cons r t => by
    obtain ⟨h1, h2⟩ := each_mem t
    refine ⟨fun y hy => ?_, fun x hx => ?_⟩
    · rcases List.mem_cons.mp hy with rfl | hy
      · exact ⟨_, List.mem_cons_self, r⟩
      · obtain ⟨x, q1, q2⟩ := h1 y hy
        exact ⟨x, List.mem_cons_of_mem _ q1, q2⟩
    · rcases List.mem_cons.mp hx with rfl | hx
      · exact ⟨_, List.mem_cons_self, r⟩
      · obtain ⟨y, q1, q2⟩ := h2 x hx
        exact ⟨y, List.mem_cons_of_mem _ q1, q2⟩
theorem all_map {α : Type} {f : α → D} : ∀ {l : List D}, (∀ x ∈ l, ∃ a, x = f a) → ∃ bs : List α, l = bs.map f
  | [], _ => ⟨[], rfl⟩
  | d :: r, h => by
    obtain ⟨a, rfl⟩ := h d List.mem_cons_self
    obtain ⟨bs, rfl⟩ := all_map fun x hx => h x (List.mem_cons_of_mem _ hx)
    exact ⟨a :: bs, rfl⟩
/-- doors as drawn -/
structure DrHs (r : Int) (m : Nat) (dl : List Door) : Prop where
  ok : ∀ d ∈ dl, drOk r d
  hang : Hang r dl
  len : dl.length ≤ m
theorem DrHs.house {r : Int} {m : Nat} {dl : List Door} (h : DrHs r m dl) (h1 : 1 ≤ r) (h2 : r ≤ 12) (h3 : m ≤ 20) : HouseOk r dl := ⟨h1, h2, by have := h.len; omega, fun d hd => (h.ok d hd).door, h.hang.con⟩
def fl (x y : D) : Prop := ∃ d : Door, x = dDoor d ∧ (y = dDoor d ∨ y = dDoor d.flip)
/-- turned and mixed -/
theorem mixed_doors {r : Int} {m : Nat} {fd : List Door} {ys l' : List D} (h : DrHs r m fd) (e : Each fl (fd.map dDoor) ys) (p : l'.Perm ys) : ∃ dl, l' = dl.map dDoor ∧ DrHs r m dl := by
  obtain ⟨h1, h2⟩ := each_mem e
  have hy : ∀ y ∈ l', ∃ d, y = dDoor d ∧ drOk r d := fun y hy => by
    obtain ⟨x, hx, d, rfl, q⟩ := h1 y (p.mem_iff.mp hy)
    obtain ⟨d', hd', e'⟩ := List.mem_map.mp hx
    have e' := dDoor_inj e'
    subst e'
    rcases q with rfl | rfl
    · exact ⟨_, rfl, h.ok _ hd'⟩
    · exact ⟨_, rfl, (h.ok _ hd').flip⟩
  obtain ⟨dl, rfl⟩ := all_map (f := dDoor) fun y q => let ⟨d, e, _⟩ := hy y q; ⟨d, e⟩
  have hm : ∀ d, d ∈ dl ↔ dDoor d ∈ dl.map dDoor := fun d => ⟨fun q => List.mem_map_of_mem q, fun q => by
    obtain ⟨d', q1, q2⟩ := List.mem_map.mp q
    rw [← dDoor_inj q2]; exact q1⟩
  refine ⟨dl, rfl, fun d hd => ?_, fun x x1 x2 => ?_, ?_⟩
  · obtain ⟨d', e', q⟩ := hy _ ((hm d).mp hd)
    rw [dDoor_inj e']; exact q
  · obtain ⟨d, hd, q⟩ := h.hang x x1 x2
    obtain ⟨y, hy, d2, e2, q2⟩ := h2 _ (List.mem_map_of_mem hd)
    have e2 := dDoor_inj e2
    subst e2
    have hy := p.mem_iff.mpr hy
    rcases q2 with rfl | rfl
    · exact ⟨_, (hm _).mpr hy, q⟩
    · exact ⟨_, (hm _).mpr hy, q.symm⟩
  · have e1 := p.length_eq
    have e2 := e.len
    rw [List.length_map] at e1 e2
    rw [e1, e2]; exact h.len
def doorsPre {K : PySem.W.Frag} {Tt : List (Addr × Str)} (L : LP K Tt) (ds : List D) : Prop := ∃ r m : Int, ds = [.raw L.s, .int r, .int m] ∧ (1 ≤ r ∧ r ≤ 7) ∧ (0 ≤ m ∧ m ≤ 6)
def doorsR {K : PySem.W.Frag} {Tt : List (Addr × Str)} (L : LP K Tt) (ds : List D) (_ : Bool) (d : D) : Prop := ∀ r m : Int, ds = [.raw L.s, .int r, .int m] → ∃ dl : List Door, d = .tup (dl.map dDoor) ∧ DrHs r (r - 1 + m).toNat dl
abbrev sp__law_doors (K : PySem.W.Frag) (Tt : List (Addr × Str)) : Sp := spL K Tt 3 500 doorsPre doorsR
theorem ok__law_doors (T : Txt K mg) (Dd : Def K mg "_law_doors" s__law_doors ["_law_state", "_law_rooms_here", "_law_more"])
    (C__law_draw : Cal P w K mg base 2 "_law_draw" s__law_draw ["_law_state", "_law_size_here"] (sp__law_draw K Tt))
    (C__law_mixed : Cal P w K mg base 3 "_law_mixed" s__law_mixed ["_law_state", "_law_several"] (sp__law_mixed K Tt))
    (C__law_size : Cal P w K mg base 4 "_law_size" s__law_size ["_law_state"] (sp__law_size K Tt)) :
    Cal P w K mg base 5 "_law_doors" s__law_doors ["_law_state", "_law_rooms_here", "_law_more"] (sp__law_doors K Tt) := by
  refine Dd.okL sc__law_doors rfl fun f cdv A outer s H E hr => ⟨_, (pss_cons (ps_set (i := 3) sc__law_doors.nd rfl (by first | exact Or.inl rfl | exact Or.inr rfl) (pe_lst pa_nil))
    (pss_cons (ps_for passOwnU rfl (pi_range2 (by rfl) T.b_range (pa_cons (pe_int) (pa_cons (pv 1) pa_nil))) (pg_name (i := 4) sc__law_doors.nd rfl (by first | exact Or.inl rfl | exact Or.inr rfl)) (pss_one (ps_expr (pe_bm PySem.F.plainAttrs_list PySem.F.slot_list_append PySem.F.type_list_append mt_append (pv 3) (pa_cons (pe_tup (pa_cons (pe_cal C__law_draw (hr.mono (by decide)) passD (by rfl) (pa_cons (pv 0) (pa_cons (pv 4) pa_nil))) (pa_cons (pe_cal C__law_size (hr.mono (by decide)) passD (by rfl) (pa_cons (pv 0) pa_nil)) (pa_cons (pv 4) (pa_cons (pe_cal C__law_size (hr.mono (by decide)) passD (by rfl) (pa_cons (pv 0) pa_nil)) pa_nil))))) pa_nil)))))
    (pss_cons (ps_for passOwnU rfl (pi_range1 (by rfl) T.b_range (pa_cons (pe_cal C__law_draw (hr.mono (by decide)) passD (by rfl) (pa_cons (pv 0) (pa_cons (pe_op (kO (r := rAddU) op_addU (K := K) rfl) (pv 2) (pe_int)) pa_nil))) pa_nil)) (pg_name (i := 5) sc__law_doors.nd rfl (by first | exact Or.inl rfl | exact Or.inr rfl)) (pss_cons (ps_par (i := 6) (j := 7) rfl sc__law_doors.nd rfl rfl (by decide) rfl rfl (pa_cons (pe_cal C__law_draw (hr.mono (by decide)) passD (by rfl) (pa_cons (pv 0) (pa_cons (pv 1) pa_nil))) (pa_cons (pe_cal C__law_draw (hr.mono (by decide)) passD (by rfl) (pa_cons (pv 0) (pa_cons (pv 1) pa_nil))) pa_nil)) (by rfl))
    (pss_one (ps_expr (pe_bm PySem.F.plainAttrs_list PySem.F.slot_list_append PySem.F.type_list_append mt_append (pv 3) (pa_cons (pe_tup (pa_cons (pv 6) (pa_cons (pe_cal C__law_size (hr.mono (by decide)) passD (by rfl) (pa_cons (pv 0) pa_nil)) (pa_cons (pv 7) (pa_cons (pe_cal C__law_size (hr.mono (by decide)) passD (by rfl) (pa_cons (pv 0) pa_nil)) pa_nil))))) pa_nil))))))
    (pss_cons (ps_setLc (i := 3) (own := [("_law_item", 8)]) rfl sc__law_doors.nd rfl rfl (sw_true rfl rfl rfl (by decide +kernel)) (pi_seq (pv 3)) (blkOk_by (own := [("_law_item", 8)]) (N := ["_law_state", "_law_rooms_here", "_law_more", "_law_found", "_law_room_here", "_law_turn", "_law_one", "_law_other", "_law_item"]) (sc := defScope s__law_doors) (by decide +kernel)) (fun _ _ _ _ _ => (pg_name (i := 8) sc__law_doors.nd rfl (by first | exact Or.inl rfl | exact Or.inr rfl))) (fun _ _ _ _ _ => pts_nil) (fun _ _ _ _ _ => (pe_ifExp (pt_cmpR (kO (r := rEqD) (op_eqU hr) (K := K) rfl) (pe_cal C__law_draw (hr.mono (by decide)) passL (by rfl) (pa_cons (pv 0) (pa_cons (pe_int) pa_nil))) (pe_int) (nomark _)) (pv 8) (pe_tup (pa_cons (pe_ix (kI (r := rIxU) (ix_U (u1 hr)) (K := K) rfl) (pv 8) (pe_int) (fun _ _ => rfl)) (pa_cons (pe_ix (kI (r := rIxU) (ix_U (u1 hr)) (K := K) rfl) (pv 8) (pe_int) (fun _ _ => rfl)) (pa_cons (pe_ix (kI (r := rIxU) (ix_U (u1 hr)) (K := K) rfl) (pv 8) (pe_int) (fun _ _ => rfl)) (pa_cons (pe_ix (kI (r := rIxU) (ix_U (u1 hr)) (K := K) rfl) (pv 8) (pe_int) (fun _ _ => rfl)) pa_nil))))))))
    (pss_one (ps_ret (pe_callTy (kC (r := rTuple) call_tupleU (K := K) rfl) (by rfl) T.b_tuple bb_tuple (pa_cons (pe_cal C__law_mixed (hr.mono (by decide)) passD (by rfl) (pa_cons (pv 0) (pa_cons (pv 3) pa_nil))) pa_nil)))))))), ?_⟩
  rintro L W n ds hV hG hE hl hc hp
  obtain ⟨r, m, rfl, ⟨r1, r2⟩, m1, m2⟩ := hp
  repeat' (walk_at "hd1")
  refine ds_forR (LW := fun rs n' ρ => ∃ (k : Int) (m' : Nat) (fd : List Door), rs = HD.upTo k m' ∧ k + m' = r ∧ 1 ≤ k ∧ (∀ d ∈ fd, drOk r d) ∧ Hang k fd ∧ fd.length + 1 = k.toNat ∧ n ≤ n' + 30 * (k.toNat - 1) ∧ ρ = [some (false, .raw L.s), some (false, .int r), some (false, .int m), some (true, .lst (fd.map dDoor)), none, none, none, none, none]) (di_range2 ?_) ?_ ?_
  · repeat' (walk_at "hd1")
    refine ⟨⟨by omega, by omega, by omega, by omega⟩, _, Rfn.refl _, 1, (r - 1).toNat, [], rfl, by omega, by omega, fun _ h => (nomatch h), fun x h1 h2 => absurd h2 (by omega), rfl, by omega, rfl⟩
  · rintro d rs n' ρ' ⟨k, m', fd, hrs, hkm, hk1, hok, hh, hfl, hn, rfl⟩
    cases m' with
    | zero => cases hrs
    | succ m' =>
    rw [upTo_succ] at hrs
    simp only [List.cons.injEq] at hrs
    obtain ⟨rfl, rfl⟩ := hrs
    repeat' (walk_at "hd1")
    rename_i n1 a1 hn1 a10 a11 n2 b2 d2 hn2 r2 n3 b3 d3 hn3 r3
    obtain ⟨_, x, rfl, hx⟩ := r2
    obtain ⟨_, y, rfl, hy⟩ := r3
    have em : fd.map dDoor ++ [D.tup [.int a1, .int x, .int k, .int y]] = (fd ++ [(⟨a1, x, k, y⟩ : Door)]).map dDoor := by rw [List.map_append]; rfl
    rw [em]
    refine ⟨_, ?_, k + 1, m', fd ++ [⟨a1, x, k, y⟩], rfl, by omega, by omega, ?_, ?_, ?_, ?_, rfl⟩
    · repeat' (walk_at "rfn")
    · intro d hd
      rcases List.mem_append.mp hd with hd | hd
      · exact hok d hd
      · rw [List.mem_singleton.mp hd]
        exact ⟨⟨a10, by show a1 < r; omega⟩, ⟨by show 0 ≤ k; omega, by show k < r; omega⟩, hx, hy⟩
    · intro z z1 z2
      by_cases e : z = k
      · rw [e]
        exact ⟨_, List.mem_append_right _ List.mem_cons_self, .inl ⟨⟨a10, a11⟩, rfl⟩⟩
      · obtain ⟨d, hd, q⟩ := hh z z1 (by omega)
        exact ⟨d, List.mem_append_left _ hd, q⟩
    · rw [List.length_append, List.length_singleton]; omega
    · omega
  · rintro n' ρ' ⟨k, m', fd, hrs, hkm, hk1, hok, hh, hfl, hn, rfl⟩
    cases m' with
    | succ m' => rw [upTo_succ] at hrs; cases hrs
    | zero =>
    have ek : k = r := by omega
    subst ek
    refine ds_seq ?_
    refine ds_forR (LW := fun rs n' ρ => ∃ fd : List Door, (∀ d ∈ fd, drOk k d) ∧ Hang k fd ∧ fd.length + rs.length ≤ (k - 1 + m).toNat ∧ n + 30 * rs.length ≤ n' + 30 * ((k - 1).toNat + m.toNat) + 1 ∧ ρ = [some (false, .raw L.s), some (false, .int k), some (false, .int m), some (true, .lst (fd.map dDoor)), none, none, none, none, none]) (di_range1 ?_) ?_ ?_
    · repeat' (walk_at "hd1")
      rename_i n1 a1 hn1 a10 a11
      refine ⟨by omega, by omega, _, ?_, fd, hok, hh, ?_, ?_, rfl⟩
      · repeat' (walk_at "rfn")
      · rw [upTo_len]; omega
      · rw [upTo_len]; omega
    · rintro d rs n' ρ' ⟨fd, hok, hh, hfl, hn, rfl⟩
      simp only [List.length_cons] at hfl hn
      repeat' (walk_at "hd1")
      rename_i n1 a1 hn1 a10 a11 n2 a2 hn2 a20 a21 n3 b3 d3 hn3 r3 n4 b4 d4 hn4 r4
      obtain ⟨_, x, rfl, hx⟩ := r3
      obtain ⟨_, y, rfl, hy⟩ := r4
      have em : fd.map dDoor ++ [D.tup [.int a1, .int x, .int a2, .int y]] = (fd ++ [(⟨a1, x, a2, y⟩ : Door)]).map dDoor := by rw [List.map_append]; rfl
      rw [em]
      refine ⟨_, ?_, fd ++ [⟨a1, x, a2, y⟩], ?_, ?_, ?_, ?_, rfl⟩
      · repeat' (walk_at "rfn")
      · intro d hd
        rcases List.mem_append.mp hd with hd | hd
        · exact hok d hd
        · rw [List.mem_singleton.mp hd]
          exact ⟨⟨a10, a11⟩, ⟨a20, a21⟩, hx, hy⟩
      · intro z z1 z2
        obtain ⟨d, hd, q⟩ := hh z z1 z2
        exact ⟨d, List.mem_append_left _ hd, q⟩
      · rw [List.length_append, List.length_singleton]; omega
      · omega
    · rintro n' ρ' ⟨fd, hok, hh, hfl, hn, rfl⟩
      simp only [List.length_nil] at hfl hn
      refine ds_seq ?_
      refine ds_freeze (i := 3) rfl ?_
      refine ds_asgx (DF.de (df_lc_cost 1 fl (noOwn_by rfl) (di_seq (de_var rfl ⟨_, .inl rfl, ?_⟩)) in_self))
      refine ⟨szl (by rw [List.length_map]; omega), by rw [List.length_map]; omega, fun n2 d hd hc2 => dg_name ?_, fun n2 ys hn2 hys => ?_⟩
      · obtain ⟨dd, hdd, rfl⟩ := List.mem_map.mp hd
        repeat' (walk_at "hd1")
        · exact ⟨by omega, dd, rfl, .inl rfl⟩
        · exact ⟨by omega, dd, rfl, .inr rfl⟩
      · have hyl := hys.len
        rw [List.length_map] at hyl hn2
        have hdr : DrHs k (k - 1 + m).toNat fd := ⟨hok, hh, by omega⟩
        have hpy : pds 59 ys = true := pds_mem.mpr fun y hy => by
          obtain ⟨x, _, dd, _, q⟩ := (each_mem hys).1 y hy
          rcases q with rfl | rfl <;> rfl
        repeat' (walk_at "hd1")
        refine ⟨rfl, by omega, ⟨ys, .inl rfl, hpy, by omega⟩, fun n3 b3 d3 hn3 r3 => ?_⟩
        obtain ⟨l', rfl, hperm⟩ := r3
        obtain ⟨dl, rfl, hD⟩ := mixed_doors hdr hys (hperm ys (.inl rfl))
        repeat' (walk_at "hd1")
        refine ⟨by omega, fun r' m' e => ?_⟩
        simp only [List.cons.injEq, D.int.injEq, and_true, true_and] at e
        rw [← e.1, ← e.2]
        exact ⟨dl, rfl, hD⟩
def wkHsPre {K : PySem.W.Frag} {Tt : List (Addr × Str)} (L : LP K Tt) (ds : List D) : Prop := ∃ a b : Int, ds = [.raw L.s, .int a, .int b] ∧ (1 ≤ a ∧ a ≤ 6) ∧ 0 ≤ b ∧ b ≤ 5
def wkHsR {K : PySem.W.Frag} {Tt : List (Addr × Str)} (L : LP K Tt) (ds : List D) (_ : Bool) (d : D) : Prop := ∃ (r : Int) (dl : List Door), d = .tup [.int r, .tup (dl.map dDoor)] ∧ (1 ≤ r ∧ r ≤ 6) ∧ HouseOk r dl ∧ dl.length ≤ 10
abbrev sp__law_wk_house (K : PySem.W.Frag) (Tt : List (Addr × Str)) : Sp := spL K Tt 3 502 wkHsPre wkHsR
theorem ok__law_wk_house (T : Txt K mg) (Dd : Def K mg "_law_wk_house" s__law_wk_house ["_law_state", "_law_most_rooms", "_law_more"])
    (C__law_draw : Cal P w K mg base 2 "_law_draw" s__law_draw ["_law_state", "_law_size_here"] (sp__law_draw K Tt))
    (C__law_doors : Cal P w K mg base 5 "_law_doors" s__law_doors ["_law_state", "_law_rooms_here", "_law_more"] (sp__law_doors K Tt)) :
    Cal P w K mg base 6 "_law_wk_house" s__law_wk_house ["_law_state", "_law_most_rooms", "_law_more"] (sp__law_wk_house K Tt) := by
  refine Dd.okL sc__law_wk_house rfl fun f cdv A outer s H E hr => ⟨_, (pss_cons (ps_set (i := 3) sc__law_wk_house.nd rfl (by first | exact Or.inl rfl | exact Or.inr rfl) (pe_op (kO (r := rAddU) op_addU (K := K) rfl) (pe_int) (pe_cal C__law_draw (hr.mono (by decide)) passD (by rfl) (pa_cons (pv 0) (pa_cons (pv 1) pa_nil)))))
    (pss_one (ps_ret (pe_tup (pa_cons (pv 3) (pa_cons (pe_cal C__law_doors (hr.mono (by decide)) passD (by rfl) (pa_cons (pv 0) (pa_cons (pv 3) (pa_cons (pv 2) pa_nil)))) pa_nil)))))), ?_⟩
  rintro L W n ds hV hG hE hl hc hp
  obtain ⟨a, b, rfl, ⟨a0, a1⟩, b0, b1⟩ := hp
  repeat' (walk_at "hd1")
  rename_i n1 k hn1 k0 k1
  refine ⟨rfl, by omega, ⟨1 + k, b, rfl, ⟨by omega, by omega⟩, b0, by omega⟩, fun n3 b3 d3 hn3 r3 => ?_⟩
  obtain ⟨dl, rfl, hD⟩ := r3 (1 + k) b rfl
  repeat' (walk_at "hd1")
  exact ⟨by omega, 1 + k, dl, rfl, ⟨by omega, by omega⟩, hD.house (by omega) (by omega) (by omega), by have := hD.len; omega⟩
theorem doorsB_long {r : Int} {l : List D} (h : 20 < l.length) : doorsB r (.tup l) = false := by
  show (decide (l.length ≤ 20) && l.all (doorB r)) = false
  rw [decide_eq_false (by omega), Bool.false_and]
theorem upTo_first {p : D → Bool} : ∀ (m : Nat) (a : Int), ((HD.upTo a m).filter p = [] ∧ ∀ j, a ≤ j → j < a + m → p (.int j) = false) ∨ ∃ (i : Int) (ts : List Int), (HD.upTo a m).filter p = (i :: ts).map D.int ∧ (a ≤ i ∧ i < a + m) ∧ p (.int i) = true ∧ ∀ j, a ≤ j → j < i → p (.int j) = false
  | 0, a => .inl ⟨rfl, fun j h1 h2 => absurd h2 (by omega)⟩
  | m + 1, a => by
    rw [upTo_succ]
    by_cases h : p (.int a) = true
    · obtain ⟨ts, e⟩ := all_map (f := D.int) (l := (HD.upTo (a + 1) m).filter p) fun y hy => by
        obtain ⟨z, _, e⟩ := List.mem_map.mp (List.mem_filter.mp hy).1
        exact ⟨_, e.symm⟩
      exact .inr ⟨a, ts, by rw [List.filter_cons_of_pos h, e]; rfl, by omega, h, fun j h1 h2 => absurd h2 (by omega)⟩
    · rw [List.filter_cons_of_neg h]
      have h : p (.int a) = false := by simpa using h
      rcases upTo_first (p := p) m (a + 1) with ⟨h1, h2⟩ | ⟨i, t, h1, h2, h3, h4⟩
      · refine .inl ⟨h1, fun j j1 j2 => ?_⟩
        by_cases e : j = a
        · rw [e]; exact h
        · exact h2 j (by omega) (by omega)
      · refine .inr ⟨i, t, h1, by omega, h3, fun j j1 j2 => ?_⟩
        by_cases e : j = a
        · rw [e]; exact h
        · exact h4 j (by omega) j2
noncomputable def notIn (l : List D) (d : D) : Bool := @decide (¬ d ∈ l) (Classical.propDecidable _)
theorem notIn_t {l : List D} {d : D} : notIn l d = true ↔ ¬ d ∈ l := by unfold notIn; exact @decide_eq_true_iff _ (Classical.propDecidable _)
theorem notIn_f {l : List D} {d : D} : notIn l d = false ↔ d ∈ l := by
  rw [← Bool.not_eq_true, notIn_t]; exact Classical.not_not
theorem in_ints {l : List Int} {i : Int} : D.int i ∈ l.map D.int ↔ i ∈ l := by
  rw [List.mem_map]
  exact ⟨fun ⟨x, h, e⟩ => by injection e with e; rw [← e]; exact h, fun h => ⟨i, h, rfl⟩⟩
def shutU (kn : List Int) (ds rs : List Door) : Prop := ∀ d ∈ ds, d ∈ rs ∨ (d.near ∈ kn ↔ d.far ∈ kn)
theorem shut_all {dl : List Door} {kn : List Int} (J : JI dl kn []) (h : shutU kn dl []) : ∀ x, x ∈ kn ↔ Reach dl x := J.all fun x hx y hy => by
  obtain ⟨d, hd, q⟩ := hy
  have := (h d hd).resolve_left (fun z => nomatch z)
  rcases q with ⟨rfl, rfl⟩ | ⟨rfl, rfl⟩
  · exact this.mp hx
  · exact this.mpr hx
theorem ji_push {dl : List Door} {kn : List Int} {x y : Int} (J : JI dl kn []) (hx : x ∈ kn) (a : Adj dl x y) (hy : y ∉ kn) : JI dl (kn ++ [y]) [] := by
  have := J.push (J.re x hx) a hy
  exact ⟨this.z, fun _ h => (nomatch h), this.nd, this.en, this.re, Nat.zero_le _⟩
def refPre {K : PySem.W.Frag} {Tt : List (Addr × Str)} (L : LP K Tt) (ds : List D) : Prop := ∃ (r : Int) (dl : List Door), ds = [.raw L.s, .int r, .tup (dl.map dDoor)] ∧ HouseOk r dl ∧ r ≤ 6 ∧ dl.length ≤ 11
def refR {K : PySem.W.Frag} {Tt : List (Addr × Str)} (_ : LP K Tt) (_ : List D) (_ : Bool) (d : D) : Prop := d = .bl true
/-- what the least room apart comes to -/
def apO (r : Int) (dl : List Door) (o : Out) : Prop := (o = .ret false .non ∧ ∀ i, 0 ≤ i → i < r → Reach dl i) ∨ ∃ i : Int, o = .ret false (.int i) ∧ (0 ≤ i ∧ i < r) ∧ ¬ Reach dl i ∧ ∀ j, 0 ≤ j → j < i → Reach dl j
/-- a, b = new, e, through a tuple -/
theorem ds_asg_os {W : Wd} {n : Nat} {ρ : Rho} {K : PySem.W.Frag} {ta tb : TE} {N : Nat → Rho → Prop} {R : Nat → Bool → D → Prop} {B C : Nat → Rho → Prop} {i j : Nat} (h : DF ta W n ρ fun n d1 => DE tb W n ρ fun n d2 => N n ((ρ.set i (some (true, d1))).set j (some (false, d2)))) : DS (tAsg (tTup (tCons ta (tCons tb tNil))) (gTup K 2 (gCons (gName i) (gCons (gName j) gNil)))) W n ρ N R B C := fun Z T σ H e De f =>
  h Z T σ H e _ fun n a o d1 H1 p1 e1 ho => p1 ((a, o) :: Z) (zipT (oVs o) (dVs d1) ++ T) σ H1 (e1.pushAll ho.all) _ fun n v d2 H2 p2 e2 iv => ⟨by show 2 ≤ sizeLine; decide, fun p hp => by
    have hl := ho.all.len
    have e3 : Env W n ((a, o) :: Z) ((v, d2) :: (zipT (oVs o) (dVs d1) ++ T)) ρ σ (upd H2 p (.tup [.ref a, v])) := ((e2.push iv).lay (o := .tup [.ref a, v]) hp).zpop
    have iv' := e3.top
    have i1 := (e3.pop1).topAll hl
    have hoo : Ob (XX W ((a, o) :: Z) ρ σ) (upd H2 p (.tup [.ref a, v])) o d1 := ho.re i1
    have e4 : Env W n ((a, o) :: Z) ((v, d2) :: T) ρ σ (upd H2 p (.tup [.ref a, v])) := ((e3.pop1).popAll).push iv'
    have t1 := e4.take (i := i) hoo
    have t2 := t1.set (i := j) t1.top
    exact ⟨p, [.ref a, v], rfl, .of (upd_same), rfl, .ref a, [v], rfl, v, [], rfl, rfl, f.nx _ _ _ _ p2 t2.pop1⟩⟩
def apPre (ds : List D) : Prop := ∃ (r : Int) (dl : List Door), ds = [.int r, .tup (dl.map dDoor)] ∧ (1 ≤ r ∧ r ≤ 12) ∧ dl.length ≤ 20
def apR (ds : List D) (o : Out) : Prop := ∀ (r : Int) (dl : List Door), ds = [.int r, .tup (dl.map dDoor)] → apO r dl o
abbrev sp__law_wk_apart (K : PySem.W.Frag) (Tt : List (Addr × Str)) : Sp := PR 2 apPre apR
theorem ok__law_wk_apart (T : Txt K mg) (Dd : Def K mg "_law_wk_apart" s__law_wk_apart ["_law_rooms_here", "_law_doors_here"]) :
    Cal P w K mg base 1 "_law_wk_apart" s__law_wk_apart ["_law_rooms_here", "_law_doors_here"] (sp__law_wk_apart K Tt) := by
  refine Dd.ok sc__law_wk_apart rfl stab0 fun f cdv A outer s H E hr => ⟨_, (pss_cons (ps_asg (pe_tup (pa_cons (pe_lst (pa_cons (pe_int) pa_nil)) (pa_cons (pe_bl) pa_nil))) (pg_tup (n := 2) rfl (pgs_cons (pg_name (i := 2) sc__law_wk_apart.nd rfl (by first | exact Or.inl rfl | exact Or.inr rfl)) (pgs_cons (pg_name (i := 3) sc__law_wk_apart.nd rfl (by first | exact Or.inl rfl | exact Or.inr rfl)) pgs_nil))))
    (pss_cons (ps_while passOwnU (pt_val (pv 3)) (pss_cons (ps_set (i := 3) sc__law_wk_apart.nd rfl (by first | exact Or.inl rfl | exact Or.inr rfl) (pe_bl))
    (pss_one (ps_for passOwnU rfl (pi_seq (pv 1)) (pg_tup (n := 4) rfl (pgs_cons (pg_name (i := 4) sc__law_wk_apart.nd rfl (by first | exact Or.inl rfl | exact Or.inr rfl)) (pgs_cons (pg_name (i := 5) sc__law_wk_apart.nd rfl (by first | exact Or.inl rfl | exact Or.inr rfl)) (pgs_cons (pg_name (i := 6) sc__law_wk_apart.nd rfl (by first | exact Or.inl rfl | exact Or.inr rfl)) (pgs_cons (pg_name (i := 7) sc__law_wk_apart.nd rfl (by first | exact Or.inl rfl | exact Or.inr rfl)) pgs_nil))))) (pss_one (ps_if (pt_cmpR (kO (r := rNeD) (op_neU hr) (K := K) rfl) (pe_cmpR (kO (r := rInU) (op_inU hr) (K := K) rfl) (pv 4) (pv 2) (by rfl)) (pe_cmpR (kO (r := rInU) (op_inU hr) (K := K) rfl) (pv 6) (pv 2) (by rfl)) (nomark _)) (pss_cons (ps_expr (pe_bm PySem.F.plainAttrs_list PySem.F.slot_list_append PySem.F.type_list_append mt_append (pv 2) (pa_cons (pe_ifExp (pt_cmpR (kO (r := rInU) (op_inU hr) (K := K) rfl) (pv 4) (pv 2) (by rfl)) (pv 6) (pv 4)) pa_nil)))
    (pss_one (ps_set (i := 3) sc__law_wk_apart.nd rfl (by first | exact Or.inl rfl | exact Or.inr rfl) (pe_bl)))) pss_nil))))))
    (pss_cons (ps_setLc (i := 8) (own := [("_law_spot", 9)]) rfl sc__law_wk_apart.nd rfl rfl (sw_true rfl rfl rfl (by decide +kernel)) (pi_range1 (by rfl) T.b_range (pa_cons (pv 0) pa_nil)) (blkOk_by (own := [("_law_spot", 9)]) (N := ["_law_rooms_here", "_law_doors_here", "_law_known", "_law_grown", "_law_near", "_law_first", "_law_far", "_law_second", "_law_left", "_law_spot"]) (sc := defScope s__law_wk_apart) (by decide +kernel)) (fun _ _ _ _ _ => (pg_name (i := 9) sc__law_wk_apart.nd rfl (by first | exact Or.inl rfl | exact Or.inr rfl))) (fun _ _ _ _ _ => (pts_one (pt_cmpR (kO (r := rNotInU) (op_notInU hr) (K := K) rfl) (pv 9) (pv 2) (by rfl)))) (fun _ _ _ _ _ => (pv 9)))
    (pss_one (ps_ret (pe_ifExp (pt_cmpR (kO (r := rNeD) (op_neU hr) (K := K) rfl) (pv 8) (pe_lst pa_nil) (nomark _)) (pe_ix (kI (r := rIxU) (ix_U (u1 hr)) (K := K) rfl) (pv 8) (pe_int) (fun _ _ => rfl)) (pe_non))))))), ?_⟩
  rintro W n0 ds hV hG hE hEP hl hp
  match ds, hl, hp with
  | _, _, ⟨r, dl, rfl, ⟨r1, r2⟩, l20⟩ =>
  have fin : ∀ o, apO r dl o → apR [.int r, .tup (dl.map dDoor)] o := fun o m r' dl' e => by
    simp only [List.cons.injEq, D.int.injEq, and_true] at e
    obtain ⟨rfl, e⟩ := e
    rw [← tup_doors e]
    exact m
  refine ds_seq (ds_asg_os (df_lst (da_cons (de_int (da_nil ⟨szl (by show 1 ≤ 100000; decide), de_bl ?_⟩)))))
  refine ds_seq ?_
  refine ds_whileR (fun m n ρ => ∃ (kn : List Int) (b : Bool), JI dl kn [] ∧ (b = false → shutU kn dl []) ∧ m = 2 * ((ends dl).length - kn.length) + (if b = true then 1 else 0) ∧ ρ = [some (false, .int r), some (false, .tup (dl.map dDoor)), some (true, .lst (kn.map D.int)), some (false, .bl b), none, none, none, none, none, none]) (2 * ((ends dl).length - 1) + 1) ⟨_, Rfn.refl _, [0], true, ⟨List.mem_cons_self, fun _ h => (nomatch h), by simp, fun x hx => by rw [List.mem_singleton.mp hx]; exact List.mem_cons_self, fun x hx => by rw [List.mem_singleton.mp hx]; exact .zero, Nat.zero_le _⟩, fun q => (nomatch q), rfl, rfl⟩ ?_
  rintro m n ρ' ⟨kn, b, J, hs, rfl, rfl⟩
  have hke := nodup_len J.nd J.en
  cases b with
  | true =>
    repeat' (walk_at "hd2")
    refine ds_forR (LW := fun rs n ρ => ∃ (kn' : List Int) (b' : Bool) (ds' : List Door), rs = ds'.map dDoor ∧ (∀ d ∈ ds', d ∈ dl) ∧ JI dl kn' [] ∧ (kn.length ≤ kn'.length) ∧ (b' = true → kn.length < kn'.length) ∧ (b' = false → kn' = kn ∧ shutU kn dl ds') ∧ ρ = [some (false, .int r), some (false, .tup (dl.map dDoor)), some (true, .lst (kn'.map D.int)), some (false, .bl b'), none, none, none, none, none, none]) (di_seqT (de_var rfl ⟨_, rfl, _, Rfn.refl _, kn, false, dl, rfl, fun _ h => h, J, Nat.le_refl _, fun q => (nomatch q), fun _ => ⟨rfl, fun d hd => .inl hd⟩, rfl⟩)) ?_ ?_
    · rintro d rs n ρ' ⟨kn', b', ds', hrs, hsub, J', hl1, hl2, hb, rfl⟩
      cases ds' with
      | nil => cases hrs
      | cons dd ds' =>
      simp only [List.map_cons, List.cons.injEq] at hrs
      obtain ⟨rfl, rfl⟩ := hrs
      have hdd := hsub dd List.mem_cons_self
      have hsub' : ∀ d ∈ ds', d ∈ dl := fun d hd => hsub d (List.mem_cons_of_mem _ hd)
      have q1 : pds 60 (kn'.map D.int) = true := pds_map (fun _ => rfl) _
      have hke' := nodup_len J'.nd J'.en
      rw [ends_len] at hke'
      have em : ∀ x : Int, kn'.map D.int ++ [D.int x] = (kn' ++ [x]).map D.int := fun x => by rw [List.map_append]; rfl
      refine' dgx (dg_tup rfl ?_)
      repeat' (walk_at "hd2")
      · rename_i b1 h1 b2 h2 hne b3 h3 hb3
        rw [in_ints] at h1 h2 h3
        have y1 : dd.near ∈ kn' := h3.mp hb3
        have n1 : ¬ dd.far ∈ kn' := fun q => by rw [h1.mpr y1, h2.mpr q] at hne; cases hne
        have J2 := ji_push J' y1 ⟨dd, hdd, .inl ⟨rfl, rfl⟩⟩ n1
        rw [em]
        refine ⟨_, ?_, kn' ++ [dd.far], true, ds', rfl, hsub', J2, by rw [List.length_append]; omega, fun _ => by rw [List.length_append, List.length_singleton]; omega, fun q => (nomatch q), rfl⟩
        repeat' (walk_at "rfn")
      · rename_i b1 h1 b2 h2 hne b3 h3 hb3
        rw [in_ints] at h1 h2 h3
        have n1 : ¬ dd.near ∈ kn' := fun q => by rw [h3.mpr q] at hb3; cases hb3
        have y1 : dd.far ∈ kn' := by
          have e1 : b1 = false := by
            rw [← Bool.not_eq_true]
            exact fun z => n1 (h1.mp z)
          rw [e1] at hne
          cases b2 with
          | true => exact h2.mp rfl
          | false => cases hne
        have J2 := ji_push J' y1 ⟨dd, hdd, .inr ⟨rfl, rfl⟩⟩ n1
        rw [em]
        refine ⟨_, ?_, kn' ++ [dd.near], true, ds', rfl, hsub', J2, by rw [List.length_append]; omega, fun _ => by rw [List.length_append, List.length_singleton]; omega, fun q => (nomatch q), rfl⟩
        repeat' (walk_at "rfn")
      · rename_i b1 h1 b2 h2 hne
        rw [in_ints] at h1 h2
        have e12 : b1 = b2 := by cases b1 <;> cases b2 <;> first | rfl | cases hne
        refine ⟨_, ?_, kn', b', ds', rfl, hsub', J', hl1, hl2, fun q => ?_, rfl⟩
        · repeat' (walk_at "rfn")
        · obtain ⟨rfl, h⟩ := hb q
          refine ⟨rfl, fun d hd => ?_⟩
          rcases h d hd with z | z
          · rcases List.mem_cons.mp z with rfl | z
            · exact .inr (by rw [← h1, ← h2, e12])
            · exact .inl z
          · exact .inr z
    · rintro n ρ' ⟨kn', b', ds', hrs, hsub, J', hl1, hl2, hb, rfl⟩
      cases ds' with
      | cons dd ds' => cases hrs
      | nil =>
      have hke' := nodup_len J'.nd J'.en
      refine ⟨_, ?_, _, Rfn.refl _, kn', b', J', fun q => ?_, rfl, rfl⟩
      · cases b' with
        | true =>
          have := hl2 rfl
          show 2 * ((ends dl).length - kn'.length) + 1 < 2 * ((ends dl).length - kn.length) + 1
          omega
        | false =>
          obtain ⟨rfl, _⟩ := hb rfl
          show 2 * ((ends dl).length - kn'.length) + 0 < 2 * ((ends dl).length - kn'.length) + 1
          omega
      · obtain ⟨rfl, h⟩ := hb q
        exact h
  | false =>
    have hall := shut_all J (hs rfl)
    have q1 : pds 60 (kn.map D.int) = true := pds_map (fun _ => rfl) _
    have hm : ∀ j : Int, notIn (kn.map D.int) (.int j) = false ↔ Reach dl j := fun j => by rw [notIn_f, in_ints]; exact hall j
    have hm2 : ∀ j : Int, notIn (kn.map D.int) (.int j) = true → ¬ Reach dl j := fun j h q => by rw [(hm j).mpr q] at h; cases h
    iterate 2 (walk_at "hd2")
    refine ⟨_, rfl, fun q => (nomatch q), fun _ => ?_⟩
    refine ds_freeze (i := 2) rfl ?_
    repeat' (walk_at "hd2")
    refine DF.de (df_lc_filterE (notIn (kn.map D.int)) (fun d => d) (noOwn_by rfl) (di_range1 ?_) in_self)
    repeat' (walk_at "hd2")
    refine ⟨by omega, by omega, szl (by rw [upTo_len]; omega), fun d hd => dg_name ?_, ?_⟩
    · obtain ⟨i, hi, rfl⟩ := List.mem_map.mp hd
      repeat' (walk_at "hd2")
      rename_i b hb
      refine ⟨rfl, ?_, fun _ => de_var rfl ⟨rfl, rfl⟩⟩
      rw [Bool.eq_iff_iff, hb, notIn_t]
    · rw [List.map_id']
      rcases upTo_first (p := notIn (kn.map D.int)) r.toNat 0 with ⟨h1, h2⟩ | ⟨i, t, h1, ⟨h2, h3⟩, h4, h5⟩
      · rw [h1]
        repeat' (walk_at "hd2")
        exact fin _ (.inl ⟨rfl, fun i i0 i1 => (hm i).mp (h2 i i0 (by omega))⟩)
      · rw [h1]
        repeat' (walk_at "hd2")
        refine r_neNil (ns := i :: t) ?_
        refine ⟨_, rfl, fun hb => ?_, fun hb => by cases hb⟩
        rw [List.map_cons]
        repeat' (walk_at "hd2")
        exact fin _ (.inr ⟨i, rfl, ⟨h2, by omega⟩, hm2 i h4, fun j j0 j1 => (hm j).mp (h5 j j0 j1)⟩)
def moPre {K : PySem.W.Frag} {Tt : List (Addr × Str)} (_ : LP K Tt) (ds : List D) : Prop := ∃ (r : Int) (dl : List Door), ds = [.int r, .tup (dl.map dDoor)] ∧ (1 ≤ r ∧ r ≤ 12) ∧ (∀ e ∈ dl, doorOk r e) ∧ dl.length ≤ 20
def moR {K : PySem.W.Frag} {Tt : List (Addr × Str)} (_ : LP K Tt) (_ : List D) (_ : Bool) (d : D) : Prop := d = .bl true
abbrev sp__law_made_or_apart (K : PySem.W.Frag) (Tt : List (Addr × Str)) : Sp := spL K Tt 2 0 moPre moR
theorem ok__law_made_or_apart (T : Txt K mg) (Dd : DefC K mg "_law_made_or_apart" s__law_made_or_apart ["_law_rooms_here", "_law_doors_here"] c) (Dc : Def K mg "_law_caught" s__law_caught ["_law_work"]) (TB : LamX.TabB base mg c Pt) (mem : (Pt, ("_law_made_or_apart.<locals>.<lambda>" : Str)) ∈ Tt) (only : ∀ p ∈ Tt, p.1 = Pt → p.2 = ("_law_made_or_apart.<locals>.<lambda>" : Str))
    (C__law_wk_apart : Cal P w K mg base 1 "_law_wk_apart" s__law_wk_apart ["_law_rooms_here", "_law_doors_here"] (sp__law_wk_apart K Tt))
    (C_House : CalC P w K mg base 5 "House" "House.__init__" s_House_init ["rooms", "doors"] (He.ga K "House") (sp_House K Tt))
    (C_Apart : SupOk P w K mg base 1 "Apart" (He.ga K "Apart") "room") :
    Cal P w K mg base 9 "_law_made_or_apart" s__law_made_or_apart ["_law_rooms_here", "_law_doors_here"] (sp__law_made_or_apart K Tt) := by
  refine Dd.okL sc__law_made_or_apart rfl fun f A outer s H E hr => ?_
  have M_caught : LamD (cxD P w K mg base ["_law_rooms_here", "_law_doors_here", "_law_due", "_law_caught_here", "_law_found"] "_law_made_or_apart" s__law_made_or_apart f (.ref c) A outer s H E) Tt "_law_caught" "_law_work" c Pt (TCaught K (He.ga K "PullError")) :=
    LamD.of Dc sc__law_caught rfl (Or.inl rfl) (fun g cdv => caught_gives T.c_PullError) TB rfl mem only
  refine ⟨_, (pss_cons (ps_set (i := 2) sc__law_made_or_apart.nd rfl (by first | exact Or.inl rfl | exact Or.inr rfl) (pe_cal C__law_wk_apart (hr.mono (by decide)) passD (by rfl) (pa_cons (pv 0) (pa_cons (pv 1) pa_nil))))
    (pss_cons (ps_if (pt_cmpR op_isnU (pv 2) (pe_non) (nomark _)) (pss_cons (ps_set (i := 3) sc__law_made_or_apart.nd rfl (by first | exact Or.inl rfl | exact Or.inr rfl) (pe_lam1 (k := 6) (t := fun E => _) M_caught (by rfl) (hr.mono (by decide)) (LamX.lamS_by (sc := defScope s__law_made_or_apart) (by decide +kernel)) rfl (fun _ _ _ _ _ => rfl) (fun _ _ _ _ _ _ _ hr => (pe_mk C_House (hr.mono (by decide)) passLam (by rfl) (pa_cons (pv 0) (pa_cons (pv 1) pa_nil))))))
    (pss_one (ps_ret ((pe_and (pe_callB (call_isSame (C := He.ga K "Apart")) (by rfl) T.b_isinstance bb_isinstance (pa_cons (pv 3) (pa_cons (pe_glob (v := .ref _) (by rfl) T.c_Apart rfl) pa_nil))) (pe_one (pe_cmpR (kO (r := rEqD) (op_eqU hr) (K := K) rfl) (pe_xfS C_Apart.xc C_Apart.no (pv 3)) (pv 2) (nomark _)))))))) pss_nil)
    (pss_cons (ps_set (i := 4) sc__law_made_or_apart.nd rfl (by first | exact Or.inl rfl | exact Or.inr rfl) (pe_mkK0 (ks := ["rooms", "doors"]) C_House [0, 1] (fun _ _ _ _ _ _ u ws h => match ws, h with | [_, _], _ => rfl) (hr.mono (by decide)) passD (by rfl) (pk_cons (pv 0) (pk_cons (pv 1) pk_nil))))
    (pss_one (ps_ret ((pe_and (pe_cmpR (kO (r := rEqD) (op_eqU hr) (K := K) rfl) (pe_fldK (K := K) rfl (pv 4) rfl) (pv 0) (nomark _)) (pe_and (pe_cmpR (kO (r := rEqD) (op_eqU hr) (K := K) rfl) (pe_fldK (K := K) rfl (pv 4) rfl) (pv 1) (nomark _)) (pe_one (pe_callB (kC (r := rIsiU) call_isiU (K := K) rfl) (by rfl) T.b_isinstance bb_isinstance (pa_cons (pe_fldK (K := K) rfl (pv 4) rfl) (pa_cons (pe_bltn (v := .ty "tuple") (by rfl) T.b_tuple bb_tuple rfl) pa_nil)))))))))))), ?_⟩
  rintro L W n ds hV hG hE hl hc hp
  obtain ⟨r, dl, rfl, ⟨r1, r2⟩, dk, l20⟩ := hp
  have ap : apPre [.int r, .tup (dl.map dDoor)] := ⟨r, dl, rfl, ⟨r1, r2⟩, l20⟩
  have px : preHX (.int r) (.tup (dl.map dDoor)) := preHX_d (by omega)
  refine ds_cut (fun n' ρ' => n' = n ∧ ∃ due : D, apO r dl (.ret false due) ∧ ρ' = [some (false, .int r), some (false, .tup (dl.map dDoor)), some (false, due), none, none]) ?_ ?_
  · repeat' (walk_at "hd2")
    refine ⟨rfl, ap, fun o ho => ?_⟩
    have ho := ho r dl rfl
    rcases ho with ⟨rfl, h⟩ | ⟨i, rfl, h⟩
    · exact ⟨_, _, rfl, rfl, _, .inl ⟨rfl, h⟩, rfl⟩
    · exact ⟨_, _, rfl, rfl, _, .inr ⟨i, rfl, h⟩, rfl⟩
  rintro n1 ρ' ⟨rfl, due, hd, rfl⟩
  rcases hd with ⟨e, h⟩ | ⟨i, e, h1, h2, h3⟩
  · injection e with _ e
    subst e
    have O : HouseOk r dl := ⟨r1, r2, l20, dk, h⟩
    have E1 : fHX K (.int r) (.tup (dl.map dDoor)) = .ret true (dHs (⟨r, dl⟩ : HH K)) := fHX_eq (.mOk O)
    have q1 : pd 60 (.tup (dl.map dDoor)) = true := pds_map (fun _ => rfl) _
    have cl := T.cl_House
    repeat' (walk_at "hd2")
    · exact ⟨Nat.le_refl _, rfl⟩
    · rename_i hb
      rw [decide_eq_true (show (⟨r, dl⟩ : HH K).rooms = r from rfl)] at hb
      cases hb
  · injection e with _ e
    subst e
    have E1 : fHX K (.int r) (.tup (dl.map dDoor)) = .exc (He.ga K "Apart") ["room"] [.int i] := fHX_eq (.mAp r1 r2 dk l20 h1 h2 h3)
    repeat' (walk_at "hd2")
    refine de_caughtF L hV hG mem fun W' E' wV wG wE wEP => ?_
    refine de_pf2E wE ?_
    repeat' (walk_at "hd2")
    refine ⟨px, ?_⟩
    rw [E1]
    show W'.EP _ _ _ _
    rw [wEP]
    refine ⟨T.m_Apart, ?_⟩
    repeat' (walk_at "hd2")
    exact ⟨Nat.le_refl _, by rw [decide_eq_true (show i = i from rfl)]; rfl⟩
def preTr : List D → Prop
  | [.bl _, .bl _] => True
  | _ => False
def fTr : List D → Out
  | [.bl f, .bl d] => .ret false (.bl (if d = true then f else !f))
  | _ => .ret false .non
theorem tr_self (b : Bool) : (if b = true then b else !b) = true := by cases b <;> rfl
abbrev sp__law_is_truth (K : PySem.W.Frag) (Tt : List (Addr × Str)) : Sp := PD 2 preTr fTr
theorem ok__law_is_truth (T : Txt K mg) (Dd : Def K mg "_law_is_truth" s__law_is_truth ["_law_found", "_law_due"]) :
    Cal P w K mg base 1 "_law_is_truth" s__law_is_truth ["_law_found", "_law_due"] (sp__law_is_truth K Tt) := by
  refine Dd.ok sc__law_is_truth rfl stab0 fun f cdv A outer s H E hr => ⟨_, (pss_one (ps_ret (pe_ifExp (pt_val (pv 1)) (pe_cmpR op_isU (pv 0) (pe_bl) (nomark _)) (pe_cmpR op_isU (pv 0) (pe_bl) (nomark _))))), ?_⟩
  rintro W n0 ds hV hG hE hEP hl hp
  match ds, hl, hp with
  | [.bl a, .bl d], _, _ =>
  cases d <;> cases a <;> repeat' (walk_at "hd1")
  all_goals rfl
theorem cut_up {l : List D} {i : Int} (i0 : 0 ≤ i) : HD.cutD l none (some i) = l.take i.toNat := by
  by_cases h : i ≤ l.length
  · exact cut_to i0 h
  · show (l.drop 0).take ((if i < 0 then (i + (l.length : Int)).toNat else min i.toNat l.length) - 0) = _
    rw [if_neg (by omega), List.drop_zero, Nat.sub_zero, Nat.min_eq_right (by omega), List.take_length, List.take_of_length_le (by omega)]
def eH (p : Int × List Door) : D := .tup [.int p.1, .tup (p.2.map dDoor)]
def nbD : Nat → List Door → List D
  | _, [] => []
  | i, e :: es => .tup [.int (i : Int), dDoor e] :: nbD (i + 1) es
theorem nbD_get : ∀ {ds : List Door} {k i : Nat}, (nbD k ds)[i]? = (ds[i]?).map fun e => D.tup [.int ((k + i : Nat) : Int), dDoor e]
  | [], _, _ => by simp [nbD]
  | e :: es, k, 0 => by simp [nbD]
  | e :: es, k, i + 1 => by
    show (nbD (k + 1) es)[i]? = _
    rw [nbD_get, List.getElem?_cons_succ, show k + 1 + i = k + (i + 1) by omega]
theorem numb_nb (ds : List Door) : HD.numb (ds.map dDoor) = nbD 0 ds := by
  refine List.ext_getElem? fun i => ?_
  rw [nbD_get, Nat.zero_add]
  cases h : ds[i]? with
  | some e => rw [HD.numb_get (d := dDoor e) (by rw [List.getElem?_map, h]; rfl)]; rfl
  | none =>
    have hl := List.getElem?_eq_none_iff.mp h
    rw [List.getElem?_eq_none_iff.mpr (by rw [HD.numb_len, List.length_map]; exact hl)]; rfl
theorem house_like {r : Int} {dl dl' : List Door} (O : HouseOk r dl) (h1 : ∀ d ∈ dl', doorOk r d) (h2 : dl'.length ≤ 20) (h3 : ∀ d ∈ dl, ∃ e ∈ dl', (e.near = d.near ∧ e.far = d.far) ∨ (e.near = d.far ∧ e.far = d.near)) : HouseOk r dl' :=
  ⟨O.r1, O.r2, h2, h1, fun x x0 x1 => by
    have h := O.con x x0 x1
    clear x0 x1
    induction h with
    | zero => exact .zero
    | step _ q ih =>
      obtain ⟨d, hd, q⟩ := q
      obtain ⟨e, he, z⟩ := h3 d hd
      refine ih.step ⟨e, he, ?_⟩
      rcases z with ⟨z1, z2⟩ | ⟨z1, z2⟩ <;> rw [z1, z2]
      · exact q
      · exact q.elim (fun w => .inr ⟨w.1, w.2⟩) fun w => .inl ⟨w.1, w.2⟩⟩
theorem doorOk.more {r : Int} {d : Door} (h : doorOk r d) : doorOk (r + 1) d := ⟨⟨h.1.1, by have := h.1.2; omega⟩, ⟨h.2.1.1, by have := h.2.1.2; omega⟩, h.2.2⟩
theorem one_ok : (1 : Int) ≠ 0 ∧ -999 ≤ (1 : Int) ∧ (1 : Int) ≤ 999 := by decide
theorem house_more {r : Int} {dl : List Door} (O : HouseOk r dl) (hr : r < 12) (hl : dl.length ≤ 19) : HouseOk (r + 1) (dl ++ [⟨0, 1, r, 1⟩]) := by
  have r1 := O.r1
  refine ⟨by omega, by omega, by rw [List.length_append, List.length_singleton]; omega, fun d hd => ?_, fun x x0 x1 => ?_⟩
  · rcases List.mem_append.mp hd with hd | hd
    · exact (O.dk d hd).more
    · rw [List.mem_singleton.mp hd]
      exact ⟨⟨by show (0 : Int) ≤ 0; decide, by show (0 : Int) < r + 1; omega⟩, ⟨by show 0 ≤ r; omega, by show r < r + 1; omega⟩, one_ok, one_ok⟩
  · by_cases e : x = r
    · rw [e]
      exact Reach.zero.step ⟨⟨0, 1, r, 1⟩, List.mem_append_right _ List.mem_cons_self, .inl ⟨rfl, rfl⟩⟩
    · have h := O.con x x0 (by omega)
      clear x0 x1 e
      induction h with
      | zero => exact .zero
      | step _ q ih => exact ih.step (q.mono fun d hd => List.mem_append_left _ hd)
theorem house_one {r : Int} {dl : List Door} {e : Door} (O : HouseOk r dl) (he : doorOk r e) (hl : dl.length ≤ 19) : HouseOk r (dl ++ [e]) :=
  house_like O (fun d hd => (List.mem_append.mp hd).elim (O.dk d) fun z => by rw [List.mem_singleton.mp z]; exact he) (by rw [List.length_append, List.length_singleton]; omega) fun d hd => ⟨d, List.mem_append_left _ hd, .inl ⟨rfl, rfl⟩⟩
theorem house_rev {r : Int} {dl : List Door} (O : HouseOk r dl) : HouseOk r dl.reverse :=
  house_like O (fun d hd => O.dk d (List.mem_reverse.mp hd)) (by rw [List.length_reverse]; exact O.dl) fun d hd => ⟨d, List.mem_reverse.mpr hd, .inl ⟨rfl, rfl⟩⟩
theorem house_put {r : Int} {dl : List Door} {e d0 : Door} {i : Nat} (O : HouseOk r dl) (hi : dl[i]? = some d0) (he : doorOk r e) (h : (e.near = d0.near ∧ e.far = d0.far) ∨ (e.near = d0.far ∧ e.far = d0.near)) : HouseOk r (dl.take i ++ [e] ++ dl.drop (i + 1)) := by
  obtain ⟨hlt, hd0⟩ := List.getElem?_eq_some_iff.mp hi
  have e0 : dl = dl.take i ++ d0 :: dl.drop (i + 1) := by
    rw [← hd0, ← List.drop_eq_getElem_cons hlt, List.take_append_drop]
  have hl := O.dl
  refine house_like O (fun d hd => ?_) ?_ fun d hd => ?_
  · simp only [List.mem_append, List.mem_singleton] at hd
    rcases hd with (hd | rfl) | hd
    · exact O.dk d (List.mem_of_mem_take hd)
    · exact he
    · exact O.dk d (List.mem_of_mem_drop hd)
  · simp only [List.length_append, List.length_take, List.length_drop, List.length_singleton]
    omega
  · rw [e0] at hd
    rcases List.mem_append.mp hd with z | z
    · exact ⟨d, by simp [z], .inl ⟨rfl, rfl⟩⟩
    · rcases List.mem_cons.mp z with rfl | z
      · exact ⟨e, by simp, h⟩
      · exact ⟨d, by simp [z], .inl ⟨rfl, rfl⟩⟩
abbrev sp__law_unlike (K : PySem.W.Frag) (Tt : List (Addr × Str)) : Sp := spL K Tt 3 20 refPre refR
theorem ok__law_unlike (T : Txt K mg) (Dd : Def K mg "_law_unlike" s__law_unlike ["_law_state", "_law_rooms_here", "_law_doors_here"])
    (C_House : CalC P w K mg base 5 "House" "House.__init__" s_House_init ["rooms", "doors"] (He.ga K "House") (sp_House K Tt))
    (C__law_is_truth : Cal P w K mg base 1 "_law_is_truth" s__law_is_truth ["_law_found", "_law_due"] (sp__law_is_truth K Tt))
    (C__law_pick : Cal P w K mg base 3 "_law_pick" s__law_pick ["_law_state", "_law_several"] (sp__law_pick K Tt))
    (C_House_eq : CalM P w K mg base 1 (He.ga K "House") "__eq__" ["self", "other"] (sp_House_eq K Tt)) :
    Cal P w K mg base 7 "_law_unlike" s__law_unlike ["_law_state", "_law_rooms_here", "_law_doors_here"] (sp__law_unlike K Tt) := by
  refine Dd.okL sc__law_unlike rfl fun f cdv A outer s H E hr => ⟨_, (pss_cons (ps_set (i := 3) sc__law_unlike.nd rfl (by first | exact Or.inl rfl | exact Or.inr rfl) (pe_mk C_House (hr.mono (by decide)) passD (by rfl) (pa_cons (pv 1) (pa_cons (pv 2) pa_nil))))
    (pss_cons (ps_if (pt_not (pt_val (pe_cal C__law_is_truth (hr.mono (by decide)) passD (by rfl) (pa_cons (pe_cmpR (op_eqI C_House_eq (hr.mono (by decide)) passL) (pv 3) (pe_mk C_House (hr.mono (by decide)) passD (by rfl) (pa_cons (pv 1) (pa_cons (pe_callTy (kC (r := rTuple) call_tupleU (K := K) rfl) (by rfl) T.b_tuple bb_tuple (pa_cons (pe_callTy (kC (r := rList) call_listU (K := K) rfl) (by rfl) T.b_list bb_list (pa_cons (pv 2) pa_nil)) pa_nil)) pa_nil))) (nomark _)) (pa_cons (pe_bl) pa_nil))))) (pss_one (ps_ret (pe_bl))) pss_nil)
    (pss_cons (ps_set (i := 4) sc__law_unlike.nd rfl (by first | exact Or.inl rfl | exact Or.inr rfl) (pe_lst (pa_cons (pe_tup (pa_cons (pv 1) (pa_cons (pe_op (kO (r := rAddU) op_addU (K := K) rfl) (pv 2) (pe_tup (pa_cons (pe_tup (pa_cons (pe_int) (pa_cons (pe_int) (pa_cons (pe_int) (pa_cons (pe_int) pa_nil))))) pa_nil))) pa_nil))) (pa_cons (pe_tup (pa_cons (pv 1) (pa_cons (pe_revU (pv 2)) pa_nil))) pa_nil))))
    (pss_cons (ps_for passOwnU rfl (pi_enumA (by rfl) T.b_enumerate (pa_cons (pe_slice (kS (r := rSlU) sl_U (K := K) rfl) (pv 2) po_none (po_some (pe_int))) pa_nil)) (pg_tup (n := 2) rfl (pgs_cons (pg_name (i := 5) sc__law_unlike.nd rfl (by first | exact Or.inl rfl | exact Or.inr rfl)) (pgs_cons (pg_name (i := 6) sc__law_unlike.nd rfl (by first | exact Or.inl rfl | exact Or.inr rfl)) pgs_nil))) (pss_cons (ps_set (i := 7) sc__law_unlike.nd rfl (by first | exact Or.inl rfl | exact Or.inr rfl) (pe_tup (pa_cons (pe_ix (kI (r := rIxU) (ix_U (u1 hr)) (K := K) rfl) (pv 6) (pe_int) (fun _ _ => rfl)) (pa_cons (pe_op op_subU (pe_int) (pe_ix (kI (r := rIxU) (ix_U (u1 hr)) (K := K) rfl) (pv 6) (pe_int) (fun _ _ => rfl))) (pa_cons (pe_ix (kI (r := rIxU) (ix_U (u1 hr)) (K := K) rfl) (pv 6) (pe_int) (fun _ _ => rfl)) (pa_cons (pe_ix (kI (r := rIxU) (ix_U (u1 hr)) (K := K) rfl) (pv 6) (pe_int) (fun _ _ => rfl)) pa_nil))))))
    (pss_cons (ps_set (i := 8) sc__law_unlike.nd rfl (by first | exact Or.inl rfl | exact Or.inr rfl) (pe_cal C__law_pick (hr.mono (by decide)) passD (by rfl) (pa_cons (pv 0) (pa_cons (pe_lst (pa_cons (pv 7) (pa_cons (pe_op (kO (r := rAddU) op_addU (K := K) rfl) (pe_slice (kS (r := rSlU) sl_U (K := K) rfl) (pv 6) (po_some (pe_int)) po_none) (pe_slice (kS (r := rSlU) sl_U (K := K) rfl) (pv 6) po_none (po_some (pe_int)))) (pa_cons (pe_op (kO (r := rAddU) op_addU (K := K) rfl) (pe_slice (kS (r := rSlU) sl_U (K := K) rfl) (pv 6) po_none (po_some (pe_int))) (pe_tup (pa_cons (pe_int) pa_nil))) pa_nil)))) pa_nil))))
    (pss_one (ps_expr (pe_bm PySem.F.plainAttrs_list PySem.F.slot_list_append PySem.F.type_list_append mt_append (pv 4) (pa_cons (pe_tup (pa_cons (pv 1) (pa_cons (pe_op (kO (r := rAddU) op_addU (K := K) rfl) (pe_op (kO (r := rAddU) op_addU (K := K) rfl) (pe_slice (kS (r := rSlU) sl_U (K := K) rfl) (pv 2) po_none (po_some (pv 5))) (pe_tup (pa_cons (pv 8) pa_nil))) (pe_slice (kS (r := rSlU) sl_U (K := K) rfl) (pv 2) (po_some (pe_op (kO (r := rAddU) op_addU (K := K) rfl) (pv 5) (pe_int))) po_none)) pa_nil))) pa_nil)))))))
    (pss_cons (ps_if (pt_cmpR op_ltU (pv 1) (pe_int) (nomark _)) (pss_one (ps_expr (pe_bm PySem.F.plainAttrs_list PySem.F.slot_list_append PySem.F.type_list_append mt_append (pv 4) (pa_cons (pe_tup (pa_cons (pe_op (kO (r := rAddU) op_addU (K := K) rfl) (pv 1) (pe_int)) (pa_cons (pe_op (kO (r := rAddU) op_addU (K := K) rfl) (pv 2) (pe_tup (pa_cons (pe_tup (pa_cons (pe_int) (pa_cons (pe_int) (pa_cons (pv 1) (pa_cons (pe_int) pa_nil))))) pa_nil))) pa_nil))) pa_nil)))) pss_nil)
    (pss_cons (ps_for passOwnU rfl (pi_seq (pv 4)) (pg_tup (n := 2) rfl (pgs_cons (pg_name (i := 9) sc__law_unlike.nd rfl (by first | exact Or.inl rfl | exact Or.inr rfl)) (pgs_cons (pg_name (i := 10) sc__law_unlike.nd rfl (by first | exact Or.inl rfl | exact Or.inr rfl)) pgs_nil))) (pss_one (ps_if (pt_not (pt_val (pe_cal C__law_is_truth (hr.mono (by decide)) passD (by rfl) (pa_cons (pe_cmpR (op_eqI C_House_eq (hr.mono (by decide)) passL) (pv 3) (pe_mk C_House (hr.mono (by decide)) passD (by rfl) (pa_cons (pv 9) (pa_cons (pv 10) pa_nil))) (nomark _)) (pa_cons (pe_cmpR (kO (r := rEqD) (op_eqU hr) (K := K) rfl) (pe_tup (pa_cons (pv 9) (pa_cons (pv 10) pa_nil))) (pe_tup (pa_cons (pv 1) (pa_cons (pv 2) pa_nil))) (nomark _)) pa_nil))))) (pss_one (ps_ret (pe_bl))) pss_nil)))
    (pss_one (ps_ret ((pe_and (pe_cmpR (op_neI C_House_eq T.n_House (hr.mono (by decide)) passL) (pv 3) (pe_tup (pa_cons (pv 1) (pa_cons (pv 2) pa_nil))) (nomark _)) (pe_and (pe_not (pe_cmpR (op_eqI C_House_eq (hr.mono (by decide)) passL) (pv 3) (pv 2) (nomark _))) (pe_one (pe_cmpR (op_neI C_House_eq T.n_House (hr.mono (by decide)) passL) (pv 3) (pv 1) (nomark _)))))))))))))), ?_⟩
  rintro L W n ds hV hG hE hl hc hp
  obtain ⟨r, dl, rfl, hO, r6, l11⟩ := hp
  have lD : (((dl.map dDoor).length : Nat) : Int) = dl.length := by rw [List.length_map]
  have cl := T.cl_House
  have px : preHX (.int r) (.tup (dl.map dDoor)) := preHX_d (by omega)
  have E1 : fHX K (.int r) (.tup (dl.map dDoor)) = .ret true (dHs (⟨r, dl⟩ : HH K)) := fHX_eq (.mOk hO)
  have qd : pd 60 (.tup (dl.map dDoor)) = true := pds_map (fun _ => rfl) _
  have r0 := hO.r1
  refine ds_cut (fun n' ρ' => n' = n ∧ ρ' = [some (false, .raw L.s), some (false, .int r), some (false, .tup (dl.map dDoor)), some (false, dHs (⟨r, dl⟩ : HH K)), none, none, none, none, none, none, none]) ?_ ?_
  · repeat' (walk_at "hd2")
    exact ⟨rfl, rfl⟩
  rintro n1 ρ' ⟨rfl, rfl⟩
  refine ds_cut (fun n' ρ' => n' = n1 ∧ ρ' = [some (false, .raw L.s), some (false, .int r), some (false, .tup (dl.map dDoor)), some (false, dHs (⟨r, dl⟩ : HH K)), none, none, none, none, none, none, none]) ?_ ?_
  · repeat' (walk_at "hd2")
    refine dr_eqI cl.I (.inr ⟨_, _, rfl⟩) (⟨r, dl⟩ : HH K) (dHs (⟨r, dl⟩ : HH K)) rfl (.inr ⟨_, rfl⟩) (b := true) (fr := false) (by unfold fHEq; rw [heqB_h]; simp) ?_
    repeat' (walk_at "hd2")
    exact ⟨rfl, rfl⟩
  rintro n2 ρ' ⟨rfl, rfl⟩
  refine ds_cut (fun n' ρ' => n' = n2 ∧ ρ' = [some (false, .raw L.s), some (false, .int r), some (false, .tup (dl.map dDoor)), some (false, dHs (⟨r, dl⟩ : HH K)), some (true, .lst ([(r, dl ++ [⟨0, 1, 0, 1⟩]), (r, dl.reverse)].map eH)), none, none, none, none, none, none]) ?_ ?_
  · repeat' (walk_at "hd2")
    refine de_revT ?_
    repeat' (walk_at "hd2")
    refine ⟨rfl, ?_⟩
    rw [← List.map_reverse]
    show _ = [_, _, _, _, some (true, D.lst [eH (r, dl ++ [(⟨0, 1, 0, 1⟩ : Door)]), eH (r, dl.reverse)]), none, none, none, none, none, none]
    unfold eH
    rw [List.map_append]
    rfl
  rintro n3 ρ' ⟨rfl, rfl⟩
  refine ds_cut (fun n' ρ' => n3 ≤ n' + 3 ∧ ∃ ps : List (Int × List Door), (ps.length ≤ 5 ∧ ∀ p ∈ ps, HouseOk p.1 p.2) ∧ ρ' = [some (false, .raw L.s), some (false, .int r), some (false, .tup (dl.map dDoor)), some (false, dHs (⟨r, dl⟩ : HH K)), some (true, .lst (ps.map eH)), none, none, none, none, none, none]) ?_ ?_
  · refine ds_forR (LW := fun rs n' ρ => ∃ (i : Nat) (es : List Door) (ps : List (Int × List Door)), rs = nbD i es ∧ (dl.take 3).drop i = es ∧ (ps.length ≤ 2 + i ∧ i + es.length ≤ 3 ∧ ∀ p ∈ ps, HouseOk p.1 p.2) ∧ n3 ≤ n' + i ∧ ρ = [some (false, .raw L.s), some (false, .int r), some (false, .tup (dl.map dDoor)), some (false, dHs (⟨r, dl⟩ : HH K)), some (true, .lst (ps.map eH)), none, none, none, none, none, none]) (di_enumT ?_) ?_ ?_
    · repeat' (walk_at "hd2")
      rw [cut_up (by decide), ← List.map_take, numb_nb]
      exact ⟨_, Rfn.refl _, 0, _, _, rfl, rfl, ⟨Nat.le_refl _, by rw [List.length_take]; omega, fun p hp => by
        simp only [List.mem_cons, List.not_mem_nil, or_false] at hp
        rcases hp with rfl | rfl
        · exact house_one hO ⟨⟨by decide, by show (0 : Int) < r; omega⟩, ⟨by decide, by show (0 : Int) < r; omega⟩, one_ok, one_ok⟩ (by omega)
        · exact house_rev hO⟩, by omega, rfl⟩
    · rintro d rs n' ρ' ⟨i, es, ps, hrs, hes, ⟨hl1, hl2, hps⟩, hn', rfl⟩
      cases es with
      | nil => cases hrs
      | cons e es =>
      simp only [nbD, List.cons.injEq] at hrs
      obtain ⟨rfl, rfl⟩ := hrs
      simp only [List.length_cons] at hl2
      have hget : dl[i]? = some e := by
        have h1 : ((dl.take 3).drop i)[0]? = some e := by rw [hes]; rfl
        rw [List.getElem?_drop, List.getElem?_take] at h1
        have h1 : i < 3 ∧ dl[i]? = some e := by simpa using h1
        exact h1.2
      have hes2 : (dl.take 3).drop (i + 1) = es := by
        have h1 : ((dl.take 3).drop i).drop 1 = es := by rw [hes]; rfl
        rw [List.drop_drop] at h1
        exact h1
      have hd := hO.dk e (List.mem_of_getElem? hget)
      have hil : i < dl.length := (List.getElem?_eq_some_iff.mp hget).1
      have c1 := cut_to (l := dl.map dDoor) (i := (i : Int)) (by omega) (by omega)
      have c2 := cut_from (l := dl.map dDoor) (i := (i : Int) + 1) (by omega) (by omega)
      have key : ∀ d : Door, doorOk r d → ((d.near = e.near ∧ d.far = e.far) ∨ (d.near = e.far ∧ d.far = e.near)) → ∀ ps' : List (Int × List Door), ps' = ps ++ [(r, dl.take i ++ [d] ++ dl.drop (i + 1))] → (ps'.length ≤ 2 + (i + 1) ∧ (i + 1) + es.length ≤ 3 ∧ ∀ p ∈ ps', HouseOk p.1 p.2) ∧ ps'.map eH = ps.map eH ++ [D.tup [.int r, .tup ((dl.map dDoor).take i ++ [dDoor d] ++ (dl.map dDoor).drop (i + 1))]] := fun d h1 h2 ps' e => by
        subst e
        refine ⟨⟨by rw [List.length_append, List.length_singleton]; omega, by omega, fun p hp => ?_⟩, ?_⟩
        · rcases List.mem_append.mp hp with hp | hp
          · exact hps p hp
          · rw [List.mem_singleton.mp hp]
            exact house_put hO hget h1 h2
        · rw [List.map_append, List.map_singleton]
          unfold eH
          simp only [List.map_append, List.map_take, List.map_drop, List.map_cons, List.map_nil]
      repeat' (walk_at "hd2")
      rename_i n5 x hn5 hm
      rw [c1, c2, Int.toNat_natCast, show ((i : Int) + 1).toNat = i + 1 by omega]
      have : ∃ d : Door, x = dDoor d ∧ doorOk r d ∧ ((d.near = e.near ∧ d.far = e.far) ∨ (d.near = e.far ∧ d.far = e.near)) := by
        simp only [List.mem_cons, List.not_mem_nil, or_false] at hm
        obtain ⟨d1, d2, ⟨d3, d4, d5⟩, d6, d7, d8⟩ := hd
        rcases hm with rfl | rfl | rfl
        · exact ⟨⟨e.near, 0 - e.first, e.far, e.second⟩, rfl, ⟨d1, d2, ⟨by show 0 - e.first ≠ 0; omega, by show -999 ≤ 0 - e.first; omega, by show 0 - e.first ≤ 999; omega⟩, d6, d7, d8⟩, .inl ⟨rfl, rfl⟩⟩
        · exact ⟨e.flip, rfl, ⟨d2, d1, ⟨d6, d7, d8⟩, d3, d4, d5⟩, .inr ⟨rfl, rfl⟩⟩
        · exact ⟨⟨e.near, e.first, e.far, 7⟩, rfl, ⟨d1, d2, ⟨d3, d4, d5⟩, by show (7 : Int) ≠ 0; decide, by show -999 ≤ (7 : Int); decide, by show (7 : Int) ≤ 999; decide⟩, .inl ⟨rfl, rfl⟩⟩
      obtain ⟨d, rfl, h1, h2⟩ := this
      obtain ⟨k1, k2⟩ := key d h1 h2 _ rfl
      rw [← k2]
      refine ⟨_, ?_, i + 1, es, _, rfl, hes2, k1, by omega, rfl⟩
      repeat' (walk_at "rfn")
    · rintro n' ρ' ⟨i, es, ps, hrs, hes, ⟨hl1, hl2, hps⟩, hn', rfl⟩
      exact ⟨by omega, ps, ⟨by omega, hps⟩, rfl⟩
  rintro n4 ρ' ⟨hn4, ps, ⟨hl, hps⟩, rfl⟩
  refine ds_cut (fun n' ρ' => n' = n4 ∧ ∃ ps : List (Int × List Door), (ps.length ≤ 6 ∧ ∀ p ∈ ps, HouseOk p.1 p.2) ∧ ρ' = [some (false, .raw L.s), some (false, .int r), some (false, .tup (dl.map dDoor)), some (false, dHs (⟨r, dl⟩ : HH K)), some (true, .lst (ps.map eH)), none, none, none, none, none, none]) ?_ ?_
  · have em : ps.map eH ++ [D.tup [.int (r + 1), .tup (dl.map dDoor ++ [D.tup [.int 0, .int 1, .int r, .int 1]])]] = (ps ++ [((r + 1, dl ++ [(⟨0, 1, r, 1⟩ : Door)]) : Int × List Door)]).map eH := by
      rw [List.map_append, List.map_singleton]
      unfold eH
      simp only [List.map_append, List.map_cons, List.map_nil]
    repeat' (walk_at "hd2")
    · rw [em]
      refine ⟨rfl, _, ⟨?_, fun p hp => ?_⟩, rfl⟩
      · rw [List.length_append, List.length_singleton]; omega
      · rcases List.mem_append.mp hp with hp | hp
        · exact hps p hp
        · rw [List.mem_singleton.mp hp]
          exact house_more hO (by omega) (by omega)
    · exact ⟨rfl, ps, ⟨by omega, hps⟩, rfl⟩
  rintro n5 ρ' ⟨rfl, ps, ⟨hl, hps⟩, rfl⟩
  refine ds_cut (fun n' ρ' => n' = n5 ∧ ρ' = [some (false, .raw L.s), some (false, .int r), some (false, .tup (dl.map dDoor)), some (false, dHs (⟨r, dl⟩ : HH K)), some (false, .lst (ps.map eH)), none, none, none, none, none, none]) ?_ ?_
  · refine ds_freeze (i := 4) rfl ?_
    refine ds_forR (LW := fun rs n' ρ => n' = n5 ∧ ∃ qs : List (Int × List Door), rs = qs.map eH ∧ (∀ p ∈ qs, HouseOk p.1 p.2) ∧ ρ = [some (false, .raw L.s), some (false, .int r), some (false, .tup (dl.map dDoor)), some (false, dHs (⟨r, dl⟩ : HH K)), some (false, .lst (ps.map eH)), none, none, none, none, none, none]) (di_seqL ?_) ?_ ?_
    · repeat' (walk_at "hd2")
      exact ⟨_, Rfn.refl _, rfl, ps, rfl, hps, rfl⟩
    · rintro d rs n' ρ' ⟨rfl, qs, hrs, hqs, rfl⟩
      cases qs with
      | nil => cases hrs
      | cons q qs =>
      simp only [List.map_cons, List.cons.injEq] at hrs
      obtain ⟨rfl, rfl⟩ := hrs
      have hq := hqs q List.mem_cons_self
      have hqs' : ∀ p ∈ qs, HouseOk p.1 p.2 := fun p hp => hqs p (List.mem_cons_of_mem _ hp)
      obtain ⟨m, os⟩ := q
      dsimp only at hq
      have pq : preHX (.int m) (.tup (os.map dDoor)) := preHX_d (by have := hq.dl; omega)
      have Eq1 : fHX K (.int m) (.tup (os.map dDoor)) = .ret true (dHs (⟨m, os⟩ : HH K)) := fHX_eq (.mOk hq)
      have qo : pd 60 (.tup (os.map dDoor)) = true := pds_map (fun _ => rfl) _
      have qo1 : pd 60 (.tup [.int m, .tup (os.map dDoor)]) = true := by show (pd 59 (.int m) && (pd 59 (.tup (os.map dDoor)) && true)) = true; rw [show pd 59 (.tup (os.map dDoor)) = true from pds_map (fun _ => rfl) _]; rfl
      have qo2 : pd 60 (.tup [.int r, .tup (dl.map dDoor)]) = true := by show (pd 59 (.int r) && (pd 59 (.tup (dl.map dDoor)) && true)) = true; rw [show pd 59 (.tup (dl.map dDoor)) = true from pds_map (fun _ => rfl) _]; rfl
      unfold eH
      refine' dgx (dg_tup rfl ?_)
      repeat' (walk_at "hd2")
      refine dr_eqI cl.I (.inr ⟨_, _, rfl⟩) (⟨r, dl⟩ : HH K) (dHs (⟨m, os⟩ : HH K)) rfl (.inr ⟨_, rfl⟩) (b := (decide (r = m) && decide (dl = os))) (fr := false) (by unfold fHEq; rw [heqB_h]) ?_
      have hx : (decide (r = m) && decide (dl = os)) = true ↔ D.tup [D.int m, D.tup (os.map dDoor)] = D.tup [D.int r, D.tup (dl.map dDoor)] := by
        rw [Bool.and_eq_true, decide_eq_true_iff, decide_eq_true_iff]
        constructor
        · rintro ⟨rfl, rfl⟩
          rfl
        · intro e
          simp only [D.tup.injEq, List.cons.injEq, D.int.injEq, and_true] at e
          exact ⟨e.1.symm, (doors_inj e.2).symm⟩
      generalize (decide (r = m) && decide (dl = os)) = bx at *
      repeat' (walk_at "hd2")
      · rename_i b h1 h2
        have : bx = b := by rw [Bool.eq_iff_iff, hx, h1]
        rw [this] at h2
        cases b <;> cases h2
      · refine ⟨_, ?_, rfl, qs, rfl, hqs', rfl⟩
        repeat' (walk_at "rfn")
    · rintro n' ρ' ⟨rfl, qs, hrs, hqs, rfl⟩
      exact ⟨rfl, rfl⟩
  rintro n6 ρ' ⟨rfl, rfl⟩
  repeat' (walk_at "hd2")
  refine dr_neI cl.I (.inl rfl) (⟨r, dl⟩ : HH K) (.tup [.int r, .tup (dl.map dDoor)]) rfl (.inl rfl) (b := false) (fr := false) (by unfold fHEq; rw [heqB_pl rfl]) ?_
  repeat' (walk_at "hd2")
  refine dr_eqI cl.I (.inl rfl) (⟨r, dl⟩ : HH K) (.tup (dl.map dDoor)) rfl (.inl rfl) (b := false) (fr := false) (by unfold fHEq; rw [heqB_pl rfl]) ?_
  repeat' (walk_at "hd2")
  refine dr_neI cl.I (.inl rfl) (⟨r, dl⟩ : HH K) (.int r) rfl (.inl rfl) (b := false) (fr := false) (by unfold fHEq; rw [heqB_pl rfl]) ?_
  repeat' (walk_at "hd2")
  exact ⟨by omega, rfl⟩
def odPre {K : PySem.W.Frag} {Tt : List (Addr × Str)} (L : LP K Tt) (ds : List D) : Prop := ∃ r : Int, ds = [.raw L.s, .int r] ∧ 1 ≤ r ∧ r ≤ 6
def odR {K : PySem.W.Frag} {Tt : List (Addr × Str)} (L : LP K Tt) (ds : List D) (_ : Bool) (d : D) : Prop := ∀ r : Int, ds = [.raw L.s, .int r] → plT d ∧ doorB r d = false
abbrev sp__law_odd_door (K : PySem.W.Frag) (Tt : List (Addr × Str)) : Sp := spL K Tt 2 2 odPre odR
theorem ok__law_odd_door (T : Txt K mg) (Dd : Def K mg "_law_odd_door" s__law_odd_door ["_law_state", "_law_rooms_here"])
    (C__law_pick : Cal P w K mg base 3 "_law_pick" s__law_pick ["_law_state", "_law_several"] (sp__law_pick K Tt)) :
    Cal P w K mg base 4 "_law_odd_door" s__law_odd_door ["_law_state", "_law_rooms_here"] (sp__law_odd_door K Tt) := by
  refine Dd.okL sc__law_odd_door rfl fun f cdv A outer s H E hr => ⟨_, (pss_cons (ps_set (i := 2) sc__law_odd_door.nd rfl (by first | exact Or.inl rfl | exact Or.inr rfl) (pe_lst (pa_cons (pe_non) (pa_cons (pe_int) (pa_cons (pe_tup pa_nil) (pa_cons (pe_tup (pa_cons (pe_int) (pa_cons (pe_int) (pa_cons (pe_int) pa_nil)))) (pa_cons (pe_tup (pa_cons (pe_int) (pa_cons (pe_int) (pa_cons (pe_int) (pa_cons (pe_int) (pa_cons (pe_int) pa_nil)))))) (pa_cons (pe_lst (pa_cons (pe_int) (pa_cons (pe_int) (pa_cons (pe_int) (pa_cons (pe_int) pa_nil))))) (pa_cons (pe_tup (pa_cons (pv 1) (pa_cons (pe_int) (pa_cons (pe_int) (pa_cons (pe_int) pa_nil))))) pa_nil)))))))))
    (pss_cons (ps_set (i := 2) sc__law_odd_door.nd rfl (by first | exact Or.inl rfl | exact Or.inr rfl) (pe_op (kO (r := rAddU) op_addU (K := K) rfl) (pv 2) (pe_lst (pa_cons (pe_tup (pa_cons (pe_int) (pa_cons (pe_int) (pa_cons (pv 1) (pa_cons (pe_int) pa_nil))))) (pa_cons (pe_tup (pa_cons (pe_un un_neg (pe_int)) (pa_cons (pe_int) (pa_cons (pe_int) (pa_cons (pe_int) pa_nil))))) (pa_cons (pe_tup (pa_cons (pe_int) (pa_cons (pe_int) (pa_cons (pe_int) (pa_cons (pe_int) pa_nil))))) (pa_cons (pe_tup (pa_cons (pe_int) (pa_cons (pe_int) (pa_cons (pe_int) (pa_cons (pe_int) pa_nil))))) pa_nil)))))))
    (pss_cons (ps_set (i := 2) sc__law_odd_door.nd rfl (by first | exact Or.inl rfl | exact Or.inr rfl) (pe_op (kO (r := rAddU) op_addU (K := K) rfl) (pv 2) (pe_lst (pa_cons (pe_tup (pa_cons (pe_int) (pa_cons (pe_int) (pa_cons (pe_int) (pa_cons (pe_int) pa_nil))))) (pa_cons (pe_tup (pa_cons (pe_int) (pa_cons (pe_int) (pa_cons (pe_int) (pa_cons (pe_un un_neg (pe_int)) pa_nil))))) (pa_cons (pe_tup (pa_cons (pe_bl) (pa_cons (pe_int) (pa_cons (pe_int) (pa_cons (pe_int) pa_nil))))) (pa_cons (pe_tup (pa_cons (pe_int) (pa_cons (pe_bl) (pa_cons (pe_int) (pa_cons (pe_int) pa_nil))))) pa_nil)))))))
    (pss_one (ps_ret (pe_cal C__law_pick (hr.mono (by decide)) passD (by rfl) (pa_cons (pv 0) (pa_cons (pe_op (kO (r := rAddU) op_addU (K := K) rfl) (pv 2) (pe_lst (pa_cons (pe_tup (pa_cons (pe_int) (pa_cons (pe_int) (pa_cons (pe_bl) (pa_cons (pe_int) pa_nil))))) (pa_cons (pe_tup (pa_cons (pe_int) (pa_cons (pe_int) (pa_cons (pe_int) (pa_cons (pe_non) pa_nil))))) (pa_cons (pe_tup (pa_cons (pe_int) (pa_cons (pe_str) (pa_cons (pe_int) (pa_cons (pe_int) pa_nil))))) (pa_cons (pe_str) (pa_cons (pe_disp (pps_cons (pe_int) (pe_int) pps_nil) (by rfl) (by rfl) (fun z => by cases z) (by decide)) pa_nil))))))) pa_nil)))))))), ?_⟩
  rintro L W n ds hV hG hE hl hc hp
  obtain ⟨r, rfl, r0, r1⟩ := hp
  repeat' (walk_at "hd1")
  refine ⟨.inl 0, rfl, ?_⟩
  repeat' (walk_at "hd1")
  rename_i n1 d1 hn1 hm
  refine ⟨by omega, fun r' e => ?_⟩
  simp only [List.cons.injEq, D.int.injEq, and_true, true_and] at e
  subst e
  simp only [List.mem_append, List.mem_cons, List.not_mem_nil, or_false] at hm
  rcases hm with (((rfl | rfl | rfl | rfl | rfl | rfl | rfl) | rfl | rfl | rfl | rfl) | rfl | rfl | rfl | rfl) | rfl | rfl | rfl | rfl | rfl
  all_goals refine ⟨by first | rfl | exact all_pl (by rfl), ?_⟩
  all_goals first | rfl | (simp [doorB, belowB, sgnB]; done) | (simp [doorB, belowB, sgnB]; omega)
abbrev sp__law_refused (K : PySem.W.Frag) (Tt : List (Addr × Str)) : Sp := spL K Tt 3 10 refPre refR
theorem ok__law_refused (T : Txt K mg) (Dd : DefC K mg "_law_refused" s__law_refused ["_law_state", "_law_rooms_here", "_law_doors_here"] c) (Dc : Def K mg "_law_caught" s__law_caught ["_law_work"]) (TB : LamX.TabB base mg c Pt) (mem : (Pt, ("_law_refused.<locals>.<lambda>" : Str)) ∈ Tt) (only : ∀ p ∈ Tt, p.1 = Pt → p.2 = ("_law_refused.<locals>.<lambda>" : Str))
    (C__law_pick : Cal P w K mg base 3 "_law_pick" s__law_pick ["_law_state", "_law_several"] (sp__law_pick K Tt))
    (C__law_draw : Cal P w K mg base 2 "_law_draw" s__law_draw ["_law_state", "_law_size_here"] (sp__law_draw K Tt))
    (C__law_odd_door : Cal P w K mg base 4 "_law_odd_door" s__law_odd_door ["_law_state", "_law_rooms_here"] (sp__law_odd_door K Tt))
    (C_House : CalC P w K mg base 5 "House" "House.__init__" s_House_init ["rooms", "doors"] (He.ga K "House") (sp_House K Tt)) :
    Cal P w K mg base 9 "_law_refused" s__law_refused ["_law_state", "_law_rooms_here", "_law_doors_here"] (sp__law_refused K Tt) := by
  refine Dd.okL sc__law_refused rfl fun f A outer s H E hr => ?_
  have M_caught : LamD (cxD P w K mg base ["_law_state", "_law_rooms_here", "_law_doors_here", "_law_rooms_off", "_law_spot", "_law_mixed_here", "_law_doors_off"] "_law_refused" s__law_refused f (.ref c) A outer s H E) Tt "_law_caught" "_law_work" c Pt (TCaught K (He.ga K "PullError")) :=
    LamD.of Dc sc__law_caught rfl (Or.inl rfl) (fun g cdv => caught_gives T.c_PullError) TB rfl mem only
  refine ⟨_, (pss_cons (ps_set (i := 3) sc__law_refused.nd rfl (by first | exact Or.inl rfl | exact Or.inr rfl) (pe_cal C__law_pick (hr.mono (by decide)) passD (by rfl) (pa_cons (pv 0) (pa_cons (pe_lst (pa_cons (pe_non) (pa_cons (pe_int) (pa_cons (pe_int) (pa_cons (pe_un un_neg (pe_int)) (pa_cons (pe_bl) (pa_cons (pe_str) (pa_cons (pe_tup (pa_cons (pe_int) pa_nil)) (pa_cons (pe_lst (pa_cons (pe_int) pa_nil)) (pa_cons (pe_op op_powU (pe_int) (pe_int)) pa_nil)))))))))) pa_nil))))
    (pss_cons (ps_set (i := 4) sc__law_refused.nd rfl (by first | exact Or.inl rfl | exact Or.inr rfl) (pe_cal C__law_draw (hr.mono (by decide)) passD (by rfl) (pa_cons (pv 0) (pa_cons (pe_op (kO (r := rAddU) op_addU (K := K) rfl) (pe_callB (kC (r := rLenU) call_lenU (K := K) rfl) (by rfl) T.b_len bb_len (pa_cons (pv 2) pa_nil)) (pe_int)) pa_nil))))
    (pss_cons (ps_set (i := 5) sc__law_refused.nd rfl (by first | exact Or.inl rfl | exact Or.inr rfl) (pe_op (kO (r := rAddU) op_addU (K := K) rfl) (pe_op (kO (r := rAddU) op_addU (K := K) rfl) (pe_slice (kS (r := rSlU) sl_U (K := K) rfl) (pv 2) po_none (po_some (pv 4))) (pe_tup (pa_cons (pe_cal C__law_odd_door (hr.mono (by decide)) passD (by rfl) (pa_cons (pv 0) (pa_cons (pv 1) pa_nil))) pa_nil))) (pe_slice (kS (r := rSlU) sl_U (K := K) rfl) (pv 2) (po_some (pv 4)) po_none)))
    (pss_cons (ps_set (i := 6) sc__law_refused.nd rfl (by first | exact Or.inl rfl | exact Or.inr rfl) (pe_cal C__law_pick (hr.mono (by decide)) passD (by rfl) (pa_cons (pv 0) (pa_cons (pe_lst (pa_cons (pv 5) (pa_cons (pv 5) (pa_cons (pe_callTy (kC (r := rList) call_listU (K := K) rfl) (by rfl) T.b_list bb_list (pa_cons (pv 2) pa_nil)) (pa_cons (pe_non) (pa_cons (pe_int) (pa_cons (pe_dnewK) (pa_cons (pe_op (kO (r := rMulT) op_mulT (K := K) rfl) (pe_tup (pa_cons (pe_tup (pa_cons (pe_int) (pa_cons (pe_int) (pa_cons (pe_int) (pa_cons (pe_int) pa_nil))))) pa_nil)) (pe_int)) (pa_cons (pe_str) (pa_cons (pv 5) pa_nil)))))))))) pa_nil))))
    (pss_cons (ps_if (pt_not (pt_val (pe_callB (kC (r := rIsiU) call_isiU (K := K) rfl) (by rfl) T.b_isinstance bb_isinstance (pa_cons (pe_lam1 (k := 6) (t := fun E => _) M_caught (by rfl) (hr.mono (by decide)) (LamX.lamS_by (sc := defScope s__law_refused) (by decide +kernel)) rfl (fun _ _ _ _ _ => rfl) (fun _ _ _ _ _ _ _ hr => (pe_mk C_House (hr.mono (by decide)) passLam (by rfl) (pa_cons (pv 3) (pa_cons (pv 6) pa_nil))))) (pa_cons (pe_glob (v := .ref _) (by rfl) T.c_BadRooms rfl) pa_nil))))) (pss_one (ps_ret (pe_bl))) pss_nil)
    (pss_cons (ps_if (pt_not (pt_val (pe_callB (kC (r := rIsiU) call_isiU (K := K) rfl) (by rfl) T.b_isinstance bb_isinstance (pa_cons (pe_lam1 (k := 6) (t := fun E => _) M_caught (by rfl) (hr.mono (by decide)) (LamX.lamS_by (sc := defScope s__law_refused) (by decide +kernel)) rfl (fun _ _ _ _ _ => rfl) (fun _ _ _ _ _ _ _ hr => (pe_mk C_House (hr.mono (by decide)) passLam (by rfl) (pa_cons (pv 3) (pa_cons (pv 2) pa_nil))))) (pa_cons (pe_glob (v := .ref _) (by rfl) T.c_BadRooms rfl) pa_nil))))) (pss_one (ps_ret (pe_bl))) pss_nil)
    (pss_one (ps_ret (pe_callB (kC (r := rIsiU) call_isiU (K := K) rfl) (by rfl) T.b_isinstance bb_isinstance (pa_cons (pe_lam1 (k := 6) (t := fun E => _) M_caught (by rfl) (hr.mono (by decide)) (LamX.lamS_by (sc := defScope s__law_refused) (by decide +kernel)) rfl (fun _ _ _ _ _ => rfl) (fun _ _ _ _ _ _ _ hr => (pe_mkK0 (ks := ["doors", "rooms"]) C_House [1, 0] (fun _ _ _ _ _ _ u ws h => match ws, h with | [_, _], _ => rfl) (hr.mono (by decide)) passLam (by rfl) (pk_cons (pv 6) (pk_cons (pv 1) pk_nil))))) (pa_cons (pe_glob (v := .ref _) (by rfl) T.c_BadDoors rfl) pa_nil))))))))))), ?_⟩
  rintro L W n ds hV hG hE hl hc hp
  obtain ⟨r, dl, rfl, hO, r6, l11⟩ := hp
  have lD : (((dl.map dDoor).length : Nat) : Int) = dl.length := by rw [List.length_map]
  refine ds_cut (fun n' ρ' => n ≤ n' + 1 ∧ ∃ ro : D, (ro.tn.isSome = true ∧ (∀ d : D, fHX K ro d = .exc (He.ga K "BadRooms") [] [])) ∧ ρ' = [some (false, .raw L.s), some (false, .int r), some (false, .tup (dl.map dDoor)), some (false, ro), none, none, none]) ?_ ?_
  · repeat' (walk_at "hd2")
    rename_i n1 d1 hn1 hm
    have key : ∀ d1 : D, (∀ z : Int, d1 = .int z → z < 1 ∨ 12 < z) → ∀ d : D, fHX K d1 d = .exc (He.ga K "BadRooms") [] [] := fun d1 h d => fHX_eq (.mBR fun ⟨z, e, z1, z2⟩ => by have := h z e; omega)
    refine ⟨hn1, d1, ?_, rfl⟩
    simp only [List.mem_cons, List.not_mem_nil, or_false] at hm
    rcases hm with rfl | rfl | rfl | rfl | rfl | rfl | rfl | rfl | rfl
    all_goals refine ⟨rfl, key _ fun z e => ?_⟩
    all_goals first | (injection e with e; omega) | (injection e with e; exact .inr (by rw [← e]; decide +kernel)) | cases e
  rintro n1 ρ' ⟨hn1, ro, ⟨o1, o2⟩, rfl⟩
  refine ds_cut (fun n' ρ' => n1 ≤ n' + 1 ∧ ∃ i : Int, (0 ≤ i ∧ i ≤ dl.length) ∧ ρ' = [some (false, .raw L.s), some (false, .int r), some (false, .tup (dl.map dDoor)), some (false, ro), some (false, .int i), none, none]) ?_ ?_
  · repeat' (walk_at "hd2")
    rename_i n2 k hn2 k0 k1
    exact ⟨hn2, k, by omega, rfl⟩
  rintro n2 ρ' ⟨hn2, i, ⟨i0, i1⟩, rfl⟩
  refine ds_cut (fun n' ρ' => n2 ≤ n' + 2 ∧ ∃ od : D, (plT od ∧ doorB r od = false) ∧ ρ' = [some (false, .raw L.s), some (false, .int r), some (false, .tup (dl.map dDoor)), some (false, ro), some (false, .int i), some (false, .tup ((dl.map dDoor).take i.toNat ++ [od] ++ (dl.map dDoor).drop i.toNat)), none]) ?_ ?_
  · have c1 := cut_to (l := dl.map dDoor) (i := i) i0 (by omega)
    have c2 := cut_from (l := dl.map dDoor) (i := i) i0 (by omega)
    repeat' (walk_at "hd2")
    refine ⟨rfl, by omega, ⟨r, rfl, hO.r1, r6⟩, fun n5 b5 od hn5 r5 => ?_⟩
    obtain ⟨od1, od2⟩ := r5 r rfl
    repeat' (walk_at "hd2")
    rw [c1, c2]
    exact ⟨by omega, od, ⟨od1, od2⟩, rfl⟩
  rintro n3 ρ' ⟨hn3, od, ⟨od1, od2⟩, rfl⟩
  refine ds_cut (fun n' ρ' => n3 ≤ n' + 1 ∧ ∃ df : D, preHX (.int r) df ∧ fHX K (.int r) df = .exc (He.ga K "BadDoors") [] [] ∧ ρ' = [some (false, .raw L.s), some (false, .int r), some (false, .tup (dl.map dDoor)), some (false, ro), some (false, .int i), some (false, .tup ((dl.map dDoor).take i.toNat ++ [od] ++ (dl.map dDoor).drop i.toNat)), some (false, df)]) ?_ ?_
  · repeat' (walk_at "hd2")
    refine r_mulT (ds := [D.tup [.int 0, .int 1, .int 0, .int 1]]) (c := 21) (by simp) (by decide) (by decide) (by decide) ?_
    repeat' (walk_at "hd2")
    rename_i n5 df hn5 hm
    have key : ∀ df : D, df.tn.isSome = true → (∀ l, df = .tup l → l.length ≤ 1000 ∧ ∀ e ∈ l, plT e) → doorsB r df = false → preHX (.int r) df ∧ fHX K (.int r) df = .exc (He.ga K "BadDoors") [] [] := fun df h1 h2 h3 => ⟨⟨rfl, h1, h2⟩, fHX_eq (.mBD hO.r1 hO.r2 h3)⟩
    have km : preHX (.int r) (.tup ((dl.map dDoor).take i.toNat ++ [od] ++ (dl.map dDoor).drop i.toNat)) ∧ fHX K (.int r) (.tup ((dl.map dDoor).take i.toNat ++ [od] ++ (dl.map dDoor).drop i.toNat)) = .exc (He.ga K "BadDoors") [] [] := by
      refine key _ rfl (fun l e => ?_) ?_
      · injection e with e
        subst e
        refine ⟨?_, fun x hx => ?_⟩
        · simp only [List.length_append, List.length_take, List.length_drop, List.length_singleton, List.length_map]
          omega
        · simp only [List.mem_append, List.mem_singleton] at hx
          have hpl := (preHX_d (r := r) (dl := dl) (by omega)).2.2 _ rfl
          rcases hx with (hx | rfl) | hx
          · exact hpl.2 x (List.mem_of_mem_take hx)
          · exact od1
          · exact hpl.2 x (List.mem_of_mem_drop hx)
      · show (decide (_ ≤ 20) && List.all _ (doorB r)) = false
        rw [List.all_append, List.all_append, List.all_cons, od2]
        simp
    refine ⟨by omega, df, ?_⟩
    have : preHX (.int r) df ∧ fHX K (.int r) df = .exc (He.ga K "BadDoors") [] [] := by
      simp only [List.mem_cons, List.not_mem_nil, or_false] at hm
      rcases hm with rfl | rfl | rfl | rfl | rfl | rfl | rfl | rfl | rfl
      · exact km
      · exact km
      · exact key _ rfl (fun l e => by cases e) rfl
      · exact key _ rfl (fun l e => by cases e) rfl
      · exact key _ rfl (fun l e => by cases e) rfl
      · exact key _ rfl (fun l e => by cases e) rfl
      · refine key _ rfl (fun l e => ?_) (doorsB_long (by decide +kernel))
        injection e with e
        subst e
        refine ⟨by decide +kernel, fun x hx => ?_⟩
        have : ∀ x ∈ (List.replicate (Int.toNat 21) [D.tup [.int 0, .int 1, .int 0, .int 1]]).flatten, x = D.tup [.int 0, .int 1, .int 0, .int 1] := by
          intro x hx
          obtain ⟨l, hl, hx⟩ := List.mem_flatten.mp hx
          rw [(List.mem_replicate.mp hl).2] at hx
          exact List.mem_singleton.mp hx
        rw [this x hx]
        exact all_pl rfl
      · exact key _ rfl (fun l e => by cases e) rfl
      · exact km
    exact ⟨this.1, this.2, rfl⟩
  rintro n4 ρ' ⟨hn4, df, p3, E3, rfl⟩
  obtain ⟨_, q1, q2⟩ := p3
  have p1 : preHX ro df := ⟨o1, q1, q2⟩
  have p2 : preHX ro (.tup (dl.map dDoor)) := ⟨o1, rfl, (preHX_d (r := r) (dl := dl) (by omega)).2.2⟩
  have E1 := o2 df
  have E2 := o2 (.tup (dl.map dDoor))
  have p3 : preHX (.int r) df := ⟨rfl, q1, q2⟩
  repeat' (walk_at "hd2")
  refine de_caught L hV hG mem fun W' E' wV wG wE wEP => ?_
  refine de_pf2E wE ?_
  repeat' (walk_at "hd2")
  first | refine ⟨p1, outs_exc E1 ?_⟩ | refine ⟨_, _, _, rfl, p1, outs_exc E1 ?_⟩ | refine ⟨rfl, rfl, _, _, _, rfl, p1, outs_exc E1 ?_⟩
  rw [wEP]
  refine ⟨rfl, rfl, T.m_BadRooms, ?_⟩
  repeat' (walk_at "hd2")
  refine u_isiX T.e_BadRooms T.k_BadRooms ?_
  repeat' (walk_at "hd2")
  refine de_caught L hV hG mem fun W' E' wV wG wE wEP => ?_
  refine de_pf2E wE ?_
  repeat' (walk_at "hd2")
  first | refine ⟨p2, outs_exc E2 ?_⟩ | refine ⟨_, _, _, rfl, p2, outs_exc E2 ?_⟩ | refine ⟨rfl, rfl, _, _, _, rfl, p2, outs_exc E2 ?_⟩
  rw [wEP]
  refine ⟨rfl, rfl, T.m_BadRooms, ?_⟩
  repeat' (walk_at "hd2")
  refine u_isiX T.e_BadRooms T.k_BadRooms ?_
  repeat' (walk_at "hd2")
  refine de_caught L hV hG mem fun W' E' wV wG wE wEP => ?_
  repeat' (walk_at "hd2")
  first | refine ⟨p3, outs_exc E3 ?_⟩ | refine ⟨_, _, _, rfl, p3, outs_exc E3 ?_⟩ | refine ⟨rfl, rfl, _, _, _, rfl, p3, outs_exc E3 ?_⟩
  rw [wEP]
  refine ⟨rfl, rfl, T.m_BadDoors, ?_⟩
  repeat' (walk_at "hd2")
  refine u_isiX T.e_BadDoors T.k_BadDoors ?_
  repeat' (walk_at "hd2")
  exact ⟨by omega, rfl⟩
def fdPre {K : PySem.W.Frag} {Tt : List (Addr × Str)} (L : LP K Tt) (ds : List D) : Prop := ∃ r : Int, ds = [.raw L.s, .int r] ∧ 1 ≤ r ∧ r ≤ 6
def fdR {K : PySem.W.Frag} {Tt : List (Addr × Str)} (L : LP K Tt) (ds : List D) (_ : Bool) (d : D) : Prop := ∀ r : Int, ds = [.raw L.s, .int r] → ∃ dl : List Door, d = .tup (dl.map dDoor) ∧ (∀ e ∈ dl, doorOk r e) ∧ dl.length ≤ 20
abbrev sp__law_free_doors (K : PySem.W.Frag) (Tt : List (Addr × Str)) : Sp := spL K Tt 2 150 fdPre fdR
theorem ok__law_free_doors (T : Txt K mg) (Dd : Def K mg "_law_free_doors" s__law_free_doors ["_law_state", "_law_rooms_here"])
    (C__law_draw : Cal P w K mg base 2 "_law_draw" s__law_draw ["_law_state", "_law_size_here"] (sp__law_draw K Tt))
    (C__law_size : Cal P w K mg base 4 "_law_size" s__law_size ["_law_state"] (sp__law_size K Tt)) :
    Cal P w K mg base 5 "_law_free_doors" s__law_free_doors ["_law_state", "_law_rooms_here"] (sp__law_free_doors K Tt) := by
  refine Dd.okL sc__law_free_doors rfl fun f cdv A outer s H E hr => ⟨_, (pss_cons (ps_set (i := 2) sc__law_free_doors.nd rfl (by first | exact Or.inl rfl | exact Or.inr rfl) (pe_lst pa_nil))
    (pss_cons (ps_for passOwnU rfl (pi_range1 (by rfl) T.b_range (pa_cons (pe_cal C__law_draw (hr.mono (by decide)) passD (by rfl) (pa_cons (pv 0) (pa_cons (pe_int) pa_nil))) pa_nil)) (pg_name (i := 3) sc__law_free_doors.nd rfl (by first | exact Or.inl rfl | exact Or.inr rfl)) (pss_cons (ps_par (i := 4) (j := 5) rfl sc__law_free_doors.nd rfl rfl (by decide) rfl rfl (pa_cons (pe_cal C__law_draw (hr.mono (by decide)) passD (by rfl) (pa_cons (pv 0) (pa_cons (pv 1) pa_nil))) (pa_cons (pe_cal C__law_draw (hr.mono (by decide)) passD (by rfl) (pa_cons (pv 0) (pa_cons (pv 1) pa_nil))) pa_nil)) (by rfl))
    (pss_one (ps_expr (pe_bm PySem.F.plainAttrs_list PySem.F.slot_list_append PySem.F.type_list_append mt_append (pv 2) (pa_cons (pe_tup (pa_cons (pv 4) (pa_cons (pe_cal C__law_size (hr.mono (by decide)) passD (by rfl) (pa_cons (pv 0) pa_nil)) (pa_cons (pv 5) (pa_cons (pe_cal C__law_size (hr.mono (by decide)) passD (by rfl) (pa_cons (pv 0) pa_nil)) pa_nil))))) pa_nil))))))
    (pss_one (ps_ret (pe_callTy (kC (r := rTuple) call_tupleU (K := K) rfl) (by rfl) T.b_tuple bb_tuple (pa_cons (pv 2) pa_nil)))))), ?_⟩
  rintro L W n ds hV hG hE hl hc hp
  obtain ⟨r, rfl, r0, r1⟩ := hp
  refine ds_seq ?_
  repeat' (walk_at "hd1")
  refine ds_forR (LW := fun rs n' ρ => ∃ fd : List Door, (∀ d ∈ fd, doorOk r d) ∧ fd.length + rs.length ≤ 6 ∧ n + 22 * rs.length ≤ n' + 133 ∧ ρ = [some (false, .raw L.s), some (false, .int r), some (true, .lst (fd.map dDoor)), none, none, none]) (di_range1 ?_) ?_ ?_
  · repeat' (walk_at "hd1")
    refine ⟨by omega, by omega, _, Rfn.refl _, [], fun _ h => (nomatch h), ?_, ?_, rfl⟩
    · rw [upTo_len]; show 0 + _ ≤ 6; omega
    · rw [upTo_len]; omega
  · rintro d rs n' ρ' ⟨fd, hok, hfl, hn, rfl⟩
    simp only [List.length_cons] at hfl hn
    repeat' (walk_at "hd1")
    rename_i n1 a1 hn1 a10 a11 n2 a2 hn2 a20 a21 n3 b3 d3 hn3 r3 n4 b4 d4 hn4 r4
    obtain ⟨_, x, rfl, hx⟩ := r3
    obtain ⟨_, y, rfl, hy⟩ := r4
    have em : fd.map dDoor ++ [D.tup [.int a1, .int x, .int a2, .int y]] = (fd ++ [(⟨a1, x, a2, y⟩ : Door)]).map dDoor := by rw [List.map_append]; rfl
    rw [em]
    unfold szOk at hx hy
    refine ⟨_, ?_, fd ++ [⟨a1, x, a2, y⟩], ?_, ?_, ?_, rfl⟩
    · repeat' (walk_at "rfn")
    · intro d hd
      rcases List.mem_append.mp hd with hd | hd
      · exact hok d hd
      · rw [List.mem_singleton.mp hd]
        exact ⟨⟨a10, a11⟩, ⟨a20, a21⟩, ⟨hx.1, by show -999 ≤ x; omega, by show x ≤ 999; omega⟩, hy.1, by show -999 ≤ y; omega, by show y ≤ 999; omega⟩
    · rw [List.length_append, List.length_singleton]; omega
    · omega
  · rintro n' ρ' ⟨fd, hok, hfl, hn, rfl⟩
    simp only [List.length_nil] at hfl hn
    repeat' (walk_at "hd1")
    refine ⟨by omega, fun r' e => ⟨fd, rfl, ?_, by omega⟩⟩
    simp only [List.cons.injEq, D.int.injEq, and_true, true_and] at e
    rw [← e]
    exact hok
end
section
variable {P : Program} {w : World} {K : PySem.W.Frag} {mg : Str → Option Value} {base : Heap} {Tt : List (Addr × Str)} {c Pt : Addr}
def unIr : D → Int
  | .int i => i
  | _ => 0
def fG (d : D) : D := dDoor ⟨unIr d, -999, unIr d + 1, 999⟩
def gD : List Door := ((List.range 11).map fun i : Nat => ⟨(i : Int), -999, (i : Int) + 1, 999⟩) ++ List.replicate 9 ⟨11, 999, 0, -1⟩
theorem gD_ok : ∀ e ∈ gD, doorOk 12 e := by
  intro e he
  rcases List.mem_append.mp he with he | he
  · obtain ⟨i, hi, rfl⟩ := List.mem_map.mp he
    have hi := List.mem_range.mp hi
    exact ⟨⟨by show 0 ≤ (i : Int); omega, by show (i : Int) < 12; omega⟩, ⟨by show 0 ≤ (i : Int) + 1; omega, by show (i : Int) + 1 < 12; omega⟩, ⟨by show (-999 : Int) ≠ 0; decide, by show (-999 : Int) ≤ -999; decide, by show (-999 : Int) ≤ 999; decide⟩, by show (999 : Int) ≠ 0; decide, by show (-999 : Int) ≤ 999; decide, by show (999 : Int) ≤ 999; decide⟩
  · rw [(List.mem_replicate.mp he).2]
    exact ⟨⟨by show (0 : Int) ≤ 11; decide, by show (11 : Int) < 12; decide⟩, ⟨by show (0 : Int) ≤ 0; decide, by show (0 : Int) < 12; decide⟩, ⟨by show (999 : Int) ≠ 0; decide, by show (-999 : Int) ≤ 999; decide, by show (999 : Int) ≤ 999; decide⟩, by show (-1 : Int) ≠ 0; decide, by show (-999 : Int) ≤ -1; decide, by show (-1 : Int) ≤ 999; decide⟩
theorem gD_len : gD.length = 20 := by decide +kernel
abbrev sp_law (K : PySem.W.Frag) (Tt : List (Addr × Str)) : Sp := spLaw K Tt
theorem ok_law (T : Txt K mg) (Dd : Def K mg "law" s_law ["_law_script"])
    (C__law_begun : Cal P w K mg base 1 "_law_begun" s__law_begun ["_law_script"] (sp__law_begun K Tt))
    (C__law_wk_house : Cal P w K mg base 6 "_law_wk_house" s__law_wk_house ["_law_state", "_law_most_rooms", "_law_more"] (sp__law_wk_house K Tt))
    (C__law_made_or_apart : Cal P w K mg base 9 "_law_made_or_apart" s__law_made_or_apart ["_law_rooms_here", "_law_doors_here"] (sp__law_made_or_apart K Tt))
    (C__law_unlike : Cal P w K mg base 7 "_law_unlike" s__law_unlike ["_law_state", "_law_rooms_here", "_law_doors_here"] (sp__law_unlike K Tt))
    (C__law_draw : Cal P w K mg base 2 "_law_draw" s__law_draw ["_law_state", "_law_size_here"] (sp__law_draw K Tt))
    (C__law_refused : Cal P w K mg base 9 "_law_refused" s__law_refused ["_law_state", "_law_rooms_here", "_law_doors_here"] (sp__law_refused K Tt))
    (C__law_free_doors : Cal P w K mg base 5 "_law_free_doors" s__law_free_doors ["_law_state", "_law_rooms_here"] (sp__law_free_doors K Tt)) :
    Cal P w K mg base 10 "law" s_law ["_law_script"] (sp_law K Tt) := by
  refine Dd.raw sc_law (fun vs H Q E ⟨a, ns, h, _⟩ => by rw [h]; rfl) fun f cdv A outer s H vs Q E hr hq => ?_
  refine ⟨_, (pss_cons (ps_set (i := 1) sc_law.nd rfl (by first | exact Or.inl rfl | exact Or.inr rfl) (pe_cal C__law_begun (hr.mono (by decide)) passD (by rfl) (pa_cons (pv 0) pa_nil)))
    (pss_cons (ps_for passOwnU rfl (pi_range1 (by rfl) T.b_range (pa_cons (pe_op (kO (r := rAddU) op_addU (K := K) rfl) (pe_int) (pe_callB (call_min2U rfl) (by rfl) T.b_min bb_min (pa_cons (pe_callB (kC (r := rLenU) call_lenU (K := K) rfl) (by rfl) T.b_len bb_len (pa_cons (pv 0) pa_nil)) (pa_cons (pe_int) pa_nil)))) pa_nil)) (pg_name (i := 2) sc_law.nd rfl (by first | exact Or.inl rfl | exact Or.inr rfl)) (pss_cons (ps_asg (pe_cal C__law_wk_house (hr.mono (by decide)) passD (by rfl) (pa_cons (pv 1) (pa_cons (pe_int) (pa_cons (pe_int) pa_nil)))) (pg_tup (n := 2) rfl (pgs_cons (pg_name (i := 3) sc_law.nd rfl (by first | exact Or.inl rfl | exact Or.inr rfl)) (pgs_cons (pg_name (i := 4) sc_law.nd rfl (by first | exact Or.inl rfl | exact Or.inr rfl)) pgs_nil))))
    (pss_cons (ps_if (pt_not (pt_val (pe_cal C__law_made_or_apart (hr.mono (by decide)) passD (by rfl) (pa_cons (pv 3) (pa_cons (pv 4) pa_nil))))) (pss_one (ps_ret (pe_bl))) pss_nil)
    (pss_cons (ps_if (pt_not (pt_val (pe_cal C__law_unlike (hr.mono (by decide)) passD (by rfl) (pa_cons (pv 1) (pa_cons (pv 3) (pa_cons (pv 4) pa_nil)))))) (pss_one (ps_ret (pe_bl))) pss_nil)
    (pss_cons (ps_set (i := 5) sc_law.nd rfl (by first | exact Or.inl rfl | exact Or.inr rfl) (pe_op (kO (r := rAddU) op_addU (K := K) rfl) (pe_int) (pe_cal C__law_draw (hr.mono (by decide)) passD (by rfl) (pa_cons (pv 1) (pa_cons (pe_int) pa_nil)))))
    (pss_cons (ps_if (pt_not (pt_val (pe_cal C__law_made_or_apart (hr.mono (by decide)) passD (by rfl) (pa_cons (pv 5) (pa_cons (pe_cal C__law_free_doors (hr.mono (by decide)) passD (by rfl) (pa_cons (pv 1) (pa_cons (pv 5) pa_nil))) pa_nil))))) (pss_one (ps_ret (pe_bl))) pss_nil)
    (pss_one (ps_if (pt_not (pt_val (pe_cal C__law_refused (hr.mono (by decide)) passD (by rfl) (pa_cons (pv 1) (pa_cons (pv 3) (pa_cons (pv 4) pa_nil)))))) (pss_one (ps_ret (pe_bl))) pss_nil))))))))
    (pss_cons (ps_set (i := 6) sc_law.nd rfl (by first | exact Or.inl rfl | exact Or.inr rfl) (pe_op (kO (r := rAddU) op_addU (K := K) rfl) (pe_callTy (kC (r := rTuple) call_tupleU (K := K) rfl) (by rfl) T.b_tuple bb_tuple (pa_cons (pe_lc (own := [("_law_spot", 7)]) rfl sc_law.nd (pi_range1 (by rfl) T.b_range (pa_cons (pe_int) pa_nil)) (blkOk_by (own := [("_law_spot", 7)]) (N := ["_law_script", "_law_state", "_law_turn", "_law_rooms_here", "_law_doors_here", "_law_some_rooms", "_law_great", "_law_spot"]) (sc := defScope s_law) (by decide +kernel)) (fun _ _ _ _ _ => (pg_name (i := 7) sc_law.nd rfl (by first | exact Or.inl rfl | exact Or.inr rfl))) (fun _ _ _ _ _ => pts_nil) (fun _ _ _ _ _ => (pe_tup (pa_cons (pv 7) (pa_cons (pe_un un_neg (pe_int)) (pa_cons (pe_op (kO (r := rAddU) op_addU (K := K) rfl) (pv 7) (pe_int)) (pa_cons (pe_int) pa_nil))))))) pa_nil)) (pe_op (kO (r := rMulT) op_mulT (K := K) rfl) (pe_tup (pa_cons (pe_tup (pa_cons (pe_int) (pa_cons (pe_int) (pa_cons (pe_int) (pa_cons (pe_un un_neg (pe_int)) pa_nil))))) pa_nil)) (pe_int))))
    (pss_one (ps_ret ((pe_and (pe_cal C__law_made_or_apart (hr.mono (by decide)) passD (by rfl) (pa_cons (pe_int) (pa_cons (pv 6) pa_nil))) (pe_and (pe_cal C__law_made_or_apart (hr.mono (by decide)) passD (by rfl) (pa_cons (pe_int) (pa_cons (pe_slice (kS (r := rSlU) sl_U (K := K) rfl) (pv 6) (po_some (pe_int)) po_none) pa_nil))) (pe_one (pe_cal C__law_made_or_apart (hr.mono (by decide)) passD (by rfl) (pa_cons (pe_int) (pa_cons (pe_tup pa_nil) pa_nil)))))))))))), ?_⟩
  refine law_run (n0 := "_law_script") (n1 := "_law_state") (N := ["_law_turn", "_law_rooms_here", "_law_doors_here", "_law_some_rooms", "_law_great", "_law_spot"]) hq fun L W ns hV hG hE hl hs => ?_
  refine ds_seq ?_
  refine ds_forR (LW := fun rs n ρ => 2 ^ 30 ≤ n + 2000 * (8 - rs.length) ∧ rs.length ≤ 8 ∧ ρ = [some (false, .raw L.a), some (false, .raw L.s), none, none, none, none, none, none]) (di_range1 ?_) ?_ ?_
  · repeat' (walk_at "hd1")
    refine b_lenR hs ?_
    repeat' (walk_at "hd1")
    have hmx : (2 + if (4 : Int) < ((List.map L2.V.int ns).length : Int) then 4 else ((List.map L2.V.int ns).length : Int)) ≤ 8 ∧ 0 ≤ (2 + if (4 : Int) < ((List.map L2.V.int ns).length : Int) then 4 else ((List.map L2.V.int ns).length : Int)) := by
      split <;> omega
    exact ⟨by omega, by omega, _, Rfn.refl _, by omega, by rw [upTo_len]; omega, rfl⟩
  · rintro d rs n ρ' ⟨hn, hrs, rfl⟩
    simp only [List.length_cons] at hn hrs
    refine' dgx (dg_name ?_)
    refine ds_seq (ds_asgx ?_)
    refine' de_lawL L hV hG ?_
    repeat' (walk_at "hd1")
    refine ⟨rfl, by omega, ⟨6, 5, rfl, ⟨by decide, by decide⟩, by decide, by decide⟩, fun n1 b1 d1 hn1 r1 => ?_⟩
    obtain ⟨r, dl, rfl, ⟨r0, r1⟩, hO, hdl⟩ := r1
    refine dgx (S := [3, 4]) (dg_tup rfl (dgs_cons (S := [3]) (S' := [4]) (dg_name (dgs_cons (S := [4]) (S' := []) (dg_name (dgs_nil ?_))))))
    refine ds_cut (fun n' ρ' => n1 ≤ n' ∧ ρ' = [some (false, .raw L.a), some (false, .raw L.s), some (false, d), some (false, .int r), some (false, .tup (dl.map dDoor)), none, none, none]) ?_ ?_
    · repeat' (walk_at "hd2")
      refine ⟨rfl, by omega, ⟨r, dl, rfl, ⟨hO.r1, hO.r2⟩, hO.dk, hO.dl⟩, fun n5 b5 d5 hn5 r5 => ?_⟩
      have r5 : d5 = .bl true := r5
      subst r5
      repeat' (walk_at "hd2")
      exact ⟨by omega, rfl⟩
    rintro n2 ρ' ⟨hn2, rfl⟩
    refine ds_cut (fun n' ρ' => n2 ≤ n' + 20 ∧ ρ' = [some (false, .raw L.a), some (false, .raw L.s), some (false, d), some (false, .int r), some (false, .tup (dl.map dDoor)), none, none, none]) ?_ ?_
    · repeat' (walk_at "hd2")
      refine ⟨rfl, by omega, ⟨r, dl, rfl, hO, r1, by omega⟩, fun n5 b5 d5 hn5 r5 => ?_⟩
      have r5 : d5 = .bl true := r5
      subst r5
      repeat' (walk_at "hd2")
      exact ⟨by omega, rfl⟩
    rintro n3 ρ' ⟨hn3, rfl⟩
    refine ds_cut (fun n' ρ' => n3 ≤ n' + 1 ∧ ∃ k : Int, (1 ≤ k ∧ k ≤ 6) ∧ ρ' = [some (false, .raw L.a), some (false, .raw L.s), some (false, d), some (false, .int r), some (false, .tup (dl.map dDoor)), some (false, .int k), none, none]) ?_ ?_
    · repeat' (walk_at "hd2")
      rename_i n5 k hn5 k0 k1
      exact ⟨by omega, _, ⟨by omega, by omega⟩, rfl⟩
    rintro n4 ρ' ⟨hn4, k, ⟨k0, k1⟩, rfl⟩
    refine ds_cut (fun n' ρ' => n4 ≤ n' + 150 ∧ ρ' = [some (false, .raw L.a), some (false, .raw L.s), some (false, d), some (false, .int r), some (false, .tup (dl.map dDoor)), some (false, .int k), none, none]) ?_ ?_
    · repeat' (walk_at "hd2")
      refine ⟨rfl, by omega, ⟨k, rfl, k0, k1⟩, fun n5 b5 d5 hn5 r5 => ?_⟩
      obtain ⟨dl2, rfl, h1, h2⟩ := r5 k rfl
      repeat' (walk_at "hd2")
      refine ⟨rfl, by omega, ⟨k, dl2, rfl, ⟨by omega, by omega⟩, h1, h2⟩, fun n6 b6 d6 hn6 r6 => ?_⟩
      have r6 : d6 = .bl true := r6
      subst r6
      repeat' (walk_at "hd2")
      exact ⟨by omega, rfl⟩
    rintro n5 ρ' ⟨hn5, rfl⟩
    repeat' (walk_at "hd2")
    refine ⟨rfl, by omega, ⟨r, dl, rfl, hO, r1, by omega⟩, fun n6 b6 d6 hn6 r6 => ?_⟩
    have r6 : d6 = .bl true := r6
    subst r6
    repeat' (walk_at "hd2")
    refine ⟨_, ?_, by omega, by omega, rfl⟩
    repeat' (walk_at "rfn")
  · rintro n ρ' ⟨_, _, rfl⟩
    refine ds_cut (fun n' ρ' => n' = n ∧ ρ' = [some (false, .raw L.a), some (false, .raw L.s), none, none, none, none, some (false, .tup (gD.map dDoor)), none]) ?_ ?_
    · repeat' (walk_at "hd2")
      refine DF.de (df_lc_mapE fG (noOwn_by rfl) (di_range1 ?_) in_self)
      repeat' (walk_at "hd2")
      refine ⟨by decide, by decide, szl (by rw [upTo_len]; decide), fun d hd => dg_name ?_, ?_⟩
      · obtain ⟨i, hi, rfl⟩ := List.mem_map.mp hd
        have hi := List.mem_range.mp hi
        have hi : i < 11 := hi
        repeat' (walk_at "hd2")
        exact ⟨rfl, rfl⟩
      · repeat' (walk_at "hd2")
        refine r_mulT (ds := [D.tup [.int 11, .int 999, .int 0, .int (-1)]]) (c := 9) (by simp) (by decide) (by decide) (by decide) ?_
        repeat' (walk_at "hd2")
        exact ⟨rfl, rfl⟩
    rintro n2 ρ' ⟨rfl, rfl⟩
    have c1 := cut_from (l := gD.map dDoor) (i := 1) (by decide) (by decide)
    have c2 : HD.cutD (gD.map dDoor) (some 1) none = (gD.drop 1).map dDoor := by rw [c1, List.map_drop]; rfl
    repeat' (walk_at "hd2")
    refine ⟨rfl, by omega, ⟨12, gD, rfl, by decide, gD_ok, by rw [gD_len]; decide⟩, fun n6 b6 d6 hn6 r6 => ?_⟩
    have r6 : d6 = .bl true := r6
    subst r6
    repeat' (walk_at "hd2")
    rw [c2]
    repeat' (walk_at "hd2")
    refine ⟨rfl, by omega, ⟨12, gD.drop 1, rfl, by decide, fun e he => gD_ok e (List.mem_of_mem_drop he), by rw [List.length_drop, gD_len]; decide⟩, fun n7 b7 d7 hn7 r7 => ?_⟩
    have r7 : d7 = .bl true := r7
    subst r7
    repeat' (walk_at "hd2")
    refine ⟨rfl, by omega, ⟨1, [], rfl, by decide, fun _ h => (nomatch h), by decide⟩, fun n8 b8 d8 hn8 r8 => ?_⟩
    have r8 : d8 = .bl true := r8
    subst r8
    repeat' (walk_at "hd2")
    skip
end
section
variable {K : PySem.W.Frag} {h : Heap} {mg : Str → Option Value} (X : K.In h) (G : h.Ns mainGlobals mg) (c : He.SaysD hfa hfn K)
include X G c
theorem hg_is_number : mg "is_number" = some (.ref (He.ga K "is_number")) := He.glo_ok X G (c.fact 0 (f := .glo "is_number") rfl)
theorem hdf_is_number : Def K mg "is_number" s_is_number ["value"] := (c.def_ 0 (d := hd_is_number) rfl).elim fun fd F => def_of F (hg_is_number X G c) fun _ _ _ _ _ _ us hl => match us, hl with | [_], _ => rfl
theorem hg_is_below : mg "is_below" = some (.ref (He.ga K "is_below")) := He.glo_ok X G (c.fact 1 (f := .glo "is_below") rfl)
theorem hdf_is_below : Def K mg "is_below" s_is_below ["value", "size"] := (c.def_ 1 (d := hd_is_below) rfl).elim fun fd F => def_of F (hg_is_below X G c) fun _ _ _ _ _ _ us hl => match us, hl with | [_, _], _ => rfl
theorem hg_is_door : mg "is_door" = some (.ref (He.ga K "is_door")) := He.glo_ok X G (c.fact 2 (f := .glo "is_door") rfl)
theorem hdf_is_door : Def K mg "is_door" s_is_door ["value", "rooms"] := (c.def_ 2 (d := hd_is_door) rfl).elim fun fd F => def_of F (hg_is_door X G c) fun _ _ _ _ _ _ us hl => match us, hl with | [_, _], _ => rfl
theorem hg_are_doors : mg "are_doors" = some (.ref (He.ga K "are_doors")) := He.glo_ok X G (c.fact 3 (f := .glo "are_doors") rfl)
theorem hdf_are_doors : Def K mg "are_doors" s_are_doors ["value", "rooms"] := (c.def_ 3 (d := hd_are_doors) rfl).elim fun fd F => def_of F (hg_are_doors X G c) fun _ _ _ _ _ _ us hl => match us, hl with | [_, _], _ => rfl
theorem hg_joined_rooms : mg "joined_rooms" = some (.ref (He.ga K "joined_rooms")) := He.glo_ok X G (c.fact 4 (f := .glo "joined_rooms") rfl)
theorem hdf_joined_rooms : Def K mg "joined_rooms" s_joined_rooms ["doors"] := (c.def_ 4 (d := hd_joined_rooms) rfl).elim fun fd F => def_of F (hg_joined_rooms X G c) fun _ _ _ _ _ _ us hl => match us, hl with | [_], _ => rfl
theorem hg__law_begun : mg "_law_begun" = some (.ref (He.ga K "_law_begun")) := He.glo_ok X G (c.fact 5 (f := .glo "_law_begun") rfl)
theorem hdf__law_begun : Def K mg "_law_begun" s__law_begun ["_law_script"] := (c.def_ 5 (d := hd__law_begun) rfl).elim fun fd F => def_of F (hg__law_begun X G c) fun _ _ _ _ _ _ us hl => match us, hl with | [_], _ => rfl
theorem hg__law_blended : mg "_law_blended" = some (.ref (He.ga K "_law_blended")) := He.glo_ok X G (c.fact 6 (f := .glo "_law_blended") rfl)
theorem hdf__law_blended : Def K mg "_law_blended" s__law_blended ["_law_state"] := (c.def_ 6 (d := hd__law_blended) rfl).elim fun fd F => def_of F (hg__law_blended X G c) fun _ _ _ _ _ _ us hl => match us, hl with | [_], _ => rfl
theorem hg__law_draw : mg "_law_draw" = some (.ref (He.ga K "_law_draw")) := He.glo_ok X G (c.fact 7 (f := .glo "_law_draw") rfl)
theorem hdf__law_draw : Def K mg "_law_draw" s__law_draw ["_law_state", "_law_size_here"] := (c.def_ 7 (d := hd__law_draw) rfl).elim fun fd F => def_of F (hg__law_draw X G c) fun _ _ _ _ _ _ us hl => match us, hl with | [_, _], _ => rfl
theorem hg__law_pick : mg "_law_pick" = some (.ref (He.ga K "_law_pick")) := He.glo_ok X G (c.fact 8 (f := .glo "_law_pick") rfl)
theorem hdf__law_pick : Def K mg "_law_pick" s__law_pick ["_law_state", "_law_several"] := (c.def_ 8 (d := hd__law_pick) rfl).elim fun fd F => def_of F (hg__law_pick X G c) fun _ _ _ _ _ _ us hl => match us, hl with | [_, _], _ => rfl
theorem hg__law_mixed : mg "_law_mixed" = some (.ref (He.ga K "_law_mixed")) := He.glo_ok X G (c.fact 9 (f := .glo "_law_mixed") rfl)
theorem hdf__law_mixed : Def K mg "_law_mixed" s__law_mixed ["_law_state", "_law_several"] := (c.def_ 9 (d := hd__law_mixed) rfl).elim fun fd F => def_of F (hg__law_mixed X G c) fun _ _ _ _ _ _ us hl => match us, hl with | [_, _], _ => rfl
theorem hg__law_caught : mg "_law_caught" = some (.ref (He.ga K "_law_caught")) := He.glo_ok X G (c.fact 10 (f := .glo "_law_caught") rfl)
theorem hdf__law_caught : Def K mg "_law_caught" s__law_caught ["_law_work"] := (c.def_ 10 (d := hd__law_caught) rfl).elim fun fd F => def_of F (hg__law_caught X G c) fun _ _ _ _ _ _ us hl => match us, hl with | [_], _ => rfl
theorem hg__law_is_truth : mg "_law_is_truth" = some (.ref (He.ga K "_law_is_truth")) := He.glo_ok X G (c.fact 11 (f := .glo "_law_is_truth") rfl)
theorem hdf__law_is_truth : Def K mg "_law_is_truth" s__law_is_truth ["_law_found", "_law_due"] := (c.def_ 11 (d := hd__law_is_truth) rfl).elim fun fd F => def_of F (hg__law_is_truth X G c) fun _ _ _ _ _ _ us hl => match us, hl with | [_, _], _ => rfl
theorem hg__law_size : mg "_law_size" = some (.ref (He.ga K "_law_size")) := He.glo_ok X G (c.fact 12 (f := .glo "_law_size") rfl)
theorem hdf__law_size : Def K mg "_law_size" s__law_size ["_law_state"] := (c.def_ 12 (d := hd__law_size) rfl).elim fun fd F => def_of F (hg__law_size X G c) fun _ _ _ _ _ _ us hl => match us, hl with | [_], _ => rfl
theorem hg__law_doors : mg "_law_doors" = some (.ref (He.ga K "_law_doors")) := He.glo_ok X G (c.fact 13 (f := .glo "_law_doors") rfl)
theorem hdf__law_doors : Def K mg "_law_doors" s__law_doors ["_law_state", "_law_rooms_here", "_law_more"] := (c.def_ 13 (d := hd__law_doors) rfl).elim fun fd F => def_of F (hg__law_doors X G c) fun _ _ _ _ _ _ us hl => match us, hl with | [_, _, _], _ => rfl
theorem hg__law_wk_house : mg "_law_wk_house" = some (.ref (He.ga K "_law_wk_house")) := He.glo_ok X G (c.fact 14 (f := .glo "_law_wk_house") rfl)
theorem hdf__law_wk_house : Def K mg "_law_wk_house" s__law_wk_house ["_law_state", "_law_most_rooms", "_law_more"] := (c.def_ 14 (d := hd__law_wk_house) rfl).elim fun fd F => def_of F (hg__law_wk_house X G c) fun _ _ _ _ _ _ us hl => match us, hl with | [_, _, _], _ => rfl
theorem hg__law_wk_apart : mg "_law_wk_apart" = some (.ref (He.ga K "_law_wk_apart")) := He.glo_ok X G (c.fact 15 (f := .glo "_law_wk_apart") rfl)
theorem hdf__law_wk_apart : Def K mg "_law_wk_apart" s__law_wk_apart ["_law_rooms_here", "_law_doors_here"] := (c.def_ 15 (d := hd__law_wk_apart) rfl).elim fun fd F => def_of F (hg__law_wk_apart X G c) fun _ _ _ _ _ _ us hl => match us, hl with | [_, _], _ => rfl
theorem hg__law_odd_door : mg "_law_odd_door" = some (.ref (He.ga K "_law_odd_door")) := He.glo_ok X G (c.fact 16 (f := .glo "_law_odd_door") rfl)
theorem hdf__law_odd_door : Def K mg "_law_odd_door" s__law_odd_door ["_law_state", "_law_rooms_here"] := (c.def_ 16 (d := hd__law_odd_door) rfl).elim fun fd F => def_of F (hg__law_odd_door X G c) fun _ _ _ _ _ _ us hl => match us, hl with | [_, _], _ => rfl
theorem hg__law_refused : mg "_law_refused" = some (.ref (He.ga K "_law_refused")) := He.glo_ok X G (c.fact 17 (f := .glo "_law_refused") rfl)
theorem hdc__law_refused : DefC K mg "_law_refused" s__law_refused ["_law_state", "_law_rooms_here", "_law_doors_here"] (He.cT K ("_law_refused", none)).1 := (c.def_ 17 (d := hd__law_refused) rfl).elim fun fd F => defC_of (p := ("_law_refused", none)) F (hg__law_refused X G c) fun _ _ _ _ _ _ us hl => match us, hl with | [_, _, _], _ => rfl
theorem hg__law_free_doors : mg "_law_free_doors" = some (.ref (He.ga K "_law_free_doors")) := He.glo_ok X G (c.fact 18 (f := .glo "_law_free_doors") rfl)
theorem hdf__law_free_doors : Def K mg "_law_free_doors" s__law_free_doors ["_law_state", "_law_rooms_here"] := (c.def_ 18 (d := hd__law_free_doors) rfl).elim fun fd F => def_of F (hg__law_free_doors X G c) fun _ _ _ _ _ _ us hl => match us, hl with | [_, _], _ => rfl
theorem hg__law_made_or_apart : mg "_law_made_or_apart" = some (.ref (He.ga K "_law_made_or_apart")) := He.glo_ok X G (c.fact 19 (f := .glo "_law_made_or_apart") rfl)
theorem hdc__law_made_or_apart : DefC K mg "_law_made_or_apart" s__law_made_or_apart ["_law_rooms_here", "_law_doors_here"] (He.cT K ("_law_made_or_apart", none)).1 := (c.def_ 19 (d := hd__law_made_or_apart) rfl).elim fun fd F => defC_of (p := ("_law_made_or_apart", none)) F (hg__law_made_or_apart X G c) fun _ _ _ _ _ _ us hl => match us, hl with | [_, _], _ => rfl
theorem hg__law_unlike : mg "_law_unlike" = some (.ref (He.ga K "_law_unlike")) := He.glo_ok X G (c.fact 20 (f := .glo "_law_unlike") rfl)
theorem hdf__law_unlike : Def K mg "_law_unlike" s__law_unlike ["_law_state", "_law_rooms_here", "_law_doors_here"] := (c.def_ 20 (d := hd__law_unlike) rfl).elim fun fd F => def_of F (hg__law_unlike X G c) fun _ _ _ _ _ _ us hl => match us, hl with | [_, _, _], _ => rfl
theorem hg_law : mg "law" = some (.ref (He.ga K "law")) := He.glo_ok X G (c.fact 21 (f := .glo "law") rfl)
theorem hdf_law : Def K mg "law" s_law ["_law_script"] := (c.def_ 21 (d := hd_law) rfl).elim fun fd F => def_of F (hg_law X G c) fun _ _ _ _ _ _ us hl => match us, hl with | [_], _ => rfl
theorem hfree_abs : mg "abs" = none := He.free_ok X G (c.fact 22 (f := .free "abs") rfl)
theorem hfree_all : mg "all" = none := He.free_ok X G (c.fact 23 (f := .free "all") rfl)
theorem hfree_bool : mg "bool" = none := He.free_ok X G (c.fact 24 (f := .free "bool") rfl)
theorem hfree_enumerate : mg "enumerate" = none := He.free_ok X G (c.fact 25 (f := .free "enumerate") rfl)
theorem hfree_int : mg "int" = none := He.free_ok X G (c.fact 26 (f := .free "int") rfl)
theorem hfree_isinstance : mg "isinstance" = none := He.free_ok X G (c.fact 27 (f := .free "isinstance") rfl)
theorem hfree_len : mg "len" = none := He.free_ok X G (c.fact 28 (f := .free "len") rfl)
theorem hfree_list : mg "list" = none := He.free_ok X G (c.fact 29 (f := .free "list") rfl)
theorem hfree_min : mg "min" = none := He.free_ok X G (c.fact 30 (f := .free "min") rfl)
theorem hfree_range : mg "range" = none := He.free_ok X G (c.fact 31 (f := .free "range") rfl)
theorem hfree_super : mg "super" = none := He.free_ok X G (c.fact 32 (f := .free "super") rfl)
theorem hfree_tuple : mg "tuple" = none := He.free_ok X G (c.fact 33 (f := .free "tuple") rfl)
theorem hx_0 : (He.Fa.ok K (.glo "PullError")) = true := c.fact 34 rfl
theorem hx_1 : (He.Fa.ok K (.glo "Apart")) = true := c.fact 35 rfl
theorem hx_2 : (He.Fa.ok K (.glo "BadDoors")) = true := c.fact 36 rfl
theorem hx_3 : (He.Fa.ok K (.glo "BadRooms")) = true := c.fact 37 rfl
theorem hx_4 : (He.Fa.ok K (.glo "House")) = true := c.fact 38 rfl
theorem hx_5 : (He.Fa.ok K (.int "MOST_ROOMS" 12)) = true := c.fact 39 rfl
theorem hx_6 : (He.Fa.ok K (.int "MOST_DOORS" 20)) = true := c.fact 40 rfl
theorem hx_7 : (He.Fa.ok K (.int "GREATEST" 999)) = true := c.fact 41 rfl
theorem hx_8 : (He.Fa.ok K (.exc "BadDoors")) = true := c.fact 42 rfl
theorem hx_9 : (He.Fa.ok K (.exm "BadDoors" "PullError" true)) = true := c.fact 43 rfl
theorem hx_10 : (He.Fa.ok K (.exc "BadRooms")) = true := c.fact 44 rfl
theorem hx_11 : (He.Fa.ok K (.exm "BadRooms" "PullError" true)) = true := c.fact 45 rfl
theorem hx_12 : (He.Fa.ok K (.mkr "House")) = true := c.fact 46 rfl
theorem hx_13 : (He.Fa.ok K (.exm "Apart" "PullError" true)) = true := c.fact 47 rfl
theorem hx_14 : (He.Fa.ok K (.meth "House" "__eq__")) = true := c.fact 48 rfl
theorem hdi_House : DefI K mg "House" "House.__init__" s_House_init ["rooms", "doors"] (He.ga K "House") := (c.def_ 22 (d := hd_House_init) rfl).elim fun fd F => defi_of F (He.mkr_ok (hx_12 X G c)) (He.glo_ok X G (hx_4 X G c)) fun _ _ _ _ _ _ us hl => match us, hl with | [_, _, _], _ => rfl
theorem hdm_House_eq : DefM K (He.ga K "House") "__eq__" "House.__eq__" s_House_eq ["self", "other"] := (c.def_ 23 (d := hd_House_eq) rfl).elim fun fd F => defm_of F (He.meth_ok (hx_14 X G c)) fun _ _ _ _ _ _ us hl => match us, hl with | [_, _], _ => rfl
end
theorem lawAt {w : World} {K : PySem.W.Frag} {h : Heap} {mg : Str → Option Value} {fa : Addr} (KX : K.In h) (G : h.Ns mainGlobals mg) (hmg : mg "law" = some (.ref fa)) (c0 : SaysS supL hfa hfn lawP exB w h K) :
    LamX.LawAtS PySem.Challenge.rw_pulledrooms_k00_houses_judged w K (L2.CX (PySem.Challenge.rw_pulledrooms_k00_houses_judged).prog w) 10 63 "_law_script" mg fa h := by
  have c := c0.x
  have d := c.t.d
  have e := hmg.symm.trans (hg_law KX G d)
  cases e
  have m := c.more
  have T : Txt K mg := { b_abs := hfree_abs KX G d, b_all := hfree_all KX G d, b_bool := hfree_bool KX G d, b_enumerate := hfree_enumerate KX G d, b_int := hfree_int KX G d, b_isinstance := hfree_isinstance KX G d, b_len := hfree_len KX G d, b_list := hfree_list KX G d, b_min := hfree_min KX G d, b_range := hfree_range KX G d, b_super := hfree_super KX G d, b_tuple := hfree_tuple KX G d, g_MOST_ROOMS := He.int_ok KX G (hx_5 KX G d), g_MOST_DOORS := He.int_ok KX G (hx_6 KX G d), g_GREATEST := He.int_ok KX G (hx_7 KX G d), c_PullError := He.glo_ok KX G (hx_0 KX G d), c_Apart := He.glo_ok KX G (hx_1 KX G d), c_BadDoors := He.glo_ok KX G (hx_2 KX G d), c_BadRooms := He.glo_ok KX G (hx_3 KX G d), c_House := He.glo_ok KX G (hx_4 KX G d), x_BadDoors := excT_of KX G (hx_2 KX G d) (hx_8 KX G d), e_BadDoors := excC_of (exB_get m 0 rfl), k_BadDoors := of_decide_eq_true (exB_get m 1 rfl), m_BadDoors := He.exm_ok (hx_9 KX G d), x_BadRooms := excT_of KX G (hx_3 KX G d) (hx_10 KX G d), e_BadRooms := excC_of (exB_get m 2 rfl), k_BadRooms := of_decide_eq_true (exB_get m 3 rfl), m_BadRooms := He.exm_ok (hx_11 KX G d), m_Apart := He.exm_ok (hx_13 KX G d), n_House := neC_of (exB_get m 6 rfl), cl_House := clsT_of (exB_get m 4 rfl) }
  have TD : Txd mg := ⟨T.b_len, T.b_int, T.b_abs⟩
  obtain ⟨fd, F⟩ := d.def_ 21 (d := hd_law) rfl
  have bnd : ∀ (kV doc pm : Value) (an : Option Addr) (cdv ct : Value) (us : List Value), us.length = (["_law_script"] : List Str).length → bindArgs (PySem.W.fnOf "law" "law" (defArgs s_law) (defBody s_law) (defScope s_law) .none kV doc pm an cdv ct) ⟨us, []⟩ = pure ((["_law_script"] : List Str).zip us) := fun _ _ _ _ _ _ us hl => match us, hl with | [_], _ => rfl
  refine ⟨fd, lawP.map (He.cT K), spLaw K (lawTt K), fun p hp => ?_, fun p hp => ?_, fun p hp => ?_, fun s u => FunD.bindsA F bnd s [u] rfl, fun H a ns hl _ hT hS => ⟨a, ns, rfl, hS, hl, fun p hp => ?_, fun _ => rfl⟩, fun base KB GB TB => ?_⟩
  · obtain ⟨q, hq, e⟩ := List.mem_map.mp hp; rw [← e]; exact c.empty _ hq
  · obtain ⟨q, hq, e⟩ := List.mem_map.mp hp; rw [← e]; exact c.out _ hq
  · obtain ⟨q, hq, e⟩ := List.mem_map.mp hp; rw [← e]; exact PySem.W.codeHd_of_K KX (c.hd _ hq)
  · simp only [lawTt, List.mem_cons, List.not_mem_nil, or_false] at hp
    rcases hp with rfl | rfl | rfl
    all_goals exact LamX.TabS.nil (hT (He.cT K (_, none)) (List.mem_map.mpr ⟨_, by simp [lawP], rfl⟩))
  ·
    have k_joined_rooms := ok_joined_rooms (P := (PySem.Challenge.rw_pulledrooms_k00_houses_judged).prog) (w := w) (base := base) (Tt := lawTt K) T (hdf_joined_rooms KX G d) 
    have k_is_number := ok_is_number (P := (PySem.Challenge.rw_pulledrooms_k00_houses_judged).prog) (w := w) (base := base) (Tt := lawTt K) T (hdf_is_number KX G d) 
    have k_is_below := ok_is_below (P := (PySem.Challenge.rw_pulledrooms_k00_houses_judged).prog) (w := w) (base := base) (Tt := lawTt K) T (hdf_is_below KX G d) k_is_number
    have k_is_door := ok_is_door (P := (PySem.Challenge.rw_pulledrooms_k00_houses_judged).prog) (w := w) (base := base) (Tt := lawTt K) T (hdf_is_door KX G d) k_is_below k_is_number
    have k_are_doors := ok_are_doors (P := (PySem.Challenge.rw_pulledrooms_k00_houses_judged).prog) (w := w) (base := base) (Tt := lawTt K) T (hdf_are_doors KX G d) k_is_door
    have k_Apart : SupOk (PySem.Challenge.rw_pulledrooms_k00_houses_judged).prog w K mg base 1 "Apart" (He.ga K "Apart") "room" := supOk_of (x := "Apart") (d := sd_Apart) (se := "self") (y := "room") (f := "room") KX T.c_Apart (c0.s _ (by simp [supL])) (exB_get m 5 rfl) rfl T.b_super (by decide +kernel) (by decide +kernel) (by decide +kernel) (by decide +kernel) rfl (by decide +kernel) (by decide +kernel) (by decide +kernel) (by rfl) (by rfl) (by decide) (fun _ => rfl) (by decide) (by decide) (fun _ _ _ _ _ _ _ us hl => match us, hl with | [_, _], _ => rfl)
    have k_House := ok_House (P := (PySem.Challenge.rw_pulledrooms_k00_houses_judged).prog) (w := w) (base := base) (Tt := lawTt K) T (hdi_House KX G d) k_joined_rooms k_are_doors k_is_number k_Apart
    have k_House_eq := ok_House_eq (P := (PySem.Challenge.rw_pulledrooms_k00_houses_judged).prog) (w := w) (base := base) (Tt := lawTt K) T (hdm_House_eq KX G d) 
    have k__law_begun := ok__law_begun (P := (PySem.Challenge.rw_pulledrooms_k00_houses_judged).prog) (w := w) (base := base) TD (hdf__law_begun KX G d)
    have k__law_blended := ok__law_blended (P := (PySem.Challenge.rw_pulledrooms_k00_houses_judged).prog) (w := w) (base := base) TD (hdf__law_blended KX G d)
    have k__law_draw := ok__law_draw (Tt := lawTt K) TD (hdf__law_draw KX G d) k__law_blended
    have k__law_mixed := ok__law_mixed (P := (PySem.Challenge.rw_pulledrooms_k00_houses_judged).prog) (w := w) (base := base) (Tt := lawTt K) T (hdf__law_mixed KX G d) k__law_draw
    have k__law_pick := ok__law_pick TD (hdf__law_pick KX G d) k__law_draw
    have k__law_size := ok__law_size (P := (PySem.Challenge.rw_pulledrooms_k00_houses_judged).prog) (w := w) (base := base) (Tt := lawTt K) T (hdf__law_size KX G d) k__law_pick
    have k__law_doors := ok__law_doors (P := (PySem.Challenge.rw_pulledrooms_k00_houses_judged).prog) (w := w) (base := base) (Tt := lawTt K) T (hdf__law_doors KX G d) k__law_draw k__law_mixed k__law_size
    have k__law_wk_house := ok__law_wk_house (P := (PySem.Challenge.rw_pulledrooms_k00_houses_judged).prog) (w := w) (base := base) (Tt := lawTt K) T (hdf__law_wk_house KX G d) k__law_draw k__law_doors
    have k__law_wk_apart := ok__law_wk_apart (P := (PySem.Challenge.rw_pulledrooms_k00_houses_judged).prog) (w := w) (base := base) (Tt := lawTt K) T (hdf__law_wk_apart KX G d) 
    have only__law_made_or_apart : ∀ p ∈ lawTt K, p.1 = (He.cT K ("_law_made_or_apart", none)).2 → p.2 = "_law_made_or_apart.<locals>.<lambda>" := fun p hp e => by
      simp only [lawTt, List.mem_cons, List.not_mem_nil, or_false] at hp
      rcases hp with rfl | rfl | rfl
      · rfl
      · exact absurd e (Ne.symm (of_decide_eq_true (exB_get m 7 rfl)))
      · exact absurd e (Ne.symm (of_decide_eq_true (exB_get m 8 rfl)))
    have k__law_made_or_apart := ok__law_made_or_apart (P := (PySem.Challenge.rw_pulledrooms_k00_houses_judged).prog) (w := w) (base := base) (Tt := lawTt K) T (hdc__law_made_or_apart KX G d) (hdf__law_caught KX G d) (TB (He.cT K ("_law_made_or_apart", none)) (List.mem_map.mpr ⟨_, by simp [lawP], rfl⟩)) (by simp [lawTt]) only__law_made_or_apart k__law_wk_apart k_House k_Apart
    have k__law_is_truth := ok__law_is_truth (P := (PySem.Challenge.rw_pulledrooms_k00_houses_judged).prog) (w := w) (base := base) (Tt := lawTt K) T (hdf__law_is_truth KX G d) 
    have k__law_unlike := ok__law_unlike (P := (PySem.Challenge.rw_pulledrooms_k00_houses_judged).prog) (w := w) (base := base) (Tt := lawTt K) T (hdf__law_unlike KX G d) k_House k__law_is_truth k__law_pick k_House_eq
    have k__law_odd_door := ok__law_odd_door (P := (PySem.Challenge.rw_pulledrooms_k00_houses_judged).prog) (w := w) (base := base) (Tt := lawTt K) T (hdf__law_odd_door KX G d) k__law_pick
    have only__law_refused : ∀ p ∈ lawTt K, p.1 = (He.cT K ("_law_refused", none)).2 → p.2 = "_law_refused.<locals>.<lambda>" := fun p hp e => by
      simp only [lawTt, List.mem_cons, List.not_mem_nil, or_false] at hp
      rcases hp with rfl | rfl | rfl
      · exact absurd e (of_decide_eq_true (exB_get m 7 rfl))
      · rfl
      · exact absurd e (Ne.symm (of_decide_eq_true (exB_get m 9 rfl)))
    have k__law_refused := ok__law_refused (P := (PySem.Challenge.rw_pulledrooms_k00_houses_judged).prog) (w := w) (base := base) (Tt := lawTt K) T (hdc__law_refused KX G d) (hdf__law_caught KX G d) (TB (He.cT K ("_law_refused", none)) (List.mem_map.mpr ⟨_, by simp [lawP], rfl⟩)) (by simp [lawTt]) only__law_refused k__law_pick k__law_draw k__law_odd_door k_House
    have k__law_free_doors := ok__law_free_doors (P := (PySem.Challenge.rw_pulledrooms_k00_houses_judged).prog) (w := w) (base := base) (Tt := lawTt K) T (hdf__law_free_doors KX G d) k__law_draw k__law_size
    have k_law := ok_law (P := (PySem.Challenge.rw_pulledrooms_k00_houses_judged).prog) (w := w) (base := base) (Tt := lawTt K) T (hdf_law KX G d) k__law_begun k__law_wk_house k__law_made_or_apart k__law_unlike k__law_draw k__law_refused k__law_free_doors
    exact Cal.fnok k_law F (hg_law KX G d)
end Kx
open PySem PySem.W PySem.Calls PyProof.Rows
theorem PySem.Challenge.cw_pulledrooms_k00_houses_judged_holds : PySem.Challenge.rw_pulledrooms_k00_houses_judged.Holds := by
  w_on; o_law
  refine HandSHeadRun.head_any (r := OpenLaw.row PySem.Challenge.rw_pulledrooms_k00_houses_judged) (q := view (OpenLaw.row PySem.Challenge.rw_pulledrooms_k00_houses_judged).prog [Kx.lawIx]) (H := Kx.hkX) (ob := Kx.obK) (M := 8000) (loose := Kx.hloose) (d := HandSHeadRun.topDef (OpenLaw.row PySem.Challenge.rw_pulledrooms_k00_houses_judged).prog Kx.lawIx) (kwd := []) Kx.obK_eq
    (by kernel_rfl) (fun s => by kernel_rfl) Kx.runK (by kernel_rfl) (by kernel_rfl) (by kernel_rfl) (by rfl) (by first | assumption | decide +kernel) (by decide +kernel) ⟨rfl, rfl, rfl, rfl, rfl, by decide +kernel⟩ ?hw ?hc
  case hw => w_witness2
  case hc =>
    refine LamX.walk_ofTsE (l := PySem.Challenge.rw_pulledrooms_k00_houses_judged) (n := 63) (k := 10) (x := "_law_script") (CX := fun w => L2.CX (PySem.Challenge.rw_pulledrooms_k00_houses_judged).prog w) rfl (by decide) (by kernel_rfl) ⟨rfl, by decide, by decide⟩ ?F fun w H s e s' h => ?N
    case N =>
      obtain ⟨_, _, _, _, _, _, _, _, _, _, _, _, z⟩ := h
      exact z.elim
    case F =>
      intro w mg fa h Y G hmg0
      obtain ⟨K, KX, c⟩ := Y
      have hmg : mg ("law" : PySem.Str) = some (.ref fa) := by
        have e : (HandSHeadRun.topDef (OpenLaw.row PySem.Challenge.rw_pulledrooms_k00_houses_judged).prog Kx.lawIx).name = ("law" : PySem.Str) := by kernel_rfl
        rw [← e]
        exact hmg0
      exact ⟨K, KX, Kx.lawAt KX G hmg c⟩
