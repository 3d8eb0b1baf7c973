import PyProof.Rows.All
import Wide.All
import OpenK.AllK
import Wide.FinOn
import HandS.ExcCtx
import HandS.ForMost
import HandS.ForExc
import HandS.TupAny
import HandS.Rev
import HandS.RevRange
import HandS.Conv
import HandS.Zip
import HandS.IsInst
import HandS.Defaults
import HandS.CallSlots
import HandS.HeadEnd
import HandS.Head0
import HandS.Head1
import HandS.Head2
import HandS.HeadHook1
import HandS.HeadHook2
import HandS.EndBits
import KE.GoesMore
import KE.GoesZip
import HandS.RevTup
import PyProof.ListRange
import HandS.More
import HandS.HeadHook3
import HandS.ExcInit
import HandS.ExcOwn
import HandS.ExcField
import HandS.HotCalls
import HandS.ExcInitHot
import KE.KExcIs
import HandS.TupMul
import HandS.SortInts
import HandS.SortKw
import KE.DataMinMax
import Wide.Txt2
import HandS.MapObj
import PySem.Challenge.RW_loomarrays_k12_views_cell_by_cell
set_option Elab.async false
set_option linter.all false
set_option maxRecDepth 100000
set_option maxHeartbeats 4000000
/-! What the run of the top asks. -/
namespace LM
open PySem L2 L2H
abbrev AlL : Type := He.AlT × Bool
def obsL (fa : List He.Fa) (fn : List He.DefD) (ts : List He.Tab) (ck : PySem.W.Frag → Bool) (K : PySem.W.Frag) : AlL := (He.obsT fa fn ts K, ck K)
def obsLG (n : Nat) (fa : List He.Fa) (fn : List He.DefD) (ts : List He.Tab) (ck : PySem.W.Frag → Bool) (g : Addr → Option Obj) : AlL := obsL fa fn ts ck (He.frG g (He.asD g n))
def SaysL (fa : List He.Fa) (fn : List He.DefD) (ts : List He.Tab) (ck : PySem.W.Frag → Bool) (w : World) (K : PySem.W.Frag) : Prop := obsL fa fn ts ck K = (He.valT fn ts w, true)
def hookL (n : Nat) (fa : List He.Fa) (fn : List He.DefD) (ts : List He.Tab) (ck : PySem.W.Frag → Bool) : PySem.W.Hook where
  α := AlL
  obs := fun s => obsLG n fa fn ts ck s.heap.get?
  val := fun w => (He.valT fn ts w, true)
  says := fun w h => ∃ K : PySem.W.Frag, K.In h ∧ SaysL fa fn ts ck w K
  of := fun _ _ e => ⟨_, He.frG_in, e⟩
  keeps := fun _ _ _ ⟨K, hK, c⟩ k => ⟨K, PySem.W.Frag.In.keeps hK k, c⟩
theorem obsLG_is {n : Nat} {fa : List He.Fa} {fn : List He.DefD} {ts : List He.Tab} {ck : PySem.W.Frag → Bool} {g : Addr → Option Obj} {s : Shared} (h : ∀ a, g a = s.heap.get? a) : obsLG n fa fn ts ck g = (hookL n fa fn ts ck).obs s := by
  have e : g = s.heap.get? := funext h
  rw [e]
  rfl
inductive Te where
  | fn (x : Str) (id : Nat)
  | tup (l : List Int)
  | int (i : Int)
def isInts : List Int → List Value → Bool
  | [], [] => true
  | i :: r, .int j _ :: s => decide (i = j) && isInts r s
  | _, _ => false
def Te.is (K : PySem.W.Frag) : Te → Value → Bool
  | .fn x _, .ref a => decide (a = He.ga K x)
  | .tup l, .ref a => (match K.lookup a with
    | some ⟨.type c, _, .seq its _, _⟩ => decide (c = "tuple") && (Nat.ble its.size 1000 && isInts l its.toList)
    | _ => false)
  | .int i, .int j _ => decide (i = j)
  | _, _ => false
def tabB (K : PySem.W.Frag) (a : Addr) (es : List (Str × Te)) : Bool := es.all fun q => match PySem.W.nsIn K a q.1 with
  | some (some u) => q.2.is K u
  | _ => false
def oexB (K : PySem.W.Frag) (C : Addr) : Bool := (match K.lookup C with
  | some ⟨.type t, _, .cls cd, sl⟩ => decide (t = "type") && (match cd.mro, sl.toList with
    | .ref C' :: bm, [_, _, _, _, some (.builtin n), _] => decide (C' = C) && (decide (n = "ValueError.__new__") && (!cd.hasDel && (cd.hasDict && PySem.HandSPX.refsVE bm)))
    | _, _ => false)
  | _ => false) && (decide (PySem.W.findIn K (.ref C) "__setattr__" = some (some (.builtin "object.__setattr__"))) && (decide (PySem.W.subIn K (.ref C) (.type "BaseException") = some true) && (decide (PySem.W.typeIn K (.ref C) = some (.type "type")) && PySem.W.keepIn K (.ref C))))
abbrev CkL := List (PySem.W.Frag → Bool)
def ckAll (l : CkL) (K : PySem.W.Frag) : Bool := l.all fun b => b K
def eoB (fs : List Str) (C : Addr) (K : PySem.W.Frag) : Bool := oexB K C && (decide (PySem.W.findIn K (.ref C) "__init__" = some (some (.ref (He.ma K C "__init__")))) && (decide (PySem.W.typeIn K (.ref (He.ma K C "__init__")) = some (.type "function")) && fs.all fun f => decide (PySem.W.findIn K (.ref C) f = some none)))
def xfKB (f : Str) (C : Addr) (K : PySem.W.Frag) : Bool := xfB K C && decide (PySem.W.findIn K (.ref C) f = some none)
def xiB (C : Addr) (cv : Value) (r : Bool) (K : PySem.W.Frag) : Bool := ((PySem.W.clsIn K C).isSome && (decide (PySem.W.findIn K (.ref C) "__getattribute__" = some (some (.builtin "BaseException.__getattribute__"))) && (decide (PySem.W.findIn K (.ref C) "__getattr__" = some none) && decide (PySem.W.subIn K (.ref C) (.type "BaseException") = some true)))) &&
  ((decide (PySem.W.findIn K (.ref C) "__class__" = some (some (.builtin "object.__class__"))) && (decide (PySem.W.specialIn K (.builtin "object.__class__") "__get__" = some (some (.builtin "getset_descriptor.__get__"))) && decide (PySem.W.takesIn K (.builtin "object.__class__") = some true))) &&
  (decide (PySem.W.mroIn K C (.type "object") = some true) && decide (PySem.W.kitOne K (.ref C) cv = some r)))
def ckB (cA : PySem.W.Frag → Nat → Addr) (cv : Nat) (tab : List (Nat × Bool)) (K : PySem.W.Frag) : Bool := tab.all fun q => decide (PySem.W.exmOne K (.ref (cA K q.1)) (.ref (cA K cv)) = some q.2)
def eo0B (C : Addr) (K : PySem.W.Frag) : Bool := PySem.W.excIn K C [.type "ValueError", .type "Exception", .type "BaseException", .type "object"] "ValueError.__new__" && (PySem.W.keepIn K (.ref C) && (decide (PySem.W.subIn K (.ref C) (.type "BaseException") = some true) && decide (PySem.W.typeIn K (.ref C) = some (.type "type"))))
def clsB (C : Addr) (K : PySem.W.Frag) : Bool := PySem.W.plainGet K C Str.empty && (PySem.W.hasDictIn K C && (PySem.W.plainOver K C && decide (PySem.W.findIn K (.ref C) "__setattr__" = some (some (.builtin "object.__setattr__")))))
def isB (c C : Addr) (r : Bool) (K : PySem.W.Frag) : Bool := clsB c K && (decide (PySem.W.findIn K (.ref c) "__class__" = some (some (.builtin "object.__class__"))) && (decide (PySem.W.specialIn K (.builtin "object.__class__") "__get__" = some (some (.builtin "getset_descriptor.__get__"))) && (decide (PySem.W.takesIn K (.builtin "object.__class__") = some true) &&
  (decide (PySem.W.mroIn K c (.type "object") = some true) && decide (PySem.W.kitOne K (.ref c) (.ref C) = some r)))))
def mayB (fs : List Str) (C : Addr) (K : PySem.W.Frag) : Bool := clsB C K && fs.all fun f => decide (PySem.W.findIn K (.ref C) f = some none)
def methB (C D : Addr) (m : Str) (K : PySem.W.Frag) : Bool := clsB C K && (decide (PySem.W.findIn K (.ref C) m = some (some (.ref (He.ma K D m)))) && (PySem.W.isFn K (.ref (He.ma K D m)) && PySem.W.keepIn K (.ref (He.ma K D m))))
def mkB (C D : Addr) (K : PySem.W.Frag) : Bool := PySem.W.makesIn K C && (decide (PySem.W.findIn K (.ref C) "__init__" = some (some (.ref (He.ma K D "__init__")))) && (PySem.W.isFn K (.ref (He.ma K D "__init__")) && PySem.W.keepIn K (.ref C)))
def isStrs : List Str → List Value → Bool
  | [], [] => true
  | i :: r, .str j _ :: s => decide (i = j) && isStrs r s
  | _, _ => false
def cstB (a : Addr) (l : List Str) (K : PySem.W.Frag) : Bool := match K.lookup a with
  | some ⟨.type c, _, .seq its _, _⟩ => decide (c = "tuple") && (Nat.ble its.size 1000 && isStrs l its.toList)
  | _ => false
end LM

namespace LM
open PySem L2
def topS (i : Nat) : Stmt := PySem.Challenge.pw_loomarrays_k12_views_cell_by_cell.main.body.getD i (.Pass ⟨0, 0, 0, 0⟩)
def tab_BOTH : List (Str × Te) := [("add", .fn "added" 1), ("less", .fn "lessened" 2), ("times", .fn "multiplied" 3), ("least", .fn "lesser" 4), ("most", .fn "greater" 5), ("below", .fn "is_below" 6), ("alike", .fn "is_alike" 7)]
def tab_READS : List (Str × Te) := [("given", .tup []), ("even", .tup []), ("turn", .tup [1]), ("cut", .tup [1]), ("drop", .tup [1]), ("wide", .tup [1]), ("spread", .tup [1]), ("shape", .tup [1]), ("shift", .tup [1]), ("one", .tup [2]), ("both", .tup [2, 3]), ("where", .tup [1, 2, 3]), ("fold", .tup [2]), ("run", .tup [2]), ("pick", .tup [1, 3]), ("join", .tup [1, 2])]
def tab_FITS : List (Str × Te) := [("turn", .fn "fit_turn" 17), ("cut", .fn "fit_cut" 18), ("drop", .fn "fit_drop" 19), ("wide", .fn "fit_wide" 20), ("spread", .fn "fit_spread" 21), ("shape", .fn "fit_shape" 22), ("shift", .fn "fit_along" 23), ("one", .fn "fit_met" 24), ("both", .fn "fit_met" 24), ("where", .fn "fit_met" 24), ("fold", .fn "fit_fold" 25), ("run", .fn "fit_along" 23), ("pick", .fn "fit_pick" 26), ("join", .fn "fit_join" 27)]
def tab_CELLS : List (Str × Te) := [("turn", .fn "cell_turn" 34), ("cut", .fn "cell_cut" 35), ("drop", .fn "cell_drop" 36), ("wide", .fn "cell_wide" 37), ("spread", .fn "cell_spread" 38), ("shift", .fn "cell_shift" 39), ("one", .fn "cell_one" 40), ("both", .fn "cell_both" 41), ("where", .fn "cell_where" 42), ("fold", .fn "cell_fold" 44), ("run", .fn "cell_run" 45), ("pick", .fn "cell_pick" 46), ("join", .fn "cell_join" 47)]
def dRec (x : Str) (i : Nat) : He.DefD := ⟨(x, none), x, x, defArgs (topS i), defBody (topS i), defScope (topS i), [], []⟩
def dIni (x q : Str) (i j : Nat) : He.DefD := ⟨(x, some "__init__"), "__init__", q, defArgs (inClass (topS i) j), defBody (inClass (topS i) j), defScope (inClass (topS i) j), [], []⟩
def dMet (x m q : Str) (i j : Nat) : He.DefD := ⟨(x, some m), m, q, defArgs (inClass (topS i) j), defBody (inClass (topS i) j), defScope (inClass (topS i) j), [], []⟩
def fns_0 : List He.DefD := [dRec "one_deed" 2, dRec "added" 3, dRec "lessened" 4, dRec "multiplied" 5, dRec "lesser" 6, dRec "greater" 7, dRec "is_below" 8, dRec "is_alike" 9, dRec "both_deed" 11, dRec "folded_none" 12, dRec "cells_in" 22, dRec "sides_fit" 23, dRec "place_at" 24, dRec "index_of" 25, dRec "sides_met" 26, dRec "read_by" 30, dRec "without_side" 31, dRec "fit_turn" 32, dRec "fit_cut" 33, dRec "fit_drop" 34]
def fns_1 : List He.DefD := [dRec "fit_wide" 35, dRec "fit_spread" 36, dRec "fit_shape" 37, dRec "fit_along" 38, dRec "fit_met" 39, dRec "fit_fold" 40, dRec "fit_pick" 41, dRec "fit_join" 42, dRec "number_of" 44, dRec "line_sides" 45, dRec "sides_of" 46, dRec "wanted_lines" 48, dRec "with_place" 52, dRec "spread_cell" 53, dRec "cell_turn" 54, dRec "cell_cut" 55, dRec "cell_drop" 56, dRec "cell_wide" 57, dRec "cell_spread" 58, dRec "cell_shift" 59]
def fns_2 : List He.DefD := [dRec "cell_one" 60, dRec "cell_both" 61, dRec "cell_where" 62, dRec "folded" 63, dRec "cell_fold" 64, dRec "cell_run" 65, dRec "cell_pick" 66, dRec "cell_join" 67, dRec "plain_table" 69, dRec "plain_answer" 70, dRec "_law_taken" 72, dRec "_law_whole" 73, dRec "_law_numbers" 74, dRec "_law_cells" 75, dRec "_law_index" 76, dRec "_law_look" 77, dRec "_law_is_table" 78, dRec "_law_changed" 79, dRec "_law_view" 80, dRec "_law_sided" 81]
def fns_3 : List He.DefD := [dRec "_law_own" 82, dRec "_law_numbered" 83, dRec "_law_under" 84, dRec "law" 85, dIni "BadLine" "BadLine.__init__" 16 0, dMet "Table" "cell" "Table.cell" 50 1, dMet "Table" "__init__" "Table.__init__" 50 0]
def fns_ : List He.DefD := fns_0 ++ fns_1 ++ fns_2 ++ fns_3
def fa_0 : List He.Fa := [.glo "one_deed", .glo "added", .glo "lessened", .glo "multiplied", .glo "lesser", .glo "greater", .glo "is_below", .glo "is_alike", .glo "both_deed", .glo "folded_none", .glo "cells_in", .glo "sides_fit", .glo "place_at", .glo "index_of", .glo "sides_met", .glo "read_by", .glo "without_side", .glo "fit_turn", .glo "fit_cut", .glo "fit_drop"]
def fa_1 : List He.Fa := [.glo "fit_wide", .glo "fit_spread", .glo "fit_shape", .glo "fit_along", .glo "fit_met", .glo "fit_fold", .glo "fit_pick", .glo "fit_join", .glo "number_of", .glo "line_sides", .glo "sides_of", .glo "wanted_lines", .glo "with_place", .glo "spread_cell", .glo "cell_turn", .glo "cell_cut", .glo "cell_drop", .glo "cell_wide", .glo "cell_spread", .glo "cell_shift"]
def fa_2 : List He.Fa := [.glo "cell_one", .glo "cell_both", .glo "cell_where", .glo "folded", .glo "cell_fold", .glo "cell_run", .glo "cell_pick", .glo "cell_join", .glo "plain_table", .glo "plain_answer", .glo "_law_taken", .glo "_law_whole", .glo "_law_numbers", .glo "_law_cells", .glo "_law_index", .glo "_law_look", .glo "_law_is_table", .glo "_law_changed", .glo "_law_view", .glo "_law_sided"]
def fa_3 : List He.Fa := [.glo "_law_own", .glo "_law_numbered", .glo "_law_under", .glo "law", .free "len", .free "range", .free "tuple", .free "list", .free "int", .free "bool", .free "str", .free "isinstance", .free "max", .free "min", .free "sum", .free "zip", .free "reversed", .free "enumerate", .free "sorted", .free "set"]
def fa_4 : List He.Fa := [.free "dict", .free "ValueError", .free "any", .free "all", .int "REST" (1000003), .int "MOST_SIDES" (4), .int "LONGEST" (64), .int "MOST_CELLS" (4096), .int "MOST_LINES" (40), .glo "BOTH", .glo "CELLS", .glo "FITS", .glo "READS", .glo "LoomError", .glo "NoTable", .glo "BadLine", .glo "NoCell", .glo "Table"]
def fa_ : List He.Fa := fa_0 ++ fa_1 ++ fa_2 ++ fa_3 ++ fa_4
def lo_0 : List Str := ["one_deed", "added", "lessened", "multiplied", "lesser", "greater", "is_below", "is_alike", "both_deed", "folded_none", "cells_in", "sides_fit", "place_at", "index_of", "sides_met", "read_by", "without_side", "fit_turn", "fit_cut", "fit_drop"]
def lo_1 : List Str := ["fit_wide", "fit_spread", "fit_shape", "fit_along", "fit_met", "fit_fold", "fit_pick", "fit_join", "number_of", "line_sides", "sides_of", "wanted_lines", "with_place", "spread_cell", "cell_turn", "cell_cut", "cell_drop", "cell_wide", "cell_spread", "cell_shift"]
def lo_2 : List Str := ["cell_one", "cell_both", "cell_where", "folded", "cell_fold", "cell_run", "cell_pick", "cell_join", "plain_table", "plain_answer", "_law_taken", "_law_whole", "_law_numbers", "_law_cells", "_law_index", "_law_look", "_law_is_table", "_law_changed", "_law_view", "_law_sided"]
def lo_3 : List Str := ["_law_own", "_law_numbered", "_law_under", "Table.__init__", "Table.cell", "REST", "BOTH", "MOST_SIDES", "LONGEST", "MOST_CELLS", "MOST_LINES", "READS", "FITS", "CELLS", "LoomError", "NoTable", "BadLine", "NoCell", "Table"]
abbrev lo_ : List Str := lo_0 ++ lo_1 ++ lo_2 ++ lo_3
abbrev R_ : PySem.W.OpenRow := PySem.W.OpenLaw.row PySem.Challenge.rw_loomarrays_k12_views_cell_by_cell
def cnames : List Str := ["LoomError", "NoTable", "BadLine", "NoCell", "Table"]
def cAd (K : PySem.W.Frag) (i : Nat) : Addr := He.ga K (cnames.getD i Str.empty)
def cfl (i : Nat) : List Str := ([[], [], ["why", "at"], [], ["sides", "cells"]] : List (List Str)).getD i []
def cks_ : CkL := [fun K => tabB K (He.ga K "BOTH") tab_BOTH, fun K => tabB K (He.ga K "CELLS") tab_CELLS, fun K => tabB K (He.ga K "FITS") tab_FITS, fun K => tabB K (He.ga K "READS") tab_READS, fun K => eoB ["at", "why"] (cAd K 2) K, fun K => mayB ["sides", "cells"] (cAd K 4) K, fun K => mkB (cAd K 4) (cAd K 4) K, fun K => eo0B (cAd K 3) K, fun K => eo0B (cAd K 1) K, fun K => isB (cAd K 4) (cAd K 4) true K, fun K => methB (cAd K 4) (cAd K 4) "cell" K]
def ts_ : List He.Tab := [(fun K => He.ga K "BOTH", ["add", "less", "times", "least", "most", "below", "alike"]), (fun K => He.ga K "CELLS", ["turn", "cut", "drop", "wide", "spread", "shift", "one", "both", "where", "fold", "run", "pick", "join"]), (fun K => He.ga K "FITS", ["turn", "cut", "drop", "wide", "spread", "shape", "shift", "one", "both", "where", "fold", "run", "pick", "join"]), (fun K => He.ga K "READS", ["given", "even", "turn", "cut", "drop", "wide", "spread", "shape", "shift", "one", "both", "where", "fold", "run", "pick", "join"])]
def ck_ (K : PySem.W.Frag) : Bool := ckAll cks_ K
abbrev hk_ : PySem.W.Hook := hookL 6 fa_ fns_ ts_ ck_
def ob_ (s : PySem.W.SharedT) : AlL := obsLG 6 fa_ fns_ ts_ ck_ (HandSHeadRun.getT s)
theorem ob_is (s : PySem.W.SharedT) : ob_ s = hk_.obs s.abs := obsLG_is (HandSHeadRun.getT_eq s)
theorem run_a (w : World) : (fun w => HandSHeadRun.RunEq R_ (PySem.W.view R_.prog [85]) hk_ ob_ 5560 lo_ w) (w.withFollow "special-get-raises" false) := by
  intro os
  kernel_rfl
theorem run_b (w : World) : (fun w => HandSHeadRun.RunEq R_ (PySem.W.view R_.prog [85]) hk_ ob_ 5560 lo_ w) (w.withFollow "special-get-raises" true) := by
  intro os
  kernel_rfl
theorem run_ (w : World) : HandSHeadRun.RunEq R_ (PySem.W.view R_.prog [85]) hk_ ob_ 5560 lo_ w :=
  PySem.W.byRow2 "special-get-raises" (P := fun w => HandSHeadRun.RunEq R_ (PySem.W.view R_.prog [85]) hk_ ob_ 5560 lo_ w) run_a run_b w
end LM
/-! Data values, the machine of the mirror, and what stands for what. -/
namespace LM
open PySem L2

/-- a value told as data; lists and objects that are never changed again are data, too -/
inductive DV where
  | non | bl (b : Bool) | int (i : Int) | str (s : Str)
  | tup (l : List DV)
  | lst (l : List DV)
  | scr (l : List Int)
  | dct (ks : List Int) (l : List DV)
  | obj (c : Nat) (l : List DV)
  | fn (f : Nat)
  | ref (p : Nat)
  deriving Inhabited

/-- an object that may still be changed -/
inductive HObj where
  | lst (l : List DV)
  | obj (c : Nat) (l : List DV)
  deriving Inhabited

abbrev HP := List HObj
structure Ex where
  c : Nat
  l : List DV
  deriving Inhabited

inductive Res (α : Type) where
  | ok (a : α) (h : HP)
  | exc (e : Ex) (h : HP)
  | bad

def M (α : Type) : Type := HP → Res α
namespace M
@[inline] def pure {α : Type} (a : α) : M α := fun h => .ok a h
@[inline] def bind {α β : Type} (m : M α) (k : α → M β) : M β := fun h => match m h with
  | .ok a h' => k a h'
  | .exc e h' => .exc e h'
  | .bad => .bad
def bad {α : Type} : M α := fun _ => .bad
instance : Monad M where
  pure := M.pure
  bind := M.bind
theorem ext {α : Type} {m n : M α} (e : ∀ h, m h = n h) : m = n := funext e
theorem bind_def {α β : Type} (m : M α) (k : α → M β) (h : HP) : (m >>= k) h = (match m h with
  | .ok a h' => k a h'
  | .exc e h' => .exc e h'
  | .bad => .bad) := rfl
theorem pure_def {α : Type} (a : α) (h : HP) : (Pure.pure a : M α) h = .ok a h := rfl
theorem bad_def {α : Type} (h : HP) : (M.bad : M α) h = .bad := rfl
instance : LawfulMonad M := LawfulMonad.mk'
  (id_map := fun m => ext fun h => by
    show M.bind m (fun a => M.pure a) h = m h
    unfold M.bind M.pure
    cases m h <;> rfl)
  (pure_bind := fun a k => rfl)
  (bind_assoc := fun m k j => ext fun h => by
    show M.bind (M.bind m k) j h = M.bind m (fun a => M.bind (k a) j) h
    unfold M.bind
    cases m h <;> rfl)
theorem bad_bind {α β : Type} (k : α → M β) : ((M.bad : M α) >>= k) = M.bad := rfl
end M

/-! ### what stands for what -/
structure Glue where
  K : PySem.W.Frag
  fA : Nat → Addr
  cA : Nat → Addr
  flds : Nat → List Str
/-- the objects that stay for ever; where the changing ones lie -/
structure Wd where
  F : Addr → Prop
  r : List Addr

/-- the script: locked, or an object of the top -/
def SqS (K : PySem.W.Frag) (H : Hp) (a : Addr) (xs : List V) : Prop :=
  (∃ o, H a = some (.frz o (.lst xs))) ∨
    ∃ (o : Obj) (its : Array Value) (n : Nat), K.lookup a = some o ∧ o.cls = .type "list" ∧ o.dict = none ∧ o.data = .seq its n ∧ its.size ≤ sizeLine ∧ Vals xs its.toList
theorem SqS.l {K : PySem.W.Frag} {H : Hp} {a : Addr} {xs : List V} (h : SqS K H a xs) : SqL K H a xs := by
  rcases h with h | h
  · exact .inl (.inr h)
  · exact .inr h

mutual
def Rep (g : Glue) (W : Wd) (H : Hp) : DV → V → Prop
  | .non, v => v = .non
  | .bl b, v => v = .bl b
  | .int i, v => v = .int i
  | .str s, v => v = .str s
  | .tup l, v => ∃ a vs, v = .ref a ∧ SqT g.K H a vs ∧ Reps g W H l vs
  | .lst l, v => ∃ a vs, v = .ref a ∧ W.F a ∧ H a = some (.lst vs) ∧ Reps g W H l vs
  | .scr l, v => ∃ a, v = .ref a ∧ SqS g.K H a (l.map V.int)
  | .dct ks l, v => ∃ a vs, v = .ref a ∧ W.F a ∧ H a = some (.dK ((ks.map Sum.inl).zip vs)) ∧ ks.length = vs.length ∧ Reps g W H l vs
  | .obj c l, v => ∃ a dx vs, v = .ref a ∧ W.F a ∧ H a = some (.ins (g.cA c) dx ((g.flds c).zip vs)) ∧ vs.length ≤ (g.flds c).length ∧ Reps g W H l vs
  | .fn f, v => v = .ref (g.fA f)
  | .ref p, v => ∃ a, v = .ref a ∧ W.r[p]? = some a
def Reps (g : Glue) (W : Wd) (H : Hp) : List DV → List V → Prop
  | [], vs => vs = []
  | d :: ds, vs => ∃ v r, vs = v :: r ∧ Rep g W H d v ∧ Reps g W H ds r
end

/-- a later heap, all that is data being as it was -/
structure Per (W : Wd) (H : Hp) (W' : Wd) (H' : Hp) : Prop where
  f : ∀ a, W.F a → W'.F a
  r : ∀ (p : Nat) (a : Addr), W.r[p]? = some a → W'.r[p]? = some a
  h : ∀ a, W.F a → H' a = H a
  t : ∀ a xs, H a = some (.tup xs) → H' a = some (.tup xs)
  z : ∀ a o u, H a = some (.frz o u) → H' a = some (.frz o u)
theorem Per.refl (W : Wd) (H : Hp) : Per W H W H := ⟨fun _ h => h, fun _ _ h => h, fun _ _ => rfl, fun _ _ h => h, fun _ _ _ h => h⟩
theorem Per.trans {W W1 W2 : Wd} {H H1 H2 : Hp} (a : Per W H W1 H1) (b : Per W1 H1 W2 H2) : Per W H W2 H2 :=
  ⟨fun x h => b.f x (a.f x h), fun p x h => b.r p x (a.r p x h), fun x h => (b.h x (a.f x h)).trans (a.h x h), fun x xs h => b.t x xs (a.t x xs h), fun x o u h => b.z x o u (a.z x o u h)⟩
theorem Per.sqT {K : PySem.W.Frag} {W W' : Wd} {H H' : Hp} {a : Addr} {xs : List V} (p : Per W H W' H') (h : SqT K H a xs) : SqT K H' a xs := by
  rcases h with (h | ⟨o, h⟩) | h
  · exact .inl (.inl (p.t _ _ h))
  · exact .inl (.inr ⟨o, p.z _ _ _ h⟩)
  · exact .inr h
theorem Per.sqS {K : PySem.W.Frag} {W W' : Wd} {H H' : Hp} {a : Addr} {xs : List V} (p : Per W H W' H') (h : SqS K H a xs) : SqS K H' a xs := by
  rcases h with ⟨o, h⟩ | h
  · exact .inl ⟨o, p.z _ _ _ h⟩
  · exact .inr h
mutual
theorem Rep.per {g : Glue} {W W' : Wd} {H H' : Hp} (p : Per W H W' H') : ∀ (d : DV) (v : V), Rep g W H d v → Rep g W' H' d v
  | .non, _, h => by simpa only [Rep] using h
  | .bl _, _, h => by simpa only [Rep] using h
  | .int _, _, h => by simpa only [Rep] using h
  | .str _, _, h => by simpa only [Rep] using h
  | .tup l, v, h => by
    simp only [Rep] at h ⊢
    obtain ⟨a, vs, e, s, r⟩ := h
    exact ⟨a, vs, e, p.sqT s, Reps.per p l vs r⟩
  | .lst l, v, h => by
    simp only [Rep] at h ⊢
    obtain ⟨a, vs, e, f, s, r⟩ := h
    exact ⟨a, vs, e, p.f a f, (p.h a f).trans s, Reps.per p l vs r⟩
  | .scr l, v, h => by
    simp only [Rep] at h ⊢
    obtain ⟨a, e, s⟩ := h
    exact ⟨a, e, p.sqS s⟩
  | .dct ks l, v, h => by
    simp only [Rep] at h ⊢
    obtain ⟨a, vs, e, f, s, n, r⟩ := h
    exact ⟨a, vs, e, p.f a f, (p.h a f).trans s, n, Reps.per p l vs r⟩
  | .obj c l, v, h => by
    simp only [Rep] at h ⊢
    obtain ⟨a, dx, vs, e, f, s, n, r⟩ := h
    exact ⟨a, dx, vs, e, p.f a f, (p.h a f).trans s, n, Reps.per p l vs r⟩
  | .fn _, _, h => by simpa only [Rep] using h
  | .ref q, v, h => by
    simp only [Rep] at h ⊢
    obtain ⟨a, e, s⟩ := h
    exact ⟨a, e, p.r _ _ s⟩
theorem Reps.per {g : Glue} {W W' : Wd} {H H' : Hp} (p : Per W H W' H') : ∀ (l : List DV) (vs : List V), Reps g W H l vs → Reps g W' H' l vs
  | [], _, h => by simpa only [Reps] using h
  | d :: ds, vs, h => by
    simp only [Reps] at h ⊢
    obtain ⟨v, r, e, h1, h2⟩ := h
    exact ⟨v, r, e, Rep.per p d v h1, Reps.per p ds r h2⟩
end
theorem Reps.len {g : Glue} {W : Wd} {H : Hp} : ∀ {l : List DV} {vs : List V}, Reps g W H l vs → l.length = vs.length
  | [], _, h => by
    simp only [Reps] at h
    rw [h]
    rfl
  | d :: ds, vs, h => by
    simp only [Reps] at h
    obtain ⟨v, r, e, _, h2⟩ := h
    rw [e, List.length_cons, List.length_cons, Reps.len h2]
theorem Reps.get {g : Glue} {W : Wd} {H : Hp} : ∀ {l : List DV} {vs : List V} {i : Nat} {d : DV}, Reps g W H l vs → l[i]? = some d → ∃ v, vs[i]? = some v ∧ Rep g W H d v
  | [], _, _, _, _, e => by simp at e
  | x :: ds, vs, i, d, h, e => by
    simp only [Reps] at h
    obtain ⟨v, r, e1, h1, h2⟩ := h
    subst e1
    cases i with
    | zero =>
      have : x = d := by simpa using e
      subst this
      exact ⟨v, rfl, h1⟩
    | succ i => exact Reps.get (i := i) h2 (by simpa using e)
theorem Reps.getV {g : Glue} {W : Wd} {H : Hp} {l : List DV} {vs : List V} {i : Nat} {v : V} (h : Reps g W H l vs) (e : vs[i]? = some v) : ∃ d, l[i]? = some d ∧ Rep g W H d v := by
  have hi : i < l.length := by
    rw [h.len]
    exact (List.getElem?_eq_some_iff.mp e).1
  obtain ⟨w, e2, r⟩ := h.get (List.getElem?_eq_getElem hi)
  rw [e] at e2
  cases e2
  exact ⟨_, List.getElem?_eq_getElem hi, r⟩
theorem Reps.nil {g : Glue} {W : Wd} {H : Hp} : Reps g W H [] [] := by simp only [Reps]
theorem Reps.cons {g : Glue} {W : Wd} {H : Hp} {d : DV} {v : V} {l : List DV} {vs : List V} (a : Rep g W H d v) (b : Reps g W H l vs) : Reps g W H (d :: l) (v :: vs) := by
  simp only [Reps]
  exact ⟨v, vs, rfl, a, b⟩
theorem Reps.app {g : Glue} {W : Wd} {H : Hp} : ∀ {l m : List DV} {vs ws : List V}, Reps g W H l vs → Reps g W H m ws → Reps g W H (l ++ m) (vs ++ ws)
  | [], _, _, _, a, b => by
    simp only [Reps] at a
    subst a
    exact b
  | d :: ds, m, vs, ws, a, b => by
    simp only [Reps] at a
    obtain ⟨v, r, e, h1, h2⟩ := a
    subst e
    exact Reps.cons h1 (Reps.app h2 b)
theorem Reps.take {g : Glue} {W : Wd} {H : Hp} : ∀ (n : Nat) {l : List DV} {vs : List V}, Reps g W H l vs → Reps g W H (l.take n) (vs.take n)
  | 0, _, _, _ => by
    rw [List.take_zero, List.take_zero]
    exact .nil
  | n + 1, [], vs, a => by
    simp only [Reps] at a
    subst a
    exact .nil
  | n + 1, d :: ds, vs, a => by
    simp only [Reps] at a
    obtain ⟨v, r, e, h1, h2⟩ := a
    subst e
    exact Reps.cons h1 (Reps.take n h2)
theorem Reps.drop {g : Glue} {W : Wd} {H : Hp} : ∀ (n : Nat) {l : List DV} {vs : List V}, Reps g W H l vs → Reps g W H (l.drop n) (vs.drop n)
  | 0, _, _, a => by
    rw [List.drop_zero, List.drop_zero]
    exact a
  | n + 1, [], vs, a => by
    simp only [Reps] at a
    subst a
    exact .nil
  | n + 1, d :: ds, vs, a => by
    simp only [Reps] at a
    obtain ⟨v, r, e, h1, h2⟩ := a
    subst e
    exact Reps.drop n h2
theorem Reps.rev {g : Glue} {W : Wd} {H : Hp} : ∀ {l : List DV} {vs : List V}, Reps g W H l vs → Reps g W H l.reverse vs.reverse
  | [], vs, a => by
    simp only [Reps] at a
    subst a
    exact .nil
  | d :: ds, vs, a => by
    simp only [Reps] at a
    obtain ⟨v, r, e, h1, h2⟩ := a
    subst e
    rw [List.reverse_cons, List.reverse_cons]
    exact Reps.app (Reps.rev h2) (Reps.cons h1 .nil)
theorem Reps.set {g : Glue} {W : Wd} {H : Hp} {d : DV} {v : V} (q : Rep g W H d v) : ∀ (i : Nat) {l : List DV} {vs : List V}, Reps g W H l vs → Reps g W H (l.set i d) (vs.set i v)
  | _, [], vs, a => by
    simp only [Reps] at a
    subst a
    exact .nil
  | 0, x :: ds, vs, a => by
    simp only [Reps] at a
    obtain ⟨w, r, e, h1, h2⟩ := a
    subst e
    exact Reps.cons q h2
  | i + 1, x :: ds, vs, a => by
    simp only [Reps] at a
    obtain ⟨w, r, e, h1, h2⟩ := a
    subst e
    exact Reps.cons h1 (Reps.set q i h2)
theorem Reps.rep {g : Glue} {W : Wd} {H : Hp} {l : List DV} {vs : List V} (a : Reps g W H l vs) : ∀ k : Nat, Reps g W H (List.replicate k l).flatten (List.replicate k vs).flatten
  | 0 => .nil
  | k + 1 => by
    rw [List.replicate_succ, List.replicate_succ, List.flatten_cons, List.flatten_cons]
    exact Reps.app a (Reps.rep a k)

/-! ### the state -/
inductive Slot where
  | none
  | val (d : DV)
  | own (l : List DV)
  | dic (ks : List Int) (l : List DV)
  | exn (x : Ex)
  deriving Inhabited
abbrev En := List Slot

/-- behind a call or an expression: what was tracked stands, but for the changing objects -/
structure Step (W : Wd) (H : Hp) (W' : Wd) (H' : Hp) : Prop where
  f : ∀ a, W.F a → W'.F a
  r : ∀ (p : Nat) (a : Addr), W.r[p]? = some a → W'.r[p]? = some a
  k : ∀ a o, H a = some o → a ∉ W.r → H' a = some o
  th : ∀ a, H' a = none → H a = none
  nf : ∀ a, W'.F a → W.F a ∨ H a = none ∨ (a ∉ W.r ∧ ∃ fs, H a = some (.xd fs))
  nr : ∀ a, a ∈ W'.r → a ∈ W.r ∨ H a = none
theorem Step.refl (W : Wd) (H : Hp) : Step W H W H := ⟨fun _ h => h, fun _ _ h => h, fun _ _ h _ => h, fun _ h => h, fun _ h => .inl h, fun _ h => .inl h⟩
theorem Step.mem {W W' : Wd} {H H' : Hp} (s : Step W H W' H') {a : Addr} (h : a ∈ W.r) : a ∈ W'.r := by
  obtain ⟨p, hp, e⟩ := List.mem_iff_getElem.mp h
  exact List.mem_of_getElem? (s.r p a (by rw [List.getElem?_eq_getElem hp, e]))

def RepO (g : Glue) (W : Wd) (H : Hp) (o : HObj) (a : Addr) : Prop := match o with
  | .lst l => ∃ vs, H a = some (.lst vs) ∧ Reps g W H l vs
  | .obj c l => ∃ dx vs, H a = some (.ins (g.cA c) dx ((g.flds c).zip vs)) ∧ vs.length ≤ (g.flds c).length ∧ Reps g W H l vs
structure HSim (g : Glue) (W : Wd) (h : HP) (H : Hp) : Prop where
  len : W.r.length = h.length
  nd : W.r.Nodup
  o : ∀ (p : Nat) (o : HObj) (a : Addr), h[p]? = some o → W.r[p]? = some a → RepO g W H o a ∧ ¬ W.F a
  fs : ∀ a, W.F a → ∃ o, H a = some o
theorem HSim.mem {g : Glue} {W : Wd} {h : HP} {H : Hp} (s : HSim g W h H) {a : Addr} (m : a ∈ W.r) : ∃ (p : Nat) (o : HObj), h[p]? = some o ∧ W.r[p]? = some a ∧ RepO g W H o a ∧ ¬ W.F a := by
  obtain ⟨p, hp, e⟩ := List.mem_iff_getElem.mp m
  have hp' : p < h.length := by
    rw [← s.len]
    exact hp
  have e1 : W.r[p]? = some a := by rw [List.getElem?_eq_getElem hp, e]
  have e2 : h[p]? = some h[p] := List.getElem?_eq_getElem hp'
  obtain ⟨h1, h2⟩ := s.o p _ a e2 e1
  exact ⟨p, _, e2, e1, h1, h2⟩
theorem RepO.mut {g : Glue} {W : Wd} {H : Hp} {o : HObj} {a : Addr} (h : RepO g W H o a) : (∃ vs, H a = some (.lst vs)) ∨ ∃ C dx fs, H a = some (.ins C dx fs) := by
  cases o with
  | lst l =>
    obtain ⟨vs, e, _⟩ := h
    exact .inl ⟨vs, e⟩
  | obj c l =>
    obtain ⟨dx, vs, e, _⟩ := h
    exact .inr ⟨_, _, _, e⟩
theorem HSim.notF {g : Glue} {W : Wd} {h : HP} {H : Hp} (s : HSim g W h H) {a : Addr} (f : W.F a) : a ∉ W.r := fun m => by
  obtain ⟨_, _, _, _, _, n⟩ := s.mem m
  exact n f
theorem Step.per {g : Glue} {W W' : Wd} {h : HP} {H H' : Hp} (s : HSim g W h H) (st : Step W H W' H') : Per W H W' H' := by
  refine ⟨st.f, st.r, fun a f => ?_, fun a xs e => st.k a _ e fun m => ?_, fun a o u e => st.k a _ e fun m => ?_⟩
  · obtain ⟨o, e⟩ := s.fs a f
    rw [e]
    exact st.k a o e (s.notF f)
  · obtain ⟨_, _, _, _, r, _⟩ := s.mem m
    rcases r.mut with ⟨vs, e2⟩ | ⟨C, dx, fs, e2⟩ <;> rw [e] at e2 <;> cases e2
  · obtain ⟨_, _, _, _, r, _⟩ := s.mem m
    rcases r.mut with ⟨vs, e2⟩ | ⟨C, dx, fs, e2⟩ <;> rw [e] at e2 <;> cases e2
theorem Step.trans {W W1 W2 : Wd} {H H1 H2 : Hp} (a : Step W H W1 H1) (b : Step W1 H1 W2 H2) : Step W H W2 H2 := by
  refine ⟨fun x h => b.f x (a.f x h), fun p x h => b.r p x (a.r p x h), fun x o e n => b.k x o (a.k x o e n) fun m => ?_, fun x h => a.th x (b.th x h), fun x h => ?_, fun x h => ?_⟩
  · rcases a.nr x m with q | q
    · exact n q
    · rw [e] at q
      cases q
  · rcases b.nf x h with q | q | ⟨n, fs, q⟩
    · exact a.nf x q
    · exact .inr (.inl (a.th x q))
    · have n0 : x ∉ W.r := fun m => n (a.mem m)
      cases z : H x with
      | none => exact .inr (.inl rfl)
      | some o =>
        have z2 := a.k x o z n0
        rw [q] at z2
        exact .inr (.inr ⟨n0, fs, z2.symm⟩)
  · rcases b.nr x h with q | q
    · exact a.nr x q
    · exact .inr (a.th x q)
end LM

/-! The state, what a mirror's step promises. -/
namespace LM
open PySem L2

def Slot.isOwn : Slot → Bool
  | .own _ => true
  | .dic _ _ => true
  | _ => false

/-- where a body stands: what the call began with -/
structure Cn where
  g : Glue
  W0 : Wd
  H0 : Hp
  x : WX
  cur : Option (Addr × Value × Option Addr) := none
/-- a caught exception: its class; what its own dict holds, for ever -/
def XRepF (g : Glue) (W : Wd) (H : Hp) (x : Ex) (cls : Value) (dd : Option Addr) : Prop :=
  cls = .ref (g.cA x.c) ∧ ((x.l = [] ∧ dd = none) ∨ ∃ d vs, dd = some d ∧ W.F d ∧ H d = some (.xd ((g.flds x.c).zip vs)) ∧ vs.length = (g.flds x.c).length ∧ Reps g W H x.l vs)
theorem XRepF.per {g : Glue} {W W' : Wd} {H H' : Hp} {x : Ex} {cls : Value} {dd : Option Addr} (r : XRepF g W H x cls dd) (p : Per W H W' H') : XRepF g W' H' x cls dd := by
  obtain ⟨e, r⟩ := r
  refine ⟨e, ?_⟩
  rcases r with r | ⟨d, vs, e1, f, e2, e3, e4⟩
  · exact .inl r
  · exact .inr ⟨d, vs, e1, p.f d f, by rw [p.h d f]; exact e2, e3, e4.per p _ _⟩

structure Sim (c : Cn) (W : Wd) (e : En) (h : HP) (s : L2.St) (H : Hp) : Prop where
  hs : HSim c.g W h H
  st : Step c.W0 c.H0 W H
  len : e.length = s.length
  val : ∀ (i : Nat) (d : DV), e[i]? = some (.val d) → ∃ v, s[i]? = some (some v) ∧ Rep c.g W H d v
  own : ∀ (i : Nat) (l : List DV), e[i]? = some (.own l) → ∃ a vs, s[i]? = some (some (.ref a)) ∧ H a = some (.lst vs) ∧ Reps c.g W H l vs ∧ ¬ W.F a ∧ a ∉ W.r ∧ c.H0 a = none
  dic : ∀ (i : Nat) (ks : List Int) (l : List DV), e[i]? = some (.dic ks l) → ∃ a vs, s[i]? = some (some (.ref a)) ∧ H a = some (.dK ((ks.map Sum.inl).zip vs)) ∧ ks.length = vs.length ∧ Reps c.g W H l vs ∧ ¬ W.F a ∧ a ∉ W.r ∧ c.H0 a = none
  ne : ∀ (i j : Nat) (a : Addr) (x y : Slot), e[i]? = some x → x.isOwn = true → e[j]? = some y → y.isOwn = true → s[i]? = some (some (.ref a)) → s[j]? = some (some (.ref a)) → i = j
  exn : ∀ (i : Nat) (x : Ex), e[i]? = some (.exn x) → ∃ a cls dd, c.cur = some (a, cls, dd) ∧ s[i]? = some (some (.ref a)) ∧ XRepF c.g W H x cls dd

section
variable {c : Cn} {W W' : Wd} {e : En} {h h' : HP} {s : St} {H H' : Hp}
theorem Sim.per (S : Sim c W e h s H) (t : Step W H W' H') : Per W H W' H' := t.per S.hs
/-- behind a step -/
theorem Sim.step (S : Sim c W e h s H) (t : Step W H W' H') (hs : HSim c.g W' h' H') : Sim c W' e h' s H' := by
  have p := S.per t
  refine ⟨hs, S.st.trans t, S.len, fun i d e1 => ?_, fun i l e1 => ?_, fun i ks l e1 => ?_, S.ne, fun i x e1 => by
    obtain ⟨a, cls, dd, e2, e3, r⟩ := S.exn i x e1
    exact ⟨a, cls, dd, e2, e3, r.per p⟩⟩
  · obtain ⟨v, e2, r⟩ := S.val i d e1
    exact ⟨v, e2, r.per p _ _⟩
  · obtain ⟨a, vs, e2, e3, r, n1, n2, n3⟩ := S.own i l e1
    refine ⟨a, vs, e2, t.k a _ e3 n2, r.per p _ _, fun f => ?_, fun m => ?_, n3⟩
    · rcases t.nf a f with q | q | ⟨_, fs, q⟩
      · exact n1 q
      · rw [e3] at q
        cases q
      · rw [e3] at q
        cases q
    · rcases t.nr a m with q | q
      · exact n2 q
      · rw [e3] at q
        cases q
  · obtain ⟨a, vs, e2, e3, l1, r, n1, n2, n3⟩ := S.dic i ks l e1
    refine ⟨a, vs, e2, t.k a _ e3 n2, l1, r.per p _ _, fun f => ?_, fun m => ?_, n3⟩
    · rcases t.nf a f with q | q | ⟨_, fs, q⟩
      · exact n1 q
      · rw [e3] at q
        cases q
      · rw [e3] at q
        cases q
    · rcases t.nr a m with q | q
      · exact n2 q
      · rw [e3] at q
        cases q
/-- a slot is set to what is not owned -/
theorem Sim.put {i : Nat} {x : Slot} {o : Option V} (S : Sim c W e h s H) (hx : x.isOwn = false) (hn : ∀ y, x = .exn y → ∃ a cls dd, c.cur = some (a, cls, dd) ∧ o = some (.ref a) ∧ XRepF c.g W H y cls dd) (hv : ∀ d, x = .val d → ∃ v, o = some v ∧ Rep c.g W H d v) : Sim c W (e.set i x) h (s.set i o) H := by
  have back : ∀ (j : Nat) (y : Slot), (e.set i x)[j]? = some y → y.isOwn = true → i ≠ j ∧ e[j]? = some y := fun j y e1 oy => by
    by_cases hj : i = j
    · subst hj
      rw [List.getElem?_set_self'] at e1
      cases q : e[i]? with
      | none =>
        rw [q] at e1
        cases e1
      | some u =>
        rw [q] at e1
        have e2 : x = y := Option.some.inj e1
        rw [← e2, hx] at oy
        cases oy
    · rw [List.getElem?_set_ne hj] at e1
      exact ⟨hj, e1⟩
  refine ⟨S.hs, S.st, by rw [List.length_set, List.length_set]; exact S.len, fun j d e1 => ?_, fun j l e1 => ?_, fun j ks l e1 => ?_, fun j k a y z e1 o1 e2 o2 e3 e4 => ?_, fun j y e1 => ?_⟩
  · by_cases hj : i = j
    · subst hj
      have hi : i < e.length := by
        have q := (List.getElem?_eq_some_iff.mp e1).1
        rwa [List.length_set] at q
      rw [List.getElem?_set_self hi] at e1
      obtain ⟨v, ov, r⟩ := hv d (Option.some.inj e1)
      exact ⟨v, by rw [List.getElem?_set_self (by rw [← S.len]; exact hi), ov], r⟩
    · rw [List.getElem?_set_ne hj] at e1 ⊢
      exact S.val j d e1
  · obtain ⟨hj, b1⟩ := back j _ e1 rfl
    rw [List.getElem?_set_ne hj]
    exact S.own j l b1
  · obtain ⟨hj, b1⟩ := back j _ e1 rfl
    rw [List.getElem?_set_ne hj]
    exact S.dic j ks l b1
  · obtain ⟨hj, b1⟩ := back j _ e1 o1
    obtain ⟨hk, b2⟩ := back k _ e2 o2
    rw [List.getElem?_set_ne hj] at e3
    rw [List.getElem?_set_ne hk] at e4
    exact S.ne j k a y z b1 o1 b2 o2 e3 e4
  · by_cases hj : i = j
    · subst hj
      have hi : i < e.length := by
        have q := (List.getElem?_eq_some_iff.mp e1).1
        rwa [List.length_set] at q
      rw [List.getElem?_set_self hi] at e1
      obtain ⟨a, cls, dd, q1, q2, q3⟩ := hn y (Option.some.inj e1)
      exact ⟨a, cls, dd, q1, by rw [List.getElem?_set_self (by rw [← S.len]; exact hi), q2], q3⟩
    · rw [List.getElem?_set_ne hj] at e1 ⊢
      exact S.exn j y e1
theorem Sim.set {i : Nat} {d : DV} {v : V} (S : Sim c W e h s H) (r : Rep c.g W H d v) : Sim c W (e.set i (.val d)) h (s.set i (some v)) H :=
  S.put rfl (fun y z => by cases z) fun d' z => by
    cases z
    exact ⟨v, rfl, r⟩
/-- forgotten here, kept or forgotten there -/
theorem Sim.gone {i : Nat} {o : Option V} (S : Sim c W e h s H) : Sim c W (e.set i .none) h (s.set i o) H := S.put rfl (fun y z => by cases z) fun d' z => by cases z
theorem Sim.gone' {i : Nat} (S : Sim c W e h s H) : Sim c W (e.set i .none) h s H := by
  by_cases hi : i < s.length
  · have q := S.gone (i := i) (o := s[i])
    rwa [List.set_getElem_self] at q
  · have e1 : e.set i .none = e := List.set_eq_of_length_le (by rw [S.len]; omega)
    rw [e1]
    exact S
end

/-- a made exception: its class; what its own dict holds -/
def XRep (g : Glue) (W : Wd) (H : Hp) (x : Ex) (cls : Value) (dd : Option Addr) : Prop :=
  cls = .ref (g.cA x.c) ∧ ((x.l = [] ∧ dd = none) ∨ ∃ d vs, dd = some d ∧ H d = some (.xd ((g.flds x.c).zip vs)) ∧ vs.length = (g.flds x.c).length ∧ Reps g W H x.l vs ∧ d ∉ W.r)

abbrev Rl (A B : Type) := Hp → Wd → Hp → A → B → Prop
def Post {A B : Type} (c : Cn) (R : Wd → Hp → A → B → Prop) (e : En) (s : L2.St) (W : Wd) (H : Hp) (r : Res A) (Q : B → Hp → Prop) : Prop := match r with
  | .ok a h' => ∀ W' H' b, Step W H W' H' → Sim c W' e h' s H' → R W' H' a b → Q b H'
  | .exc x h' => ∀ W' H' cls dd, Step W H W' H' → Sim c W' e h' s H' → XRep c.g W' H' x cls dd → c.x cls dd s H'
  | .bad => False
def RX {A B : Type} (c : Cn) (R : Rl A B) (m : En → M A) : L2.St → Hp → (B → Hp → Prop) → Prop := fun s H Q => ∃ W e h, Sim c W e h s H ∧ Post c (R H) e s W H (m e h) Q
/-- may stand anywhere; may be read -/
abbrev rV (c : Cn) : Rl DV V := fun _ W H d v => Rep c.g W H d v
abbrev rVs (c : Cn) (n : Nat) : Rl (List DV) (List V) := fun _ W H d v => Reps c.g W H d v ∧ d.length = n
def RepB (g : Glue) (W : Wd) (H : Hp) (d : DV) (v : V) : Prop := Rep g W H d v ∨
  (∃ l a vs, d = .lst l ∧ v = .ref a ∧ H a = some (.lst vs) ∧ Reps g W H l vs ∧ a ∉ W.r) ∨
  (∃ ks l a vs, d = .dct ks l ∧ v = .ref a ∧ H a = some (.dK ((ks.map Sum.inl).zip vs)) ∧ ks.length = vs.length ∧ Reps g W H l vs ∧ a ∉ W.r)
abbrev rB (c : Cn) : Rl DV V := fun _ W H d v => RepB c.g W H d v
abbrev rT : Rl Bool Bool := fun _ _ _ a b => b = a
abbrev RE (c : Cn) (m : En → M DV) : TE := RX c (rV c) m
abbrev RB (c : Cn) (m : En → M DV) : TE := RX c (rB c) m
abbrev RA (c : Cn) (n : Nat) (m : En → M (List DV)) : TA := RX c (rVs c n) m
abbrev RT (c : Cn) (m : En → M Bool) : TT := RX c rT m
/-- a list that nobody else holds -/
abbrev rO (c : Cn) : Rl (List DV) V := fun Hs W H l v => ∃ a vs, v = .ref a ∧ H a = some (.lst vs) ∧ Reps c.g W H l vs ∧ ¬ W.F a ∧ a ∉ W.r ∧ Hs a = none
abbrev RO (c : Cn) (m : En → M (List DV)) : TE := RX c (rO c) m

section
variable {A B D : Type} {c : Cn} {R : Wd → Hp → A → B → Prop} {e : En} {s : St} {W W1 : Wd} {H H1 : Hp} {Q : B → Hp → Prop}
theorem Post.later {r : Res A} (p : Post c R e s W H r Q) (t : Step W H W1 H1) : Post c R e s W1 H1 r Q := by
  cases r with
  | ok a h' => exact fun W' H' b t' => p W' H' b (t.trans t')
  | exc x h' => exact fun W' H' cls dd t' => p W' H' cls dd (t.trans t')
  | bad => exact p
theorem Post.bind {A2 : Type} {m : M A2} {k : A2 → M A} {h : HP} (p : Post c R e s W H ((m >>= k) h) Q) {B2 : Type} {R2 : Wd → Hp → A2 → B2 → Prop} {K : B2 → Hp → Prop}
    (f : ∀ W1 H1 a b h1, Step W H W1 H1 → Sim c W1 e h1 s H1 → R2 W1 H1 a b → Post c R e s W1 H1 (k a h1) Q → K b H1) : Post c R2 e s W H (m h) K := by
  rw [M.bind_def] at p
  cases q : m h with
  | ok a h1 =>
    rw [q] at p
    exact fun W' H' b t S r => f W' H' a b h1 t S r (p.later t)
  | exc x h1 =>
    rw [q] at p
    exact p
  | bad =>
    rw [q] at p
    exact p
theorem Post.imp {r : Res A} (p : Post c R e s W H r Q) {R2 : Wd → Hp → A → B → Prop} {Q2 : B → Hp → Prop} (f : ∀ W' H' a b, R2 W' H' a b → R W' H' a b) (q : ∀ b H', Q b H' → Q2 b H') : Post c R2 e s W H r Q2 := by
  cases r with
  | ok a h' => exact fun W' H' b t S z => q _ _ (p W' H' b t S (f _ _ _ _ z))
  | exc x h' => exact p
  | bad => exact p
end
section
variable {A B : Type} {c : Cn} {R : Rl A B} {s : St} {H : Hp} {Q : B → Hp → Prop}
theorem RX.bind {A2 B2 : Type} {m : En → M A2} {k : En → A2 → M A} (p : RX c R (fun e => m e >>= k e) s H Q) {R2 : Rl A2 B2} {K : B2 → Hp → Prop}
    (f : ∀ W e W1 H1 a b h1, Step W H W1 H1 → Sim c W1 e h1 s H1 → R2 H W1 H1 a b → Post c (R H) e s W1 H1 (k e a h1) Q → K b H1) : RX c R2 m s H K := by
  obtain ⟨W, e, h, S, p⟩ := p
  exact ⟨W, e, h, S, p.bind fun W1 H1 a b h1 t S1 r q => f W e W1 H1 a b h1 t S1 r q⟩
theorem RX.of {W : Wd} {e : En} {h : HP} {m : En → M A} (S : Sim c W e h s H) (p : Post c (R H) e s W H (m e h) Q) : RX c R m s H Q := ⟨W, e, h, S, p⟩
end
section
variable {X : Cx} {ex : Expr} {t t' : TE}
theorem pe_imp (h : PE X ex t) (f : ∀ s H Q, t' s H Q → t s H Q) : PE X ex t' := ⟨fun pins s σ H Q I q => h.run pins s σ H Q I (f σ H Q q)⟩
theorem pa_imp {es : List Expr} {t t' : TA} (h : PA X es t) (f : ∀ s H Q, t' s H Q → t s H Q) : PA X es t' := ⟨fun pos pins s σ H Q I q => h.run pos pins s σ H Q I (f σ H Q q)⟩
theorem pt_imp {t t' : TT} (h : PT X ex t) (f : ∀ s H Q, t' s H Q → t s H Q) : PT X ex t' := ⟨fun pins s σ H Q I q => h.run pins s σ H Q I (f σ H Q q)⟩
theorem ps_imp {st : Stmt} {t t' : TS} (h : PS X st t) (f : ∀ D s H, t' D s H → t D s H) : PS X st t' := ⟨fun pins s σ H D I q => h.run pins s σ H D I (f D σ H q)⟩
theorem pss_imp {st : List Stmt} {t t' : TS} (h : PSs X st t) (f : ∀ D s H, t' D s H → t D s H) : PSs X st t' := ⟨fun pins s σ H D I q => h.run pins s σ H D I (f D σ H q)⟩
theorem pi_imp {tg : Expr} {t t' : TI} (h : PI X tg ex t) (f : ∀ s H Q, t' s H Q → t s H Q) : PI X tg ex t' := ⟨fun pins s σ H R I q => h.run pins s σ H R I (f σ H R q)⟩
end

/-! ### relations that stay -/
structure Stays (c : Cn) {A B : Type} (R : Wd → Hp → A → B → Prop) : Prop where
  go : ∀ {W W' : Wd} {H H' : Hp} {h : HP} {a : A} {b : B}, HSim c.g W h H → Step W H W' H' → R W H a b → R W' H' a b
theorem stays_V {c : Cn} : Stays c (fun W H d v => Rep c.g W H d v) := ⟨fun S t r => r.per (t.per S) _ _⟩
theorem stays_Vs {c : Cn} : Stays c (fun W H d v => Reps c.g W H d v) := ⟨fun S t r => r.per (t.per S) _ _⟩
theorem notR {W W' : Wd} {H H' : Hp} {a : Addr} {o : HO} (t : Step W H W' H') (e : H a = some o) (n : a ∉ W.r) : a ∉ W'.r := fun m => by
  rcases t.nr a m with q | q
  · exact n q
  · rw [e] at q
    cases q
theorem notF {W W' : Wd} {H H' : Hp} {a : Addr} {o : HO} (t : Step W H W' H') (e : H a = some o) (n : ¬ W.F a) (hx : ∀ fs, o ≠ .xd fs) : ¬ W'.F a := fun m => by
  rcases t.nf a m with q | q | ⟨_, fs, q⟩
  · exact n q
  · rw [e] at q
    cases q
  · rw [e] at q
    exact hx fs (Option.some.inj q)
theorem stays_B {c : Cn} : Stays c (fun W H d v => RepB c.g W H d v) := ⟨fun {W W' H H' h d v} S t r => by
  rcases r with r | ⟨l, a, vs, e1, e2, e3, r, n⟩ | ⟨ks, l, a, vs, e1, e2, e3, z, r, n⟩
  · exact .inl (r.per (t.per S) _ _)
  · exact .inr (.inl ⟨l, a, vs, e1, e2, t.k _ _ e3 n, r.per (t.per S) _ _, notR t e3 n⟩)
  · exact .inr (.inr ⟨ks, l, a, vs, e1, e2, t.k _ _ e3 n, z, r.per (t.per S) _ _, notR t e3 n⟩)⟩

/-! ### a new object -/
section
variable {c : Cn} {W : Wd} {e : En} {h : HP} {s : St} {H : Hp} {p : Addr} {o : HO}
theorem HSim.new {g : Glue} (S : HSim g W h H) (hp : H p = none) (hw : Per W H W (upd H p o)) : HSim g W h (upd H p o) := by
  refine ⟨S.len, S.nd, fun q ob a e1 e2 => ?_, fun a f => ?_⟩
  · obtain ⟨r, n⟩ := S.o q ob a e1 e2
    refine ⟨?_, n⟩
    have hne : a ≠ p := by
      rcases r.mut with ⟨vs, e3⟩ | ⟨C, dx, fs, e3⟩ <;> exact ne_of_none e3 hp
    cases ob with
    | lst l =>
      obtain ⟨vs, e3, r3⟩ := r
      exact ⟨vs, by rw [upd_ne hne]; exact e3, r3.per hw _ _⟩
    | obj c l =>
      obtain ⟨dx, vs, e3, e4, r3⟩ := r
      exact ⟨dx, vs, by rw [upd_ne hne]; exact e3, e4, r3.per hw _ _⟩
  · obtain ⟨u, e1⟩ := S.fs a f
    exact ⟨u, by rw [upd_ne (ne_of_none e1 hp)]; exact e1⟩
theorem Step.new (hp : H p = none) : Step W H W (upd H p o) :=
  ⟨fun _ f => f, fun _ _ e => e, fun a u e _ => by rw [upd_ne (ne_of_none e hp)]; exact e, fun a e => by
    by_cases z : a = p
    · rw [z]
      exact hp
    · rwa [upd_ne z] at e, fun _ f => .inl f, fun _ f => .inl f⟩
/-- a new object that nobody tells of -/
theorem Sim.new (S : Sim c W e h s H) (hp : H p = none) : Step W H W (upd H p o) ∧ Sim c W e h s (upd H p o) := by
  have t : Step W H W (upd H p o) := Step.new hp
  exact ⟨t, S.step t (S.hs.new hp (t.per S.hs))⟩
/-- frozen: for ever -/
def Wd.frz (W : Wd) (a : Addr) : Wd := ⟨fun b => W.F b ∨ b = a, W.r⟩
theorem HSim.frz {g : Glue} (S : HSim g W h H) (ha : H p = some o) (nr : p ∉ W.r) : HSim g (W.frz p) h H := by
  refine ⟨S.len, S.nd, fun q ob a e1 e2 => ?_, fun a f => ?_⟩
  · obtain ⟨r, n⟩ := S.o q ob a e1 e2
    have hne : a ≠ p := fun z => nr (z ▸ List.mem_of_getElem? e2)
    have pr : Per W H (W.frz p) H := ⟨fun _ f => .inl f, fun _ _ e => e, fun _ _ => rfl, fun _ _ e => e, fun _ _ _ e => e⟩
    refine ⟨?_, fun f => f.elim n hne⟩
    cases ob with
    | lst l =>
      obtain ⟨vs, e3, r3⟩ := r
      exact ⟨vs, e3, r3.per pr _ _⟩
    | obj c l =>
      obtain ⟨dx, vs, e3, e4, r3⟩ := r
      exact ⟨dx, vs, e3, e4, r3.per pr _ _⟩
  · rcases f with f | f
    · exact S.fs a f
    · rw [f]
      exact ⟨o, ha⟩
/-- from a heap H in which p was not: p is frozen in a later one -/
theorem Step.frz {W1 : Wd} {H1 : Hp} (t : Step W H W1 H1) (hp : H p = none) : Step W H (W1.frz p) H1 :=
  ⟨fun a f => .inl (t.f a f), t.r, t.k, t.th, fun a f => f.elim (t.nf a) fun z => .inr (.inl (z ▸ hp)), t.nr⟩
end
end LM

/-! Expressions. -/
namespace LM
open PySem L2

abbrev LN : Nat := 16777216
theorem line_LN : sizeLine = LN := PySem.sizeLine_eq

/-! ### endings -/
section
variable {c : Cn} {A B : Type} {R : Wd → Hp → A → B → Prop} {e : En} {s : L2.St} {W : Wd} {H : Hp} {h : HP} {Q : B → Hp → Prop}
theorem Post.ret {a : A} {b : B} (p : Post c R e s W H (Res.ok a h) Q) (S : Sim c W e h s H) (r : R W H a b) : Q b H := p W H b (Step.refl W H) S r
end
section
variable {c : Cn} {e : En} {s : L2.St} {W : Wd} {H : Hp} {h : HP}
theorem post_tup {l : List DV} {vs : List V} {p : Addr} {Q : V → Hp → Prop} (q : Post c (rV c H) e s W H (Res.ok (DV.tup l) h) Q) (S : Sim c W e h s H) (r : Reps c.g W H l vs) (hp : H p = none) : Q (.ref p) (upd H p (.tup vs)) := by
  obtain ⟨t, S2⟩ := S.new (o := .tup vs) hp
  refine q _ _ _ t S2 ?_
  simp only [Rep]
  exact ⟨p, vs, rfl, .inl (.inl upd_same), r.per (S.per t) _ _⟩
theorem not_r {g : Glue} (S : HSim g W h H) {p : Addr} (hp : H p = none) : p ∉ W.r := fun m => by
  obtain ⟨_, _, _, _, r, _⟩ := S.mem m
  rcases r.mut with ⟨vs, e2⟩ | ⟨C, dx, fs, e2⟩ <;> rw [hp] at e2 <;> cases e2
theorem not_F {g : Glue} (S : HSim g W h H) {p : Addr} (hp : H p = none) : ¬ W.F p := fun f => by
  obtain ⟨o, q⟩ := S.fs p f
  rw [hp] at q
  cases q
theorem new_own {l : List DV} {vs : List V} {p : Addr} {Hs : Hp} (S : Sim c W e h s H) (r : Reps c.g W H l vs) (hp : H p = none) (hs : Hs p = none) : Step W H W (upd H p (.lst vs)) ∧ Sim c W e h s (upd H p (.lst vs)) ∧ rO c Hs W (upd H p (.lst vs)) l (.ref p) := by
  obtain ⟨t, S2⟩ := S.new (o := .lst vs) hp
  exact ⟨t, S2, p, vs, rfl, upd_same, r.per (S.per t) _ _, not_F S.hs hp, not_r S.hs hp, hs⟩
theorem post_own {l : List DV} {vs : List V} {p : Addr} {Hs : Hp} {Q : V → Hp → Prop} (q : Post c (rO c Hs) e s W H (Res.ok l h) Q) (S : Sim c W e h s H) (r : Reps c.g W H l vs) (hp : H p = none) (hs : Hs p = none) : Q (.ref p) (upd H p (.lst vs)) := by
  obtain ⟨t, S2, z⟩ := new_own S r hp hs
  exact q _ _ _ t S2 z
end

/-! ### names, constants -/
section
variable {X : Cx} {c : Cn} {pos : Pos}
def eVar (i : Nat) : En → M DV := fun e h => match e[i]? with
  | some (.val d) => .ok d h
  | _ => .bad
/-- a name that is only read -/
def eBor (i : Nat) : En → M DV := fun e h => match e[i]? with
  | some (.val d) => .ok d h
  | some (.own l) => .ok (.lst l) h
  | some (.dic ks l) => .ok (.dct ks l) h
  | _ => .bad
def eC (d : DV) : En → M DV := fun _ h => .ok d h
theorem c_var {i : Nat} {x : Str} (hN : X.N[i]? = some x) (hv : Vis X.env.scope x) (hd : (x == ("__debug__" : Str)) = false := by decide) (hcd : (x == ("__classdict__" : Str)) = false := by decide) : PE X (.Name x pos) (RE c (eVar i)) :=
  pe_imp (pe_var hN hv hd hcd) fun s H Q q => by
    obtain ⟨W, e, h, S, q⟩ := q
    unfold eVar at q
    cases z : e[i]? with
    | none =>
      rw [z] at q
      exact q.elim
    | some u =>
      rw [z] at q
      cases u with
      | val d =>
        obtain ⟨v, e2, r⟩ := S.val i d z
        exact ⟨v, e2, q.ret S r⟩
      | _ => exact q.elim
theorem c_bor {i : Nat} {x : Str} (hN : X.N[i]? = some x) (hv : Vis X.env.scope x) (hd : (x == ("__debug__" : Str)) = false := by decide) (hcd : (x == ("__classdict__" : Str)) = false := by decide) : PE X (.Name x pos) (RB c (eBor i)) :=
  pe_imp (pe_var hN hv hd hcd) fun s H Q q => by
    obtain ⟨W, e, h, S, q⟩ := q
    unfold eBor at q
    cases z : e[i]? with
    | none =>
      rw [z] at q
      exact q.elim
    | some u =>
      rw [z] at q
      cases u with
      | none => exact q.elim
      | exn y => exact q.elim
      | val d =>
        obtain ⟨v, e2, r⟩ := S.val i d z
        exact ⟨v, e2, q.ret S (.inl r)⟩
      | own l =>
        obtain ⟨a, vs, e2, e3, r, _, n, _⟩ := S.own i l z
        exact ⟨_, e2, q.ret S (.inr (.inl ⟨l, a, vs, rfl, rfl, e3, r, n⟩))⟩
      | dic ks l =>
        obtain ⟨a, vs, e2, e3, w, r, _, n, _⟩ := S.dic i ks l z
        exact ⟨_, e2, q.ret S (.inr (.inr ⟨ks, l, a, vs, rfl, rfl, e3, w, r, n⟩))⟩
theorem c_toB {ex : Expr} {m : En → M DV} (h : PE X ex (RE c m)) : PE X ex (RB c m) := pe_imp h fun s H Q q => by
  obtain ⟨W, e, h, S, q⟩ := q
  exact ⟨W, e, h, S, q.imp (fun _ _ _ _ r => .inl r) fun _ _ z => z⟩
theorem const_imp {ex : Expr} {d : DV} {v : V} (h : PE X ex (tC v)) (r : ∀ W H, Rep c.g W H d v) : PE X ex (RE c (eC d)) := pe_imp h fun s H Q q => by
  obtain ⟨W, e, h, S, q⟩ := q
  exact q.ret S (r W H)
theorem c_int {i : Int} {j} : PE X (.Constant (.int i) j pos) (RE c (eC (.int i))) := const_imp pe_int fun _ _ => by simp only [Rep]
theorem c_bl {b : Bool} {j} : PE X (.Constant (.bool b) j pos) (RE c (eC (.bl b))) := const_imp pe_bl fun _ _ => by simp only [Rep]
theorem c_non {j} : PE X (.Constant .none j pos) (RE c (eC .non)) := const_imp pe_non fun _ _ => by simp only [Rep]
theorem c_str {x : Str} {j} : PE X (.Constant (.str x) j pos) (RE c (eC (.str x))) := const_imp pe_str fun _ _ => by simp only [Rep]
/-- a number or a text of the module -/
theorem c_glob {x : Str} {d : DV} (hg : Gl X x) (hm : ∃ u v, X.mg x = some u ∧ RelV v u ∧ ∀ W H, Rep c.g W H d v) (hd : (x == ("__debug__" : Str)) = false := by decide) : PE X (.Name x pos) (RE c (eC d)) := by
  obtain ⟨u, v, e1, r, z⟩ := hm
  exact const_imp (pe_glob hg e1 r hd) z
end

/-! ### two operands -/
abbrev e1 (p : DV → M DV) (a : En → M DV) : En → M DV := fun e => a e >>= fun x => p x
abbrev e2 (p : DV → DV → M DV) (a b : En → M DV) : En → M DV := fun e => a e >>= fun x => b e >>= fun y => p x y
structure Prim2 (c : Cn) (Ra Rb : Wd → Hp → DV → V → Prop) {A : Type} (R : Rl A V) (p : DV → DV → M A) (r : R2) : Prop where
  go : ∀ {W : Wd} {e : En} {h : HP} {s : L2.St} {H : Hp} {Hs : Hp} {x y : DV} {v w : V} {Q : V → Hp → Prop}, Sim c W e h s H → Ra W H x v → Rb W H y w → (∀ a, H a = none → Hs a = none) → Post c (R Hs) e s W H (p x y h) Q → r v w H Q
abbrev pV (c : Cn) : Wd → Hp → DV → V → Prop := fun W H d v => Rep c.g W H d v
abbrev pB (c : Cn) : Wd → Hp → DV → V → Prop := fun W H d v => RepB c.g W H d v
section
variable {X : Cx} {c : Cn} {pos : Pos} {a b : Expr} {ma mb : En → M DV} {Ra Rb : Wd → Hp → DV → V → Prop}
theorem two {A : Type} {R : Rl A V} {p : DV → DV → M A} {r : R2} (st : Stays c Ra) (hp : Prim2 c Ra Rb R p r) {s : L2.St} {H : Hp} {Q : V → Hp → Prop} (q : RX c R (fun e => ma e >>= fun x => mb e >>= fun y => p x y) s H Q) :
    tOp r (RX c (fun _ => Ra) ma) (RX c (fun _ => Rb) mb) s H Q :=
  q.bind fun W e W1 H1 x v h1 t S rx q2 => ⟨W1, e, h1, S, q2.bind fun W2 H2 y w h2 t2 S2 ry q3 => hp.go S2 (st.go S.hs t2 rx) ry (fun a z => t.th a (t2.th a z)) q3⟩
theorem c_bin {A : Type} {R : Rl A V} {op : Operator} {p : DV → DV → M A} {r : R2} (ho : OpR X (binaryOp op) r) (st : Stays c Ra) (hp : Prim2 c Ra Rb R p r) (ha : PE X a (RX c (fun _ => Ra) ma)) (hb : PE X b (RX c (fun _ => Rb) mb)) :
    PE X (.BinOp a op b pos) (RX c R (fun e => ma e >>= fun x => mb e >>= fun y => p x y)) := pe_imp (pe_op ho ha hb) fun s H Q q => two st hp q

def vAdd (x y : DV) : M DV := match x, y with
  | .int i, .int j => pure (.int (i + j))
  | .tup l, .tup m => if l.length + m.length ≤ LN then pure (.tup (l ++ m)) else M.bad
  | .str a, .str b => if a.length + b.length ≤ LN then pure (.str (a ++ b)) else M.bad
  | .lst l, .lst m => if l.length + m.length ≤ LN then pure (.lst (l ++ m)) else M.bad
  | _, _ => M.bad
def vSub (x y : DV) : M DV := match x, y with
  | .int i, .int j => pure (.int (i - j))
  | _, _ => M.bad
def mulOk (i j : Int) : Bool := (decide (-(2 ^ 64) < i) && decide (i < 2 ^ 64)) || (decide (-(2 ^ 64) < j) && decide (j < 2 ^ 64))
def vMul (x y : DV) : M DV := match x, y with
  | .int i, .int j => if mulOk i j then pure (.int (i * j)) else M.bad
  | _, _ => M.bad
def vDiv (x y : DV) : M DV := match x, y with
  | .int i, .int j => if decide (0 < j) && decide (j < 1073741824) then pure (.int (i / j)) else M.bad
  | _, _ => M.bad
def vMod (x y : DV) : M DV := match x, y with
  | .int i, .int j => if 0 < j then pure (.int (i % j)) else M.bad
  | _, _ => M.bad
theorem prim_sub : Prim2 c (pV c) (pV c) (rV c) vSub (rI0 fun i j => .int (i - j)) := by
  refine ⟨fun {W e h s H Hs x y v w Q} S rx ry nw q => ?_⟩
  unfold vSub at q
  split at q
  · simp only [pV, Rep] at rx ry
    exact ⟨_, _, rx, ry, q.ret S (by simp only [rV, Rep])⟩
  · exact q.elim
theorem prim_mul : Prim2 c (pV c) (pV c) (rV c) vMul (rI CMul fun i j => .int (i * j)) := by
  refine ⟨fun {W e h s H Hs x y v w Q} S rx ry nw q => ?_⟩
  unfold vMul at q
  split at q
  · simp only [pV, Rep] at rx ry
    split at q
    · rename_i hz
      refine ⟨_, _, rx, ry, ?_, q.ret S (by simp only [rV, Rep])⟩
      unfold mulOk at hz
      simp only [Bool.or_eq_true, Bool.and_eq_true, decide_eq_true_eq] at hz
      exact hz
    · exact q.elim
  · exact q.elim
theorem prim_div : Prim2 c (pV c) (pV c) (rV c) vDiv (rI CDiv fun i j => .int (i / j)) := by
  refine ⟨fun {W e h s H Hs x y v w Q} S rx ry nw q => ?_⟩
  unfold vDiv at q
  split at q
  · simp only [pV, Rep] at rx ry
    split at q
    · rename_i hz
      simp only [Bool.and_eq_true, decide_eq_true_eq] at hz
      exact ⟨_, _, rx, ry, hz, q.ret S (by simp only [rV, Rep])⟩
    · exact q.elim
  · exact q.elim
theorem prim_mod : Prim2 c (pV c) (pV c) (rV c) vMod (rI (fun _ j => 0 < j) fun i j => .int (i % j)) := by
  refine ⟨fun {W e h s H Hs x y v w Q} S rx ry nw q => ?_⟩
  unfold vMod at q
  split at q
  · simp only [pV, Rep] at rx ry
    split at q
    · rename_i hz
      exact ⟨_, _, rx, ry, hz, q.ret S (by simp only [rV, Rep])⟩
    · exact q.elim
  · exact q.elim
theorem c_sub (ha : PE X a (RE c ma)) (hb : PE X b (RE c mb)) : PE X (.BinOp a .Sub b pos) (RE c (e2 vSub ma mb)) := c_bin op_sub stays_V prim_sub ha hb
theorem c_mul (ha : PE X a (RE c ma)) (hb : PE X b (RE c mb)) : PE X (.BinOp a .Mult b pos) (RE c (e2 vMul ma mb)) := c_bin op_mul stays_V prim_mul ha hb
theorem c_div (ha : PE X a (RE c ma)) (hb : PE X b (RE c mb)) : PE X (.BinOp a .FloorDiv b pos) (RE c (e2 vDiv ma mb)) := c_bin op_fdiv stays_V prim_div ha hb
theorem c_mod (ha : PE X a (RE c ma)) (hb : PE X b (RE c mb)) : PE X (.BinOp a .Mod b pos) (RE c (e2 vMod ma mb)) := c_bin op_mod stays_V prim_mod ha hb
def vNeg (x : DV) : M DV := match x with
  | .int i => pure (.int (-i))
  | _ => M.bad
theorem c_neg (ha : PE X a (RE c ma)) : PE X (.UnaryOp .USub a pos) (RE c (e1 vNeg ma)) := pe_imp (pe_un un_neg ha) fun s H Q q =>
  q.bind fun W e W1 H1 x v h1 t S rx q2 => by
    unfold vNeg at q2
    split at q2
    · simp only [Rep] at rx
      exact ⟨_, rx, q2.ret S (by simp only [rV, Rep])⟩
    · exact q2.elim

/-! ### comparisons -/
def vLt (x y : DV) : M DV := match x, y with
  | .int i, .int j => pure (.bl (decide (i < j)))
  | _, _ => M.bad
def vLe (x y : DV) : M DV := match x, y with
  | .int i, .int j => pure (.bl (decide (i ≤ j)))
  | _, _ => M.bad
def vGt (x y : DV) : M DV := match x, y with
  | .int i, .int j => pure (.bl (decide (j < i)))
  | _, _ => M.bad
def vGe (x y : DV) : M DV := match x, y with
  | .int i, .int j => pure (.bl (decide (j ≤ i)))
  | _, _ => M.bad
theorem prim_lt : Prim2 c (pV c) (pV c) (rV c) vLt (rI0 fun i j => .bl (decide (i < j))) := by
  refine ⟨fun {W e h s H Hs x y v w Q} S rx ry nw q => ?_⟩
  unfold vLt at q
  split at q
  · simp only [pV, Rep] at rx ry
    exact ⟨_, _, rx, ry, q.ret S (by simp only [rV, Rep])⟩
  · exact q.elim
theorem prim_le : Prim2 c (pV c) (pV c) (rV c) vLe (rI0 fun i j => .bl (decide (i ≤ j))) := by
  refine ⟨fun {W e h s H Hs x y v w Q} S rx ry nw q => ?_⟩
  unfold vLe at q
  split at q
  · simp only [pV, Rep] at rx ry
    exact ⟨_, _, rx, ry, q.ret S (by simp only [rV, Rep])⟩
  · exact q.elim
theorem prim_gt : Prim2 c (pV c) (pV c) (rV c) vGt (rI0 fun i j => .bl (decide (j < i))) := by
  refine ⟨fun {W e h s H Hs x y v w Q} S rx ry nw q => ?_⟩
  unfold vGt at q
  split at q
  · simp only [pV, Rep] at rx ry
    exact ⟨_, _, rx, ry, q.ret S (by simp only [rV, Rep])⟩
  · exact q.elim
theorem prim_ge : Prim2 c (pV c) (pV c) (rV c) vGe (rI0 fun i j => .bl (decide (j ≤ i))) := by
  refine ⟨fun {W e h s H Hs x y v w Q} S rx ry nw q => ?_⟩
  unfold vGe at q
  split at q
  · simp only [pV, Rep] at rx ry
    exact ⟨_, _, rx, ry, q.ret S (by simp only [rV, Rep])⟩
  · exact q.elim
theorem c_cmp {op : CmpOp} {p : DV → DV → M DV} {r : R2} (ho : OpR X (compareOp op) r) (st : Stays c Ra) (hp : Prim2 c Ra Rb (rV c) p r) (ha : PE X a (RX c (fun _ => Ra) ma)) (hb : PE X b (RX c (fun _ => Rb) mb)) (hm : behindInMarks op b = false) :
    PE X (.Compare a [op] [b] pos) (RE c (e2 p ma mb)) := pe_imp (pe_cmpR ho ha hb hm) fun s H Q q => two st hp q
theorem c_lt (ha : PE X a (RE c ma)) (hb : PE X b (RE c mb)) : PE X (.Compare a [.Lt] [b] pos) (RE c (e2 vLt ma mb)) := c_cmp op_lt stays_V prim_lt ha hb (nomark _)
theorem c_le (ha : PE X a (RE c ma)) (hb : PE X b (RE c mb)) : PE X (.Compare a [.LtE] [b] pos) (RE c (e2 vLe ma mb)) := c_cmp op_le stays_V prim_le ha hb (nomark _)
theorem c_gt (ha : PE X a (RE c ma)) (hb : PE X b (RE c mb)) : PE X (.Compare a [.Gt] [b] pos) (RE c (e2 vGt ma mb)) := c_cmp op_gt stays_V prim_gt ha hb (nomark _)
theorem c_ge (ha : PE X a (RE c ma)) (hb : PE X b (RE c mb)) : PE X (.Compare a [.GtE] [b] pos) (RE c (e2 vGe ma mb)) := c_cmp op_ge stays_V prim_ge ha hb (nomark _)
/-- a < b < z: z is asked only where a < b -/
def e3c (p r : DV → DV → M DV) (a b z : En → M DV) : En → M DV := fun e => a e >>= fun x => b e >>= fun y => p x y >>= fun t => match t with
  | .bl true => z e >>= fun u => r y u
  | .bl false => pure (.bl false)
  | _ => M.bad
theorem chain_use {p p' : DV → DV → M DV} {r r' : R2} {mz : En → M DV} (hp : Prim2 c (pV c) (pV c) (rV c) p r) (hp' : Prim2 c (pV c) (pV c) (rV c) p' r') {s : L2.St} {H : Hp} {Q : VK} (q : RE c (e3c p p' ma mb mz) s H Q) :
    tChain r r' (RE c ma) (RE c mb) (RE c mz) s H Q := by
  refine RX.bind q fun W e W1 H1 x v h1 t S rx q2 => ⟨W1, e, h1, S, q2.bind fun W2 H2 y w h2 t2 S2 ry q3 => ?_⟩
  have rx2 := stays_V.go S.hs t2 rx
  refine hp.go S2 rx2 ry (fun a z => t.th a (t2.th a z)) (q3.bind fun W3 H3 tt u h3 t3 S3 rt q4 => ?_)
  split at q4
  · simp only [Rep] at rt
    refine ⟨true, rt, iteT ⟨W3, e, h3, S3, q4.bind fun W4 H4 z1 v4 h4 t4 S4 r4 q5 => ?_⟩⟩
    exact hp'.go S4 (stays_V.go S3.hs t4 (stays_V.go S2.hs t3 ry)) r4 (fun a z => t.th a (t2.th a (t3.th a (t4.th a z)))) q5
  · simp only [Rep] at rt
    exact ⟨false, rt, iteF (q4.ret S3 (by simp only [rV, Rep]))⟩
  · exact q4.elim
theorem c_chain {op op' : CmpOp} {p p' : DV → DV → M DV} {r r' : R2} {z : Expr} {mz : En → M DV} (ho : OpR X (compareOp op) r) (ho' : OpR X (compareOp op') r') (hp : Prim2 c (pV c) (pV c) (rV c) p r) (hp' : Prim2 c (pV c) (pV c) (rV c) p' r')
    (ha : PE X a (RE c ma)) (hb : PE X b (RE c mb)) (hz : PE X z (RE c mz)) (hm : lastMarks [op, op'] [b, z] = false) :
    PE X (.Compare a [op, op'] [b, z] pos) (RE c (e3c p p' ma mb mz)) := pe_imp (pe_chain ho ho' ha hb hz hm) fun s H Q q => chain_use hp hp' q
theorem c_lelt {z : Expr} {mz : En → M DV} (ha : PE X a (RE c ma)) (hb : PE X b (RE c mb)) (hz : PE X z (RE c mz)) : PE X (.Compare a [.LtE, .Lt] [b, z] pos) (RE c (e3c vLe vLt ma mb mz)) := c_chain op_le op_lt prim_le prim_lt ha hb hz (nomark z)
theorem c_lele {z : Expr} {mz : En → M DV} (ha : PE X a (RE c ma)) (hb : PE X b (RE c mb)) (hz : PE X z (RE c mz)) : PE X (.Compare a [.LtE, .LtE] [b, z] pos) (RE c (e3c vLe vLe ma mb mz)) := c_chain op_le op_le prim_le prim_le ha hb hz (nomark z)
theorem c_ltlt {z : Expr} {mz : En → M DV} (ha : PE X a (RE c ma)) (hb : PE X b (RE c mb)) (hz : PE X z (RE c mz)) : PE X (.Compare a [.Lt, .Lt] [b, z] pos) (RE c (e3c vLt vLt ma mb mz)) := c_chain op_lt op_lt prim_lt prim_lt ha hb hz (nomark z)
end
end LM

/-! Expressions: lists, places, equality, tests, calls. -/
namespace LM
open PySem L2

/-! ### argument lists, displays -/
section
variable {X : Cx} {c : Cn} {pos : Pos} {ex : Expr} {es : List Expr} {n : Nat}
def aNil : En → M (List DV) := fun _ => pure []
def aCons (m : En → M DV) (ms : En → M (List DV)) : En → M (List DV) := fun e => m e >>= fun x => ms e >>= fun xs => pure (x :: xs)
theorem c_nil : PA X [] (RA c 0 aNil) := pa_imp pa_nil fun s H Q q => by
  obtain ⟨W, e, h, S, q⟩ := q
  exact q.ret S ⟨.nil, rfl⟩
theorem c_cons {m : En → M DV} {ms : En → M (List DV)} (ha : PE X ex (RE c m)) (hr : PA X es (RA c n ms)) (hs : starEach (ex :: es) X.env = (false, eval ex X.env) :: starEach es X.env := by rfl) : PA X (ex :: es) (RA c (n + 1) (aCons m ms)) :=
  pa_imp (pa_cons ha hr hs) fun s H Q q => RX.bind q fun W e W1 H1 x v h1 t S rx q2 => ⟨W1, e, h1, S, q2.bind fun W2 H2 xs vs h2 t2 S2 rs q3 => by
    have r1 := stays_V.go S.hs t2 rx
    exact q3.ret S2 ⟨.cons r1 rs.1, by rw [List.length_cons, rs.2]⟩⟩
def eTup (ms : En → M (List DV)) : En → M DV := fun e => ms e >>= fun l => pure (.tup l)
theorem c_tup {k} {ms : En → M (List DV)} (h : PA X es (RA c n ms)) (hn : n ≤ LN := by decide) : PE X (.Tuple es k pos) (RE c (eTup ms)) :=
  pe_imp (pe_tup h) fun s H Q q => RX.bind q fun W e W1 H1 l vs h1 t S r q2 => ⟨by rw [← r.1.len, r.2, line_LN]; exact hn, fun p hp => post_tup q2 S r.1 hp⟩
theorem c_lst {ms : En → M (List DV)} (h : PA X es (RA c n ms)) (hn : n ≤ LN := by decide) : PE X (.List es pos) (RO c ms) :=
  pe_imp (pe_lst h) fun s H Q q => by
    obtain ⟨W, e, h, S0, q⟩ := q
    refine ⟨W, e, h, S0, ?_⟩
    cases z : ms e h with
    | ok l h1 =>
      rw [z] at q
      intro W1 H1 vs t S r
      refine ⟨by rw [← r.1.len, r.2, line_LN]; exact hn, fun p hp => ?_⟩
      obtain ⟨t2, S2, o⟩ := new_own S r.1 hp (t.th p hp)
      exact q _ _ _ (t.trans t2) S2 o
    | exc x h1 =>
      rw [z] at q
      exact q
    | bad =>
      rw [z] at q
      exact q
def eFrz (ms : En → M (List DV)) : En → M DV := fun e => ms e >>= fun l => pure (.lst l)
theorem frz_own {W W1 : Wd} {e : En} {h : HP} {s : L2.St} {H H1 : Hp} {l : List DV} {v : V} (t : Step W H W1 H1) (S : Sim c W1 e h s H1) (o : rO c H W1 H1 l v) (S0 : Sim c W e h s H ∨ ∃ h0, Sim c W e h0 s H) :
    ∃ W2, Step W H W2 H1 ∧ Sim c W2 e h s H1 ∧ Rep c.g W2 H1 (.lst l) v := by
  obtain ⟨a, vs, e1, e2, r, n1, n2, n3⟩ := o
  have t2 : Step W H (W1.frz a) H1 := t.frz n3
  have hs : HSim c.g (W1.frz a) h H1 := S.hs.frz e2 n2
  have pr : Per W1 H1 (W1.frz a) H1 := ⟨fun _ f => .inl f, fun _ _ e => e, fun _ _ => rfl, fun _ _ e => e, fun _ _ _ e => e⟩
  refine ⟨W1.frz a, t2, ?_, ?_⟩
  · rcases S0 with S0 | ⟨h0, S0⟩
    · exact S0.step t2 hs
    · exact S0.step t2 hs
  · simp only [Rep]
    exact ⟨a, vs, e1, .inr rfl, e2, r.per pr _ _⟩
theorem c_frz {ms : En → M (List DV)} (h : PE X ex (RO c ms)) : PE X ex (RE c (eFrz ms)) := pe_imp h fun s H Q q => by
  obtain ⟨W, e, h, S0, q⟩ := q
  refine ⟨W, e, h, S0, ?_⟩
  unfold eFrz at q
  rw [M.bind_def] at q
  cases z : ms e h with
  | ok l h1 =>
    rw [z] at q
    intro W1 H1 v t S o
    obtain ⟨W2, t2, S2, r2⟩ := frz_own t S o (.inr ⟨h, S0⟩)
    exact q _ _ _ t2 S2 r2
  | exc x h1 =>
    rw [z] at q
    exact q
  | bad =>
    rw [z] at q
    exact q
theorem post_frz {W : Wd} {e : En} {h : HP} {s : L2.St} {H Hs : Hp} {l : List DV} {vs : List V} {p : Addr} {Q : V → Hp → Prop} (q : Post c (rV c Hs) e s W H (Res.ok (DV.lst l) h) Q) (S : Sim c W e h s H) (r : Reps c.g W H l vs) (hp : H p = none) : Q (.ref p) (upd H p (.lst vs)) := by
  obtain ⟨t2, S2, o⟩ := new_own S r hp hp
  obtain ⟨W3, t3, S3, r3⟩ := frz_own t2 S2 o (.inl S)
  exact q _ _ _ t3 S3 r3
end

/-! ### what can be read as a list, as a tuple -/
def asL (h : HP) : DV → Option (List DV)
  | .lst l => some l
  | .scr l => some (l.map .int)
  | .ref p => match h[p]? with
    | some (.lst l) => some l
    | _ => none
  | _ => none
theorem reps_ints {g : Glue} {W : Wd} {H : Hp} : ∀ l : List Int, Reps g W H (l.map DV.int) (l.map V.int)
  | [] => .nil
  | x :: r => .cons (by simp only [Rep]) (reps_ints r)
theorem asL_ok {c : Cn} {W : Wd} {e : En} {h : HP} {s : L2.St} {H : Hp} {d : DV} {v : V} {l : List DV} (S : Sim c W e h s H) (r : RepB c.g W H d v) (a : asL h d = some l) : ∃ p vs, v = .ref p ∧ SqL c.g.K H p vs ∧ Reps c.g W H l vs := by
  cases d with
  | lst m =>
    have e1 : m = l := Option.some.inj a
    subst e1
    rcases r with r | ⟨l2, p, vs, e1, e2, e3, r, n⟩ | ⟨_, _, _, _, e1, _⟩
    · simp only [Rep] at r
      obtain ⟨p, vs, e1, _, e3, r⟩ := r
      exact ⟨p, vs, e1, .of e3, r⟩
    · cases e1
      exact ⟨p, vs, e2, .of e3, r⟩
    · cases e1
  | scr m =>
    have e1 : m.map DV.int = l := Option.some.inj a
    subst e1
    rcases r with r | ⟨l2, p, vs, e1, _⟩ | ⟨_, _, _, _, e1, _⟩
    · simp only [Rep] at r
      obtain ⟨p, e1, r⟩ := r
      exact ⟨p, _, e1, r.l, reps_ints m⟩
    · cases e1
    · cases e1
  | ref q =>
    rcases r with r | ⟨l2, p, vs, e1, _⟩ | ⟨_, _, _, _, e1, _⟩
    · simp only [Rep] at r
      obtain ⟨p, e1, r⟩ := r
      have a2 : (match h[q]? with
        | some (.lst l) => some l
        | _ => none) = some l := a
      cases z : h[q]? with
      | none =>
        rw [z] at a2
        cases a2
      | some o =>
        rw [z] at a2
        cases o with
        | lst m =>
          have e2 : m = l := Option.some.inj a2
          subst e2
          obtain ⟨⟨vs, e3, r3⟩, _⟩ := S.hs.o q _ p z r
          exact ⟨p, vs, e1, .of e3, r3⟩
        | obj c l => cases a2
    · cases e1
    · cases e1
  | _ => cases a
theorem tup_ok {c : Cn} {W : Wd} {H : Hp} {v : V} {l : List DV} (r : RepB c.g W H (.tup l) v) : ∃ p vs, v = .ref p ∧ SqT c.g.K H p vs ∧ Reps c.g W H l vs := by
  rcases r with r | ⟨l2, p, vs, e1, _⟩ | ⟨_, _, _, _, e1, _⟩
  · simp only [Rep] at r
    exact r
  · cases e1
  · cases e1
theorem str_ok {c : Cn} {W : Wd} {H : Hp} {v : V} {x : Str} (r : RepB c.g W H (.str x) v) : v = .str x := by
  rcases r with r | ⟨l2, p, vs, e1, _⟩ | ⟨_, _, _, _, e1, _⟩
  · simpa only [Rep] using r
  · cases e1
  · cases e1
theorem reps_at {g : Glue} {W : Wd} {H : Hp} {l : List DV} {vs : List V} {i : Int} {d : DV} (r : Reps g W H l vs) (a : atI l i = some d) : ∃ v, atI vs i = some v ∧ Rep g W H d v := by
  unfold atI at a ⊢
  rw [← r.len]
  cases z : ixN l.length i with
  | none =>
    rw [z] at a
    cases a
  | some j =>
    rw [z] at a
    exact r.get a

/-! ### a[i] -/
def getI (l : List DV) (i : Int) : M DV := match atI l i with
  | some d => pure d
  | none => M.bad
def vIdx (x y : DV) : M DV := fun h => match y with
  | .int i => (match x with
    | .tup l => getI l i h
    | .str z => if z.length ≤ LN then (match atI z.cps.toList i with
      | some c => .ok (.str ⟨#[c]⟩) h
      | none => .bad) else .bad
    | _ => (match asL h x with
      | some l => getI l i h
      | none => .bad))
  | _ => .bad
section
variable {X : Cx} {c : Cn} {pos : Pos} {a b : Expr} {ma mb : En → M DV}
theorem getI_post {W : Wd} {e : En} {h : HP} {s : L2.St} {H Hs : Hp} {l : List DV} {vs : List V} {i : Int} {Q : V → Hp → Prop} (S : Sim c W e h s H) (r : Reps c.g W H l vs) (q : Post c (rV c Hs) e s W H (getI l i h) Q) : ∃ v, atI vs i = some v ∧ Q v H := by
  unfold getI at q
  cases z : atI l i with
  | none =>
    rw [z] at q
    exact q.elim
  | some d =>
    rw [z] at q
    obtain ⟨v, e1, r1⟩ := reps_at r z
    exact ⟨v, e1, q.ret S r1⟩
theorem prim_idx {K : PySem.W.Frag} (hk : c.g.K = K) : Prim2 c (pB c) (pV c) (rV c) vIdx (rIx K) := by
  subst hk
  refine ⟨fun {W e h s H Hs x y v w Q} S rx ry nw q => ?_⟩
  cases y with
  | int i =>
    simp only [pV, Rep] at ry
    have fin : ∀ l, asL h x = some l → Post c (rV c Hs) e s W H (getI l i h) Q → rIx c.g.K v w H Q := fun l hl q => by
      obtain ⟨p, vs, e1, sq, r⟩ := asL_ok S rx hl
      obtain ⟨u, e2, q2⟩ := getI_post S r q
      exact .inl ⟨p, vs, i, u, e1, ry, sq, e2, q2⟩
    have fin2 : Post c (rV c Hs) e s W H (match asL h x with
      | some l => getI l i h
      | none => .bad) Q → rIx c.g.K v w H Q := fun q => by
      cases z : asL h x with
      | none =>
        rw [z] at q
        exact q.elim
      | some l =>
        rw [z] at q
        exact fin l z q
    cases x with
    | tup l =>
      obtain ⟨p, vs, e1, sq, r⟩ := tup_ok rx
      obtain ⟨u, e2, q2⟩ := getI_post S r q
      exact .inr (.inl ⟨p, vs, i, u, e1, ry, sq, e2, q2⟩)
    | str z =>
      have ez := str_ok rx
      have q1 : Post c (rV c Hs) e s W H (if z.length ≤ LN then (match atI z.cps.toList i with
        | some c => .ok (.str ⟨#[c]⟩) h
        | none => .bad) else .bad) Q := q
      split at q1
      · rename_i hz
        cases e2 : atI z.cps.toList i with
        | none =>
          rw [e2] at q1
          exact q1.elim
        | some k =>
          rw [e2] at q1
          exact .inr (.inr ⟨z, i, k, ez, ry, by rw [line_LN]; exact hz, e2, q1.ret S (by simp only [rV, Rep])⟩)
      · exact q1.elim
    | _ => exact fin2 q
  | _ => exact q.elim
theorem c_idx (hk : X.K = c.g.K) (ha : PE X a (RB c ma)) (hb : PE X b (RE c mb)) (hs : PlainIx b := by intro _ _; rfl) : PE X (.Subscript a b pos) (RE c (e2 vIdx ma mb)) :=
  pe_imp (pe_ix ix_seq ha hb hs) fun s H Q q => two stays_B (prim_idx hk.symm) q

/-! ### a[lo:hi] -/
def sx (n d : Nat) : Option Int → Nat
  | none => d
  | some v => if v < 0 then (v + n).toNat else min v.toNat n
theorem sx_eq (n d : Nat) (o : Option Int) : HT.sIx n d o = sx n d o := by
  cases o with
  | none => rfl
  | some v =>
    have q := HT.clip_eq v n d
    show HT.sIx n d (some v) = if v < 0 then (v + n).toNat else min v.toNat n
    by_cases hv : v < 0
    · rw [if_pos hv] at q ⊢
      omega
    · rw [if_neg hv] at q ⊢
      omega
def cutD {A : Type} (l : List A) (lo hi : Option Int) : List A := (l.drop (sx l.length 0 lo)).take (sx l.length l.length hi - sx l.length 0 lo)
theorem cutV_eq (l : List V) (lo hi : Option Int) : cutV l lo hi = cutD l lo hi := by
  unfold cutV cutD
  rw [sx_eq, sx_eq]
theorem reps_cut {g : Glue} {W : Wd} {H : Hp} {l : List DV} {vs : List V} (lo hi : Option Int) (r : Reps g W H l vs) : Reps g W H (cutD l lo hi) (cutD vs lo hi) := by
  unfold cutD
  rw [← r.len]
  exact (r.drop _).take _
def vCut (x : DV) (lo hi : Option Int) : M DV := fun h => match x with
  | .tup l => .ok (.tup (cutD l lo hi)) h
  | _ => (match asL h x with
    | some l => .ok (.lst (cutD l lo hi)) h
    | none => .bad)
def oNone : En → M (Option Int) := fun _ => pure none
def oSome (m : En → M DV) : En → M (Option Int) := fun e => m e >>= fun x => match x with
  | .int i => pure (some i)
  | _ => M.bad
def eCut (m : En → M DV) (lo hi : En → M (Option Int)) : En → M DV := fun e => m e >>= fun x => lo e >>= fun l => hi e >>= fun u => vCut x l u
def rOI : Rl (Option Int) (Option Int) := fun _ _ _ d o => o = d
abbrev RP (c : Cn) (m : En → M (Option Int)) : TO := RX c rOI m
theorem c_pn : PO X none (RP c oNone) := ⟨fun pins s σ H Q I q => po_none.run pins s σ H Q I (by
  obtain ⟨W, e, h, S, q⟩ := q
  exact q.ret S rfl)⟩
theorem c_ps {ex : Expr} {m : En → M DV} (h : PE X ex (RE c m)) : PO X (some ex) (RP c (oSome m)) := ⟨fun pins s σ H Q I q => (po_some h).run pins s σ H Q I (RX.bind q fun W e W1 H1 x v h1 t S r q2 => by
  split at q2
  · simp only [Rep] at r
    exact ⟨_, r, q2.ret S rfl⟩
  · exact q2.elim)⟩
def rSlQ (K : PySem.W.Frag) : V → Option Int → Option Int → Hp → VK → Prop := fun x lo hi H Q => rSlA K x lo hi H Q ∨ rSlL K x lo hi H Q
theorem sl_Q : SlR X (rSlQ X.K) := sl_tupA.or sl_list
theorem cut_whole {A : Type} {l : List A} {lo hi : Option Int} (h : sx l.length 0 lo = 0 ∧ sx l.length l.length hi = l.length) : cutD l lo hi = l := by
  unfold cutD
  rw [h.1, h.2, List.drop_zero, Nat.sub_zero, List.take_length]
theorem c_cut (hk : X.K = c.g.K) {ex : Expr} {m : En → M DV} {lo hi : Option Expr} {ml mh : En → M (Option Int)} {p2} (he : PE X ex (RB c m)) (hl : PO X lo (RP c ml)) (hu : PO X hi (RP c mh)) :
    PE X (.Subscript ex (.Slice lo hi none p2) pos) (RE c (eCut m ml mh)) := pe_imp (pe_slice sl_Q he hl hu) fun s H Q q => by
  refine RX.bind q fun W e W1 H1 x v h1 t S rx q2 => ⟨W1, e, h1, S, q2.bind fun W2 H2 lo l2 h2 t2 S2 rl q3 => ⟨W2, e, h2, S2, q3.bind fun W3 H3 hi u3 h3 t3 S3 ru q4 => ?_⟩⟩
  have rx3 := stays_B.go S2.hs t3 (stays_B.go S.hs t2 rx)
  have e1 : l2 = lo := rl
  have e2 : u3 = hi := ru
  subst e1 e2
  have fin2 : Post c (rV c H) e s W3 H3 (match asL h3 x with
      | some l => .ok (.lst (cutD l l2 u3)) h3
      | none => .bad) Q → rSlQ X.K v l2 u3 H3 Q := fun q => by
    cases z : asL h3 x with
    | none =>
      rw [z] at q
      exact q.elim
    | some l =>
      rw [z] at q
      obtain ⟨p, vs, e1, sq, r⟩ := asL_ok S3 rx3 z
      refine .inr ⟨p, vs, e1, hk ▸ sq, fun d hd => ?_⟩
      rw [cutV_eq]
      exact post_frz q S3 (reps_cut _ _ r) hd
  cases x with
  | tup l =>
    obtain ⟨p, vs, e1, sq, r⟩ := tup_ok rx3
    refine .inl ⟨p, vs, e1, hk ▸ sq, fun w => ?_, fun _ d hd => ?_⟩
    · rw [sx_eq, sx_eq] at w
      have w2 : sx l.length 0 l2 = 0 ∧ sx l.length l.length u3 = l.length := by
        rw [r.len]
        exact w
      rw [e1] at rx3
      refine q4.ret S3 ?_
      simp only [rV, Rep]
      rw [cut_whole w2]
      exact ⟨p, vs, rfl, sq, r⟩
    · rw [cutV_eq]
      exact post_tup q4 S3 (reps_cut _ _ r) hd
  | _ => exact fin2 q4
end
end LM

/-! Equality, tests, built-ins. -/
namespace LM
open PySem L2

/-! ### equality -/
mutual
def toPD : DV → Option PyData
  | .non => some .none
  | .bl b => some (.bool b)
  | .int i => some (.int i)
  | .str s => some (.str s)
  | .tup l => (match toPDs l with
    | some r => some (.tuple r)
    | none => none)
  | .lst l => (match toPDs l with
    | some r => some (.list r)
    | none => none)
  | .scr l => some (.list (l.map .int))
  | _ => none
def toPDs : List DV → Option (List PyData)
  | [] => some []
  | d :: ds => (match toPD d, toPDs ds with
    | some x, some r => some (x :: r)
    | _, _ => none)
end
theorem dpAll_ints {K : PySem.W.Frag} {H : Hp} : ∀ l : List Int, DpAll K H (l.map V.int) (l.map PyData.int)
  | [] => .nil
  | x :: r => .cons (.int x) (dpAll_ints r)
mutual
theorem dp_of {g : Glue} {W : Wd} {H : Hp} : ∀ (d : DV) (v : V) (p : PyData), Rep g W H d v → toPD d = some p → Dp g.K H v p
  | .non, v, p, r, e => by
    simp only [Rep] at r
    simp only [toPD, Option.some.injEq] at e
    subst r e
    exact .non
  | .bl b, v, p, r, e => by
    simp only [Rep] at r
    simp only [toPD, Option.some.injEq] at e
    subst r e
    exact .bl b
  | .int i, v, p, r, e => by
    simp only [Rep] at r
    simp only [toPD, Option.some.injEq] at e
    subst r e
    exact .int i
  | .str s, v, p, r, e => by
    simp only [Rep] at r
    simp only [toPD, Option.some.injEq] at e
    subst r e
    exact .str s
  | .tup l, v, p, r, e => by
    simp only [Rep] at r
    obtain ⟨a, vs, e1, sq, rs⟩ := r
    simp only [toPD] at e
    cases z : toPDs l with
    | none =>
      rw [z] at e
      cases e
    | some ps =>
      rw [z] at e
      cases e
      subst e1
      exact .tup sq (dps_of l vs ps rs z)
  | .lst l, v, p, r, e => by
    simp only [Rep] at r
    obtain ⟨a, vs, e1, _, sq, rs⟩ := r
    simp only [toPD] at e
    cases z : toPDs l with
    | none =>
      rw [z] at e
      cases e
    | some ps =>
      rw [z] at e
      cases e
      subst e1
      exact .lst (.of sq) (dps_of l vs ps rs z)
  | .scr l, v, p, r, e => by
    simp only [Rep] at r
    obtain ⟨a, e1, sq⟩ := r
    simp only [toPD, Option.some.injEq] at e
    subst e1 e
    exact .lst sq.l (dpAll_ints l)
  | .dct _ _, v, p, r, e => by simp only [toPD] at e; cases e
  | .obj _ _, v, p, r, e => by simp only [toPD] at e; cases e
  | .fn _, v, p, r, e => by simp only [toPD] at e; cases e
  | .ref _, v, p, r, e => by simp only [toPD] at e; cases e
theorem dps_of {g : Glue} {W : Wd} {H : Hp} : ∀ (l : List DV) (vs : List V) (ps : List PyData), Reps g W H l vs → toPDs l = some ps → DpAll g.K H vs ps
  | [], vs, ps, r, e => by
    simp only [Reps] at r
    simp only [toPDs, Option.some.injEq] at e
    subst r e
    exact .nil
  | d :: ds, vs, ps, r, e => by
    simp only [Reps] at r
    obtain ⟨v, r2, e1, h1, h2⟩ := r
    simp only [toPDs] at e
    cases z : toPD d with
    | none =>
      rw [z] at e
      cases e
    | some p =>
      cases z2 : toPDs ds with
      | none =>
        rw [z, z2] at e
        cases e
      | some q =>
        rw [z, z2] at e
        cases e
        subst e1
        exact .cons (dp_of d v p h1 z) (dps_of ds r2 q h2 z2)
end
theorem dpB_of {g : Glue} {W : Wd} {H : Hp} {d : DV} {v : V} {p : PyData} (r : RepB g W H d v) (e : toPD d = some p) : Dp g.K H v p := by
  rcases r with r | ⟨l, a, vs, e1, e2, e3, r, n⟩ | ⟨ks, l, a, vs, e1, e2, e3, z, r, n⟩
  · exact dp_of d v p r e
  · subst e1 e2
    simp only [toPD] at e
    cases z : toPDs l with
    | none =>
      rw [z] at e
      cases e
    | some ps =>
      rw [z] at e
      cases e
      exact .lst (.of e3) (dps_of l vs ps r z)
  · subst e1
    simp only [toPD] at e
    cases e
def eqD (x y : DV) : Option Bool := match toPD x, toPD y with
  | some d, some e => if SeqAt.shaped d && SeqAt.shaped e then some (PyData.eqv d e) else none
  | _, _ => none
def vEq (x y : DV) : M DV := match eqD x y with
  | some b => pure (.bl b)
  | none => M.bad
def vNe (x y : DV) : M DV := match eqD x y with
  | some b => pure (.bl (!b))
  | none => M.bad
theorem eqD_ok {x y : DV} {b : Bool} (h : eqD x y = some b) : ∃ d e, toPD x = some d ∧ toPD y = some e ∧ SeqAt.shaped d = true ∧ SeqAt.shaped e = true ∧ b = PyData.eqv d e := by
  unfold eqD at h
  cases z : toPD x with
  | none =>
    rw [z] at h
    cases h
  | some d =>
    cases z2 : toPD y with
    | none =>
      rw [z, z2] at h
      cases h
    | some e =>
      rw [z, z2] at h
      have h2 : (if SeqAt.shaped d && SeqAt.shaped e then some (PyData.eqv d e) else none) = some b := h
      split at h2
      · rename_i q
        simp only [Bool.and_eq_true] at q
        exact ⟨d, e, rfl, rfl, q.1, q.2, (Option.some.inj h2).symm⟩
      · cases h2
section
variable {X : Cx} {c : Cn} {pos : Pos} {a b : Expr} {ma mb : En → M DV}
theorem prim_eq {K : PySem.W.Frag} (hk : c.g.K = K) : Prim2 c (pB c) (pB c) (rV c) vEq (rEqD K) := by
  subst hk
  refine ⟨fun {W e h s H Hs x y v w Q} S rx ry nw q => ?_⟩
  unfold vEq at q
  cases z : eqD x y with
  | none =>
    rw [z] at q
    exact q.elim
  | some b =>
    rw [z] at q
    obtain ⟨d, f, h1, h2, h3, h4, h5⟩ := eqD_ok z
    exact ⟨d, f, dpB_of rx h1, dpB_of ry h2, h3, h4, by rw [← h5]; exact q.ret S (by simp only [rV, Rep])⟩
theorem prim_ne {K : PySem.W.Frag} (hk : c.g.K = K) : Prim2 c (pB c) (pB c) (rV c) vNe (rNeD K) := by
  subst hk
  refine ⟨fun {W e h s H Hs x y v w Q} S rx ry nw q => ?_⟩
  unfold vNe at q
  cases z : eqD x y with
  | none =>
    rw [z] at q
    exact q.elim
  | some b =>
    rw [z] at q
    obtain ⟨d, f, h1, h2, h3, h4, h5⟩ := eqD_ok z
    exact ⟨d, f, dpB_of rx h1, dpB_of ry h2, h3, h4, by rw [← h5]; exact q.ret S (by simp only [rV, Rep])⟩
theorem c_eq (hk : X.K = c.g.K) (hu : X.A.units + 64 < cLine) (ha : PE X a (RB c ma)) (hb : PE X b (RB c mb)) : PE X (.Compare a [.Eq] [b] pos) (RE c (e2 vEq ma mb)) := c_cmp (op_eqD hu) stays_B (prim_eq hk.symm) ha hb (nomark _)
theorem c_ne (hk : X.K = c.g.K) (hu : X.A.units + 64 < cLine) (ha : PE X a (RB c ma)) (hb : PE X b (RB c mb)) : PE X (.Compare a [.NotEq] [b] pos) (RE c (e2 vNe ma mb)) := c_cmp (op_neD hu) stays_B (prim_ne hk.symm) ha hb (nomark _)

/-! ### is None -/
def isNon : DV → Bool
  | .non => true
  | _ => false
def vIsN (x : DV) : M DV := pure (.bl (isNon x))
def vNotN (x : DV) : M DV := pure (.bl (!isNon x))
theorem non_iff {g : Glue} {W : Wd} {H : Hp} {d : DV} {v : V} (r : RepB g W H d v) : decide (v = .non) = isNon d := by
  have key : ∀ d v, Rep g W H d v → decide (v = .non) = isNon d := fun d v r => by
    cases d <;> simp only [Rep] at r <;> first
      | (subst r; rfl)
      | (obtain ⟨a, _, e, _⟩ := r; subst e; rfl)
      | (obtain ⟨a, _, _, e, _⟩ := r; subst e; rfl)
      | (obtain ⟨a, e, _⟩ := r; subst e; rfl)
  rcases r with r | ⟨l, a, vs, e1, e2, e3, r, n⟩ | ⟨ks, l, a, vs, e1, e2, e3, z, r, n⟩
  · exact key d v r
  · subst e1 e2
    rfl
  · subst e1 e2
    rfl
theorem c_isN {j pos'} (ha : PE X a (RB c ma)) : PE X (.Compare a [.Is] [.Constant .none j pos'] pos) (RE c (e1 vIsN ma)) := pe_imp (pe_cmp (pc_isN ha) rfl) fun s H Q q =>
  q.bind fun W e W1 H1 x v h1 t S r q2 => by
    rw [non_iff r]
    exact q2.ret S (by simp only [rV, Rep])
theorem c_notN {j pos'} (ha : PE X a (RB c ma)) : PE X (.Compare a [.IsNot] [.Constant .none j pos'] pos) (RE c (e1 vNotN ma)) := pe_imp (pe_cmp (pc_notN ha) rfl) fun s H Q q =>
  q.bind fun W e W1 H1 x v h1 t S r q2 => by
    rw [non_iff r]
    exact q2.ret S (by simp only [rV, Rep])

/-! ### in -/
def flatD : DV → Bool
  | .non => true
  | .bl _ => true
  | .int _ => true
  | .str _ => true
  | _ => false
def eqF : DV → DV → Bool
  | .non, .non => true
  | .bl a, .bl b => a == b
  | .bl a, .int b => (if a then 1 else 0) == b
  | .int a, .bl b => a == (if b then 1 else 0)
  | .int a, .int b => a == b
  | .str a, .str b => a == b
  | _, _ => false
def flV : DV → V
  | .bl b => .bl b
  | .int i => .int i
  | .str s => .str s
  | _ => .non
theorem flat_rep {g : Glue} {W : Wd} {H : Hp} {d : DV} {v : V} (r : Rep g W H d v) (f : flatD d = true) : v = flV d ∧ flatV v = true := by
  cases d <;> simp only [Rep] at r <;> first
    | (subst r; exact ⟨rfl, rfl⟩)
    | cases f
theorem eqF_V {a b : DV} (ha : flatD a = true) (hb : flatD b = true) : eqV (flV a) (flV b) = eqF a b := by
  cases a <;> first
    | (cases ha; done)
    | (cases b <;> first
      | (cases hb; done)
      | rfl)
theorem flats_rep {g : Glue} {W : Wd} {H : Hp} : ∀ {l : List DV} {vs : List V}, Reps g W H l vs → l.all flatD = true → vs = l.map flV ∧ vs.all flatV = true
  | [], vs, r, _ => by
    simp only [Reps] at r
    subst r
    exact ⟨rfl, rfl⟩
  | d :: ds, vs, r, f => by
    simp only [Reps] at r
    obtain ⟨v, r2, e1, h1, h2⟩ := r
    rw [List.all_cons, Bool.and_eq_true] at f
    obtain ⟨q1, q2⟩ := flat_rep h1 f.1
    obtain ⟨q3, q4⟩ := flats_rep h2 f.2
    subst e1 q1 q3
    exact ⟨rfl, by rw [List.all_cons, q2, q4]; rfl⟩
theorem inV_F {x : DV} (hx : flatD x = true) : ∀ {l : List DV}, l.all flatD = true → inV (flV x) (l.map flV) = l.any fun y => eqF y x
  | [], _ => rfl
  | d :: ds, f => by
    rw [List.all_cons, Bool.and_eq_true] at f
    have ih := inV_F hx f.2
    unfold inV at ih ⊢
    rw [List.map_cons, List.any_cons, List.any_cons, ih, eqF_V f.1 hx]
def asS (h : HP) : DV → Option (List DV)
  | .tup l => some l
  | d => asL h d
def vIn (neg : Bool) (x y : DV) : M DV := fun h => match asS h y with
  | some l => if flatD x && l.all flatD then .ok (.bl (if neg then !(l.any fun y => eqF y x) else l.any fun y => eqF y x)) h else .bad
  | none => .bad
theorem asS_ok {W : Wd} {e : En} {h : HP} {s : L2.St} {H : Hp} {d : DV} {v : V} {l : List DV} (S : Sim c W e h s H) (r : RepB c.g W H d v) (a : asS h d = some l) : ∃ p vs, v = .ref p ∧ (SqL c.g.K H p vs ∨ SqT c.g.K H p vs) ∧ Reps c.g W H l vs := by
  have fin : asL h d = some l → ∃ p vs, v = .ref p ∧ (SqL c.g.K H p vs ∨ SqT c.g.K H p vs) ∧ Reps c.g W H l vs := fun a => by
    obtain ⟨p, vs, e1, sq, rs⟩ := asL_ok S r a
    exact ⟨p, vs, e1, .inl sq, rs⟩
  cases d with
  | tup m =>
    have e1 : m = l := Option.some.inj a
    subst e1
    obtain ⟨p, vs, e1, sq, rs⟩ := tup_ok r
    exact ⟨p, vs, e1, .inr sq, rs⟩
  | _ => exact fin a
theorem prim_in {K : PySem.W.Frag} (hk : c.g.K = K) (neg : Bool) : Prim2 c (pV c) (pB c) (rV c) (vIn neg) (rIn K neg) := by
  subst hk
  refine ⟨fun {W e h s H Hs x y v w Q} S rx ry nw q => ?_⟩
  unfold vIn at q
  cases z : asS h y with
  | none =>
    rw [z] at q
    exact q.elim
  | some l =>
    rw [z] at q
    have q1 : Post c (rV c Hs) e s W H (if flatD x && l.all flatD then .ok (.bl (if neg then !(l.any fun y => eqF y x) else l.any fun y => eqF y x)) h else .bad) Q := q
    split at q1
    · rename_i f
      rw [Bool.and_eq_true] at f
      obtain ⟨p, vs, e1, sq, rs⟩ := asS_ok S ry z
      obtain ⟨g1, g2⟩ := flat_rep rx f.1
      obtain ⟨g3, g4⟩ := flats_rep rs f.2
      refine ⟨p, vs, e1, sq, g2, g4, ?_⟩
      rw [g1, g3, inV_F f.1 f.2]
      exact q1.ret S (by simp only [rV, Rep])
    · exact q1.elim
theorem c_in (hk : X.K = c.g.K) (ha : PE X a (RE c ma)) (hb : PE X b (RB c mb)) (hm : behindInMarks .In b = false := by rfl) : PE X (.Compare a [.In] [b] pos) (RE c (e2 (vIn false) ma mb)) := c_cmp op_in_seq stays_V (prim_in hk.symm false) ha hb hm
theorem c_notin (hk : X.K = c.g.K) (ha : PE X a (RE c ma)) (hb : PE X b (RB c mb)) (hm : behindInMarks .NotIn b = false := by rfl) : PE X (.Compare a [.NotIn] [b] pos) (RE c (e2 (vIn true) ma mb)) := c_cmp op_notIn_seq stays_V (prim_in hk.symm true) ha hb hm

/-! ### and, or, not; tests -/
def eAnd (a b : En → M DV) : En → M DV := fun e => a e >>= fun x => match x with
  | .bl true => b e
  | .bl false => pure (.bl false)
  | _ => M.bad
def eOr (a b : En → M DV) : En → M DV := fun e => a e >>= fun x => match x with
  | .bl true => pure (.bl true)
  | .bl false => b e
  | _ => M.bad
def vNot (x : DV) : M DV := match x with
  | .bl b => pure (.bl (!b))
  | _ => M.bad
variable {rest : List Expr}
theorem c_one {op} (h : PE X a (RE c ma)) : PE X (.BoolOp op [a] pos) (RE c ma) := pe_one h
theorem c_and (ha : PE X a (RE c ma)) (hb : PE X (.BoolOp .And (b :: rest) pos) (RE c mb)) : PE X (.BoolOp .And (a :: b :: rest) pos) (RE c (eAnd ma mb)) := pe_imp (pe_and ha hb) fun s H Q q =>
  q.bind fun W e W1 H1 x v h1 t S r q2 => by
    split at q2
    · simp only [Rep] at r
      exact ⟨true, r, iteT ⟨W1, e, h1, S, q2.later (Step.refl _ _)⟩⟩
    · simp only [Rep] at r
      exact ⟨false, r, iteF (q2.ret S (by simp only [rV, Rep]))⟩
    · exact q2.elim
theorem c_or (ha : PE X a (RE c ma)) (hb : PE X (.BoolOp .Or (b :: rest) pos) (RE c mb)) : PE X (.BoolOp .Or (a :: b :: rest) pos) (RE c (eOr ma mb)) := pe_imp (pe_or ha hb) fun s H Q q =>
  q.bind fun W e W1 H1 x v h1 t S r q2 => by
    split at q2
    · simp only [Rep] at r
      exact ⟨true, r, iteT (q2.ret S (by simp only [rV, Rep]))⟩
    · simp only [Rep] at r
      exact ⟨false, r, iteF ⟨W1, e, h1, S, q2.later (Step.refl _ _)⟩⟩
    · exact q2.elim
theorem c_not (ha : PE X a (RE c ma)) : PE X (.UnaryOp .Not a pos) (RE c (e1 vNot ma)) := pe_imp (pe_not ha) fun s H Q q =>
  q.bind fun W e W1 H1 x v h1 t S r q2 => by
    unfold vNot at q2
    split at q2
    · simp only [Rep] at r
      exact ⟨_, r, q2.ret S (by simp only [rV, Rep])⟩
    · exact q2.elim
/-- a truth value asked -/
def asB (x : DV) : M Bool := match x with
  | .bl b => pure b
  | _ => M.bad
def tb (m : En → M DV) : En → M Bool := fun e => m e >>= asB
theorem tb_use {s : L2.St} {H : Hp} {Q : Bool → Hp → Prop} {t : TE} (f : ∀ Q, RE c ma s H Q → t s H Q) (q : RT c (tb ma) s H Q) : t s H fun x H1 => ∃ k, x = .bl k ∧ Q k H1 := f _ (by
  obtain ⟨W, e, h, S0, q⟩ := q
  refine ⟨W, e, h, S0, ?_⟩
  unfold tb at q
  rw [M.bind_def] at q
  cases z : ma e h with
  | ok d h1 =>
    rw [z] at q
    intro W1 H1 v t S r
    have q2 : Post c (rT H) e s W H (asB d h1) Q := q
    unfold asB at q2
    split at q2
    · simp only [rV, Rep] at r
      exact ⟨_, r, q2 _ _ _ t S rfl⟩
    · exact q2.elim
  | exc x h1 =>
    rw [z] at q
    exact q
  | bad =>
    rw [z] at q
    exact q)
theorem t_val (h : PE X a (RE c ma)) (he : ∀ whole, isTrue a X.env whole = (do let v ← whole; standAt a.pos; holding [v] (truthy v)) := by intro _; rfl) : PT X a (RT c (tb ma)) := pt_imp (pt_val h he) fun s H Q q => tb_use (t := RE c ma) (fun _ z => z) q
theorem t_cmp {op : CmpOp} {p : DV → DV → M DV} {Ra Rb : Wd → Hp → DV → V → Prop} {r : R2} (ho : OpR X (compareOp op) r) (st : Stays c Ra) (hp : Prim2 c Ra Rb (rV c) p r) (ha : PE X a (RX c (fun _ => Ra) ma)) (hb : PE X b (RX c (fun _ => Rb) mb)) (hm : behindInMarks op b = false) :
    PT X (.Compare a [op] [b] pos) (RT c (tb (e2 p ma mb))) := pt_imp (pt_cmpR ho ha hb hm) fun s H Q q => tb_use (c := c) (ma := e2 p ma mb) (t := tOp r (RX c (fun _ => Ra) ma) (RX c (fun _ => Rb) mb)) (fun _ z => two st hp z) q
theorem t_lt (ha : PE X a (RE c ma)) (hb : PE X b (RE c mb)) : PT X (.Compare a [.Lt] [b] pos) (RT c (tb (e2 vLt ma mb))) := t_cmp op_lt stays_V prim_lt ha hb (nomark _)
theorem t_le (ha : PE X a (RE c ma)) (hb : PE X b (RE c mb)) : PT X (.Compare a [.LtE] [b] pos) (RT c (tb (e2 vLe ma mb))) := t_cmp op_le stays_V prim_le ha hb (nomark _)
theorem t_gt (ha : PE X a (RE c ma)) (hb : PE X b (RE c mb)) : PT X (.Compare a [.Gt] [b] pos) (RT c (tb (e2 vGt ma mb))) := t_cmp op_gt stays_V prim_gt ha hb (nomark _)
theorem t_ge (ha : PE X a (RE c ma)) (hb : PE X b (RE c mb)) : PT X (.Compare a [.GtE] [b] pos) (RT c (tb (e2 vGe ma mb))) := t_cmp op_ge stays_V prim_ge ha hb (nomark _)
theorem t_eq (hk : X.K = c.g.K) (hu : X.A.units + 64 < cLine) (ha : PE X a (RB c ma)) (hb : PE X b (RB c mb)) : PT X (.Compare a [.Eq] [b] pos) (RT c (tb (e2 vEq ma mb))) := t_cmp (op_eqD hu) stays_B (prim_eq hk.symm) ha hb (nomark _)
theorem t_ne (hk : X.K = c.g.K) (hu : X.A.units + 64 < cLine) (ha : PE X a (RB c ma)) (hb : PE X b (RB c mb)) : PT X (.Compare a [.NotEq] [b] pos) (RT c (tb (e2 vNe ma mb))) := t_cmp (op_neD hu) stays_B (prim_ne hk.symm) ha hb (nomark _)
theorem t_in (hk : X.K = c.g.K) (ha : PE X a (RE c ma)) (hb : PE X b (RB c mb)) (hm : behindInMarks .In b = false := by rfl) : PT X (.Compare a [.In] [b] pos) (RT c (tb (e2 (vIn false) ma mb))) := t_cmp op_in_seq stays_V (prim_in hk.symm false) ha hb hm
theorem t_notin (hk : X.K = c.g.K) (ha : PE X a (RE c ma)) (hb : PE X b (RB c mb)) (hm : behindInMarks .NotIn b = false := by rfl) : PT X (.Compare a [.NotIn] [b] pos) (RT c (tb (e2 (vIn true) ma mb))) := t_cmp op_notIn_seq stays_V (prim_in hk.symm true) ha hb hm
theorem t_isN {j pos'} (ha : PE X a (RB c ma)) : PT X (.Compare a [.Is] [.Constant .none j pos'] pos) (RT c (tb (e1 vIsN ma))) := pt_imp (pt_cmp (pc_isN ha) rfl) fun s H Q q =>
  tb_use (c := c) (ma := e1 vIsN ma) (t := tIsN (RB c ma)) (fun Q q => q.bind fun W e W1 H1 x v h1 t S r q2 => by
    rw [non_iff r]
    exact q2.ret S (by simp only [rV, Rep])) q
theorem t_notN {j pos'} (ha : PE X a (RB c ma)) : PT X (.Compare a [.IsNot] [.Constant .none j pos'] pos) (RT c (tb (e1 vNotN ma))) := pt_imp (pt_cmp (pc_notN ha) rfl) fun s H Q q =>
  tb_use (c := c) (ma := e1 vNotN ma) (t := tNotN (RB c ma)) (fun Q q => q.bind fun W e W1 H1 x v h1 t S r q2 => by
    rw [non_iff r]
    exact q2.ret S (by simp only [rV, Rep])) q
theorem t_chain {op op' : CmpOp} {p p' : DV → DV → M DV} {r r' : R2} {z : Expr} {mz : En → M DV} (ho : OpR X (compareOp op) r) (ho' : OpR X (compareOp op') r') (hp : Prim2 c (pV c) (pV c) (rV c) p r) (hp' : Prim2 c (pV c) (pV c) (rV c) p' r')
    (ha : PE X a (RE c ma)) (hb : PE X b (RE c mb)) (hz : PE X z (RE c mz)) (hm : lastMarks [op, op'] [b, z] = false) :
    PT X (.Compare a [op, op'] [b, z] pos) (RT c (tb (e3c p p' ma mb mz))) := pt_imp (L2.pt_chain ho ho' ha hb hz hm) fun s H Q q => by
  refine tb_use (c := c) (ma := e3c p p' ma mb mz) (t := tChain r r' (RE c ma) (RE c mb) (RE c mz)) (fun Q q => ?_) q
  exact chain_use hp hp' q
theorem t_lelt {z : Expr} {mz : En → M DV} (ha : PE X a (RE c ma)) (hb : PE X b (RE c mb)) (hz : PE X z (RE c mz)) : PT X (.Compare a [.LtE, .Lt] [b, z] pos) (RT c (tb (e3c vLe vLt ma mb mz))) := t_chain op_le op_lt prim_le prim_lt ha hb hz (nomark z)
theorem t_lele {z : Expr} {mz : En → M DV} (ha : PE X a (RE c ma)) (hb : PE X b (RE c mb)) (hz : PE X z (RE c mz)) : PT X (.Compare a [.LtE, .LtE] [b, z] pos) (RT c (tb (e3c vLe vLe ma mb mz))) := t_chain op_le op_le prim_le prim_le ha hb hz (nomark z)
theorem t_ltlt {z : Expr} {mz : En → M DV} (ha : PE X a (RE c ma)) (hb : PE X b (RE c mb)) (hz : PE X z (RE c mz)) : PT X (.Compare a [.Lt, .Lt] [b, z] pos) (RT c (tb (e3c vLt vLt ma mb mz))) := t_chain op_lt op_lt prim_lt prim_lt ha hb hz (nomark z)
def tAnd (a b : En → M Bool) : En → M Bool := fun e => a e >>= fun x => if x then b e else pure false
def tOr (a b : En → M Bool) : En → M Bool := fun e => a e >>= fun x => if x then pure true else b e
def tNot (a : En → M Bool) : En → M Bool := fun e => a e >>= fun x => pure (!x)
variable {ta tc : En → M Bool}
theorem t_and1 (ha : PT X a (RT c ta)) : PW X (.BoolOp .And [a] pos) (RT c ta) := pw_and1 ha
theorem t_or1 (ha : PT X a (RT c ta)) : PW X (.BoolOp .Or [a] pos) (RT c ta) := pw_or1 ha
theorem pw_imp {ex : Expr} {t t' : TT} (h : PW X ex t) (f : ∀ s H Q, t' s H Q → t s H Q) : PW X ex t' := ⟨fun wh pins s σ H Q I q => h.run wh pins s σ H Q I (f σ H Q q)⟩
theorem t_and (ha : PT X a (RT c ta)) (hb : PW X (.BoolOp .And (b :: rest) pos) (RT c tc)) : PW X (.BoolOp .And (a :: b :: rest) pos) (RT c (tAnd ta tc)) := pw_imp (pw_and ha hb) fun s H Q q =>
  q.bind fun W e W1 H1 x v h1 t S r q2 => by
    have r2 : v = x := r
    subst r2
    split at q2
    · rename_i hv
      rw [hv]
      exact iteT ⟨W1, e, h1, S, q2.later (Step.refl _ _)⟩
    · rename_i hv
      have hv : v = false := by simpa using hv
      rw [hv]
      exact iteF (q2.ret S rfl)
theorem t_or (ha : PT X a (RT c ta)) (hb : PW X (.BoolOp .Or (b :: rest) pos) (RT c tc)) : PW X (.BoolOp .Or (a :: b :: rest) pos) (RT c (tOr ta tc)) := pw_imp (pw_or ha hb) fun s H Q q =>
  q.bind fun W e W1 H1 x v h1 t S r q2 => by
    have r2 : v = x := r
    subst r2
    split at q2
    · rename_i hv
      rw [hv]
      exact iteT (q2.ret S rfl)
    · rename_i hv
      have hv : v = false := by simpa using hv
      rw [hv]
      exact iteF ⟨W1, e, h1, S, q2.later (Step.refl _ _)⟩
theorem t_not (ha : PT X a (RT c ta)) : PT X (.UnaryOp .Not a pos) (RT c (tNot ta)) := pt_imp (pt_not ha) fun s H Q q =>
  q.bind fun W e W1 H1 x v h1 t S r q2 => by
    have r2 : v = x := r
    subst r2
    exact q2.ret S rfl
end
end LM

/-! Calls of built-ins and of defs; what is walked; comprehensions. -/
namespace LM
open PySem L2

/-! ### one argument -/
structure Prim1 (c : Cn) (Ra : Wd → Hp → DV → V → Prop) {A : Type} (R : Rl A V) (p : DV → M A) (r : List V → Hp → VK → Prop) : Prop where
  go : ∀ {W : Wd} {e : En} {h : HP} {s : L2.St} {H : Hp} {Hs : Hp} {x : DV} {v : V} {Q : V → Hp → Prop}, Sim c W e h s H → Ra W H x v → (∀ a, H a = none → Hs a = none) → Post c (R Hs) e s W H (p x h) Q → r [v] H Q
section
variable {X : Cx} {c : Cn} {pos p1 : Pos} {a b : Expr} {ma mb : En → M DV} {x : Str} {id T : String} {r : List V → Hp → VK → Prop} {Ra : Wd → Hp → DV → V → Prop} {A : Type} {R : Rl A V} {p : DV → M A}
theorem one_use (hp : Prim1 c Ra R p r) {s : L2.St} {H : Hp} {Q : VK} (q : RX c R (fun e => ma e >>= p) s H Q) : tCB r (tCons (RX c (fun _ => Ra) ma) tNil) s H Q :=
  RX.bind (R2 := fun _ => Ra) (K := fun v H1 => r [v] H1 Q) q fun W e W1 H1 x v h1 t S rx q2 => hp.go S rx (fun a z => t.th a z) q2
theorem c_callB (hc : CallR X (.builtin id) r) (hp : Prim1 c Ra R p r) (hg : Gl X x) (hm : X.mg x = none) (hv : bootBuiltins x = some (.builtin id)) (ha : PE X a (RX c (fun _ => Ra) ma)) (hn : x ≠ "__name__" := by decide) (hdb : (x == ("__debug__" : Str)) = false := by decide)
    (he : starEach (a :: []) X.env = (false, eval a X.env) :: starEach [] X.env := by rfl) : PE X (.Call (.Name x p1) [a] [] pos) (RX c R (fun e => ma e >>= p)) :=
  pe_imp (pe_callB hc hg hm hv (pa_cons ha pa_nil he) hn hdb he rfl) fun s H Q q => one_use hp q
theorem c_callTy (hc : CallR X (.type T) r) (hp : Prim1 c Ra R p r) (hg : Gl X x) (hm : X.mg x = none) (hv : bootBuiltins x = some (.type T)) (ha : PE X a (RX c (fun _ => Ra) ma)) (hn : x ≠ "__name__" := by decide) (hdb : (x == ("__debug__" : Str)) = false := by decide)
    (he : starEach (a :: []) X.env = (false, eval a X.env) :: starEach [] X.env := by rfl) : PE X (.Call (.Name x p1) [a] [] pos) (RX c R (fun e => ma e >>= p)) :=
  pe_imp (pe_callTy hc hg hm hv (pa_cons ha pa_nil he) hn hdb he rfl) fun s H Q q => one_use hp q

/-! len, int, tuple, list, sum -/
def vLen (x : DV) : M DV := fun h => match x with
  | .str z => if z.length ≤ LN then .ok (.int z.length) h else .bad
  | _ => (match asS h x with
    | some l => .ok (.int l.length) h
    | none => .bad)
theorem prim_len {K : PySem.W.Frag} (hk : c.g.K = K) : Prim1 c (pB c) (rV c) vLen (fun xs H Q => ∃ x n, xs = [x] ∧ LenV K x H n ∧ Q (.int n) H) := by
  subst hk
  refine ⟨fun {W e h s H Hs x v Q} S rx nw q => ?_⟩
  have fin : Post c (rV c Hs) e s W H (match asS h x with
      | some l => .ok (.int l.length) h
      | none => .bad) Q → ∃ x n, [v] = [x] ∧ LenV c.g.K x H n ∧ Q (.int n) H := fun q => by
    cases z : asS h x with
    | none =>
      rw [z] at q
      exact q.elim
    | some l =>
      rw [z] at q
      obtain ⟨p, vs, e1, sq, rs⟩ := asS_ok S rx z
      refine ⟨v, vs.length, rfl, ?_, ?_⟩
      · subst e1
        rcases sq with sq | sq
        · exact .inl ⟨vs, sq, rfl⟩
        · exact .inr ⟨vs, sq, rfl⟩
      · rw [← rs.len]
        exact q.ret S (by simp only [rV, Rep])
  cases x with
  | str z =>
    have ez := str_ok rx
    have q1 : Post c (rV c Hs) e s W H (if z.length ≤ LN then .ok (.int z.length) h else .bad) Q := q
    split at q1
    · rename_i hz
      subst ez
      exact ⟨_, z.length, rfl, ⟨by rw [line_LN]; exact hz, rfl⟩, q1.ret S (by simp only [rV, Rep])⟩
    · exact q1.elim
  | _ => exact fin q
theorem c_len (hk : X.K = c.g.K) (hg : Gl X "len") (hm : X.mg "len" = none) (ha : PE X a (RB c ma)) (he : starEach (a :: []) X.env = (false, eval a X.env) :: starEach [] X.env := by rfl) : PE X (.Call (.Name "len" p1) [a] [] pos) (RE c (e1 vLen ma)) :=
  c_callB call_len (prim_len hk.symm) hg hm PySem.boot_len ha (by decide) (by decide) he
def vInt (x : DV) : M DV := match x with
  | .int i => pure (.int i)
  | .bl b => pure (.int (if b then 1 else 0))
  | _ => M.bad
theorem prim_int : Prim1 c (pV c) (rV c) vInt (fun xs H Q => (∃ i, xs = [.int i] ∧ Q (.int i) H) ∨ ∃ k, xs = [.bl k] ∧ Q (.int (if k then 1 else 0)) H) := by
  refine ⟨fun {W e h s H Hs x v Q} S rx nw q => ?_⟩
  unfold vInt at q
  split at q
  · simp only [pV, Rep] at rx
    subst rx
    exact .inl ⟨_, rfl, q.ret S (by simp only [rV, Rep])⟩
  · simp only [pV, Rep] at rx
    subst rx
    exact .inr ⟨_, rfl, q.ret S (by simp only [rV, Rep])⟩
  · exact q.elim
theorem c_intOf (hg : Gl X "int") (hm : X.mg "int" = none) (ha : PE X a (RE c ma)) (he : starEach (a :: []) X.env = (false, eval a X.env) :: starEach [] X.env := by rfl) : PE X (.Call (.Name "int" p1) [a] [] pos) (RE c (e1 vInt ma)) :=
  c_callTy call_int1 prim_int hg hm (by decide +kernel) ha (by decide) (by decide) he
def vTup (x : DV) : M DV := fun h => match asS h x with
  | some l => .ok (.tup l) h
  | none => .bad
theorem prim_tup {K : PySem.W.Frag} (hk : c.g.K = K) : Prim1 c (pB c) (rV c) vTup (fun xs H Q => ∃ p ys, xs = [.ref p] ∧ ((SqL K H p ys ∧ ∀ l, H l = none → Q (.ref l) (upd H l (.tup ys))) ∨ (SqT K H p ys ∧ Q (.ref p) H))) := by
  subst hk
  refine ⟨fun {W e h s H Hs x v Q} S rx nw q => ?_⟩
  unfold vTup at q
  cases z : asS h x with
  | none =>
    rw [z] at q
    exact q.elim
  | some l =>
    rw [z] at q
    obtain ⟨p, vs, e1, sq, rs⟩ := asS_ok S rx z
    subst e1
    rcases sq with sq | sq
    · exact ⟨p, vs, rfl, .inl ⟨sq, fun d hd => post_tup q S rs hd⟩⟩
    · refine ⟨p, vs, rfl, .inr ⟨sq, q.ret S ?_⟩⟩
      simp only [rV, Rep]
      exact ⟨p, vs, rfl, sq, rs⟩
theorem c_tupOf (hk : X.K = c.g.K) (hg : Gl X "tuple") (hm : X.mg "tuple" = none) (ha : PE X a (RB c ma)) (he : starEach (a :: []) X.env = (false, eval a X.env) :: starEach [] X.env := by rfl) : PE X (.Call (.Name "tuple" p1) [a] [] pos) (RE c (e1 vTup ma)) :=
  c_callTy call_tuple_of (prim_tup hk.symm) hg hm (by decide +kernel) ha (by decide) (by decide) he
def lLst (x : DV) : M (List DV) := fun h => match asS h x with
  | some l => .ok l h
  | none => .bad
theorem prim_lst {K : PySem.W.Frag} (hk : c.g.K = K) : Prim1 c (pB c) (rO c) lLst (fun xs H Q => ∃ p ys, xs = [.ref p] ∧ (SqL K H p ys ∨ SqT K H p ys) ∧ ∀ l, H l = none → Q (.ref l) (upd H l (.lst ys))) := by
  subst hk
  refine ⟨fun {W e h s H Hs x v Q} S rx nw q => ?_⟩
  unfold lLst at q
  cases z : asS h x with
  | none =>
    rw [z] at q
    exact q.elim
  | some l =>
    rw [z] at q
    obtain ⟨p, vs, e1, sq, rs⟩ := asS_ok S rx z
    subst e1
    exact ⟨p, vs, rfl, sq, fun d hd => post_own q S rs hd (nw d hd)⟩
theorem c_listOf (hk : X.K = c.g.K) (hg : Gl X "list") (hm : X.mg "list" = none) (ha : PE X a (RB c ma)) (he : starEach (a :: []) X.env = (false, eval a X.env) :: starEach [] X.env := by rfl) : PE X (.Call (.Name "list" p1) [a] [] pos) (RO c (fun e => ma e >>= lLst)) :=
  c_callTy call_list_of (prim_lst hk.symm) hg hm (by decide +kernel) ha (by decide) (by decide) he
def asInts : List DV → Option (List Int)
  | [] => some []
  | .int i :: r => (match asInts r with
    | some l => some (i :: l)
    | none => none)
  | _ => none
theorem asInts_map : ∀ {l : List DV} {ns : List Int}, asInts l = some ns → l = ns.map DV.int
  | [], ns, h => by
    have e : [] = ns := Option.some.inj h
    rw [← e]
    rfl
  | d :: r, ns, h => by
    cases d <;> first
      | (cases h; done)
      | (rename_i i
         have h2 : (match asInts r with
           | some l => some (i :: l)
           | none => none) = some ns := h
         cases z : asInts r with
         | none =>
           rw [z] at h2
           cases h2
         | some l =>
           rw [z] at h2
           have e : i :: l = ns := Option.some.inj h2
           rw [← e, asInts_map z]
           rfl)
theorem asInts_ints : ∀ ns : List Int, asInts (ns.map DV.int) = some ns
  | [] => rfl
  | n :: r => by
    show (match asInts (r.map DV.int) with
      | some l => some (n :: l)
      | none => none) = some (n :: r)
    rw [asInts_ints r]
theorem reps_ints_inv {g : Glue} {W : Wd} {H : Hp} : ∀ {ns : List Int} {vs : List V}, Reps g W H (ns.map DV.int) vs → vs = ns.map V.int
  | [], vs, r => by simpa only [List.map_nil, Reps] using r
  | n :: ns, vs, r => by
    simp only [List.map_cons, Reps] at r
    obtain ⟨v, r2, e1, h1, h2⟩ := r
    simp only [Rep] at h1
    rw [e1, h1, reps_ints_inv h2]
    rfl
def vSum (x : DV) : M DV := fun h => match asL h x with
  | some l => (match asInts l with
    | some ns => .ok (.int ns.sum) h
    | none => .bad)
  | none => .bad
theorem prim_sum {K : PySem.W.Frag} (hk : c.g.K = K) : Prim1 c (pB c) (rV c) vSum (rSum K) := by
  subst hk
  refine ⟨fun {W e h s H Hs x v Q} S rx nw q => ?_⟩
  unfold vSum at q
  cases z : asL h x with
  | none =>
    rw [z] at q
    exact q.elim
  | some l =>
    rw [z] at q
    have q1 : Post c (rV c Hs) e s W H (match asInts l with
      | some ns => .ok (.int ns.sum) h
      | none => .bad) Q := q
    cases z2 : asInts l with
    | none =>
      rw [z2] at q1
      exact q1.elim
    | some ns =>
      rw [z2] at q1
      obtain ⟨p, vs, e1, sq, rs⟩ := asL_ok S rx z
      rw [asInts_map z2] at rs
      have e2 := reps_ints_inv rs
      subst e1 e2
      exact ⟨p, ns, rfl, sq, q1.ret S (by simp only [rV, Rep])⟩
theorem c_sum (hk : X.K = c.g.K) (hc : X.calm = true) (hg : Gl X "sum") (hm : X.mg "sum" = none) (ha : PE X a (RB c ma)) (he : starEach (a :: []) X.env = (false, eval a X.env) :: starEach [] X.env := by rfl) : PE X (.Call (.Name "sum" p1) [a] [] pos) (RE c (e1 vSum ma)) :=
  c_callB (cr_sum hc) (prim_sum hk.symm) hg hm (by decide +kernel) ha (by decide) (by decide) he
/-- an own list, where it is only read -/
theorem c_oB {ms : En → M (List DV)} (h : PE X a (RO c ms)) : PE X a (RB c (eFrz ms)) := c_toB (c_frz h)

/-! ### two arguments: max, min -/
def vMax (x y : DV) : M DV := match x, y with
  | .int i, .int j => pure (.int (if j > i then j else i))
  | _, _ => M.bad
def vMin (x y : DV) : M DV := match x, y with
  | .int i, .int j => pure (.int (if j < i then j else i))
  | _, _ => M.bad
theorem c_max2 (hc : X.calm = true) (hg : Gl X "max") (hm : X.mg "max" = none) (ha : PE X a (RE c ma)) (hb : PE X b (RE c mb)) (he : starEach [a, b] X.env = (false, eval a X.env) :: starEach [b] X.env := by rfl) (he2 : starEach [b] X.env = (false, eval b X.env) :: starEach [] X.env := by rfl) (hpl : (backTo pos (starEach [b] X.env)).any (·.1) = false := by rfl) :
    PE X (.Call (.Name "max" p1) [a, b] [] pos) (RE c (e2 vMax ma mb)) := pe_imp (pe_callB (call_max2 hc) hg hm (by decide +kernel) (pa_cons ha (pa_cons hb pa_nil he2) he) (by decide) (by decide) he hpl) fun s H Q q =>
  RX.bind q fun W e W1 H1 x v h1 t S rx q2 => ⟨W1, e, h1, S, q2.bind fun W2 H2 y w h2 t2 S2 ry q3 => by
    have rx2 := stays_V.go S.hs t2 rx
    unfold vMax at q3
    split at q3
    · simp only [rV, Rep] at rx2 ry
      subst rx2 ry
      exact ⟨_, _, rfl, q3.ret S2 (by simp only [rV, Rep])⟩
    · exact q3.elim⟩
theorem c_min2 (hc : X.calm = true) (hg : Gl X "min") (hm : X.mg "min" = none) (ha : PE X a (RE c ma)) (hb : PE X b (RE c mb)) (he : starEach [a, b] X.env = (false, eval a X.env) :: starEach [b] X.env := by rfl) (he2 : starEach [b] X.env = (false, eval b X.env) :: starEach [] X.env := by rfl) (hpl : (backTo pos (starEach [b] X.env)).any (·.1) = false := by rfl) :
    PE X (.Call (.Name "min" p1) [a, b] [] pos) (RE c (e2 vMin ma mb)) := pe_imp (pe_callB (call_min2 hc) hg hm (by decide +kernel) (pa_cons ha (pa_cons hb pa_nil he2) he) (by decide) (by decide) he hpl) fun s H Q q =>
  RX.bind q fun W e W1 H1 x v h1 t S rx q2 => ⟨W1, e, h1, S, q2.bind fun W2 H2 y w h2 t2 S2 ry q3 => by
    have rx2 := stays_V.go S.hs t2 rx
    unfold vMin at q3
    split at q3
    · simp only [rV, Rep] at rx2 ry
      subst rx2 ry
      exact ⟨_, _, rfl, q3.ret S2 (by simp only [rV, Rep])⟩
    · exact q3.elim⟩

/-! ### isinstance of a built-in class -/
inductive Ty where
  | int | bool | str | none | tuple | list | dict
  deriving DecidableEq
def Ty.nm : Ty → String
  | .int => "int"
  | .bool => "bool"
  | .str => "str"
  | .none => "NoneType"
  | .tuple => "tuple"
  | .list => "list"
  | .dict => "dict"
def Ty.is (a b : Ty) : Bool := decide (a = b) || (decide (a = .bool) && decide (b = .int))
theorem kit_Ty (a b : Ty) : kitB a.nm b.nm = some (a.is b) := by
  cases a <;> cases b <;> decide +kernel
def tyD (h : HP) : DV → Option Ty
  | .non => some .none
  | .bl _ => some .bool
  | .int _ => some .int
  | .str _ => some .str
  | .tup _ => some .tuple
  | .lst _ => some .list
  | .scr _ => some .list
  | .dct _ _ => some .dict
  | .ref p => (match h[p]? with
    | some (.lst _) => some .list
    | _ => none)
  | _ => none
def vIsI (T : Ty) (x : DV) : M DV := fun h => match tyD h x with
  | some t => .ok (.bl (t.is T)) h
  | none => .bad
theorem tyX_of {W : Wd} {e : En} {h : HP} {s : L2.St} {H : Hp} {d : DV} {v : V} {t : Ty} (S : Sim c W e h s H) (r : RepB c.g W H d v) (a : tyD h d = some t) : TyX c.g.K H v (.type t.nm) := by
  rcases r with r | ⟨l, p, vs, e1, e2, e3, r, n⟩ | ⟨ks, l, p, vs, e1, e2, e3, z, r, n⟩
  · cases d with
    | non =>
      cases Option.some.inj a
      simp only [Rep] at r
      subst r
      exact .base .non
    | bl b =>
      cases Option.some.inj a
      simp only [Rep] at r
      subst r
      exact .base (.bl b)
    | int i =>
      cases Option.some.inj a
      simp only [Rep] at r
      subst r
      exact .base (.int i)
    | str z =>
      cases Option.some.inj a
      simp only [Rep] at r
      subst r
      exact .base (.str z)
    | tup l =>
      cases Option.some.inj a
      simp only [Rep] at r
      obtain ⟨p, vs, e1, sq, _⟩ := r
      subst e1
      rcases sq with (sq | ⟨o, sq⟩) | ⟨o, its, n, k1, k2, _⟩
      · exact .base (.tup sq)
      · exact .fTuple sq
      · exact .kTuple k1 k2
    | lst l =>
      cases Option.some.inj a
      simp only [Rep] at r
      obtain ⟨p, vs, e1, _, sq, _⟩ := r
      subst e1
      exact .base (.lst sq)
    | scr l =>
      cases Option.some.inj a
      simp only [Rep] at r
      obtain ⟨p, e1, sq⟩ := r
      subst e1
      rcases sq with ⟨o, sq⟩ | ⟨o, its, n, k1, k2, _⟩
      · exact .base (.frz sq)
      · exact .kList k1 k2
    | dct ks l =>
      cases Option.some.inj a
      simp only [Rep] at r
      obtain ⟨p, vs, e1, _, sq, _⟩ := r
      subst e1
      exact .base (.dK sq)
    | ref q =>
      have a2 : (match h[q]? with
        | some (.lst _) => some Ty.list
        | _ => none) = some t := a
      simp only [Rep] at r
      obtain ⟨p, e1, r⟩ := r
      cases z : h[q]? with
      | none =>
        rw [z] at a2
        cases a2
      | some o =>
        rw [z] at a2
        cases o with
        | lst m =>
          cases Option.some.inj a2
          obtain ⟨⟨vs, e3, _⟩, _⟩ := S.hs.o q _ p z r
          subst e1
          exact .base (.lst e3)
        | obj c l => cases a2
    | obj _ _ => cases a
    | fn _ => cases a
  · subst e1 e2
    cases Option.some.inj a
    exact .base (.lst e3)
  · subst e1 e2
    cases Option.some.inj a
    exact .base (.dK e3)
theorem c_isI (T : Ty) (hk : X.K = c.g.K) (hg : Gl X "isinstance") (hm : X.mg "isinstance" = none) {y : Str} {p2 : Pos} (hg2 : Gl X y) (hm2 : X.mg y = none) (hv2 : bootBuiltins y = some (.type T.nm)) (ha : PE X a (RB c ma))
    (he : starEach [a, .Name y p2] X.env = (false, eval a X.env) :: starEach [.Name y p2] X.env := by rfl) (hn : y ≠ "__name__" := by decide) (hd : (y == ("__debug__" : Str)) = false := by decide) :
    PE X (.Call (.Name "isinstance" p1) [a, .Name y p2] [] pos) (RE c (e1 (vIsI T) ma)) :=
  pe_imp (pe_callB call_isi hg hm (by decide +kernel) (pa_cons ha (pa_cons (pe_bltn (v := .ty T.nm) hg2 hm2 hv2 rfl hn hd) pa_nil) he) (by decide) (by decide) he rfl) fun s H Q q =>
    RX.bind q fun W e W1 H1 x v h1 t S rx q2 => by
      unfold vIsI at q2
      cases z : tyD h1 x with
      | none =>
        rw [z] at q2
        exact q2.elim
      | some u =>
        rw [z] at q2
        exact ⟨v, .ty T.nm, _, _, _, rfl, .ty _, hk ▸ tyX_of S rx z, kit_ty (kit_Ty u T), q2.ret S (by simp only [rV, Rep])⟩
end
end LM

/-! What is walked; targets; comprehensions. -/
namespace LM
open PySem L2

/-! ### what is walked -/
structure Wk (c : Cn) (W : Wd) (H : Hp) (J : It) (ds : List DV) : Prop where
  go : ∀ (W2 : Wd) (H2 : Hp), Per W H W2 H2 → ∀ (i : Nat) (d : DV), ds[i]? = some d → J.go i H2 ∧ ∀ x H3, J.yld i H2 x H3 →
    (H3 = H2 ∧ Rep c.g W2 H2 d x) ∨ (∃ T us l, d = .tup l ∧ x = .ref T ∧ H2 T = none ∧ H3 = upd H2 T (.tup us) ∧ Reps c.g W2 H2 l us)
  st : ∀ (W2 : Wd) (H2 : Hp), Per W H W2 H2 → J.stop ds.length H2
abbrev RI (c : Cn) (m : En → M (List DV)) : TI := RX c (fun _ W H ds J => Wk c W H J ds) m

section
variable {X : Cx} {c : Cn} {pos p1 : Pos} {a b tg : Expr} {ma mb : En → M DV}
theorem some_inj2 {A : Type} {x y : A} {o : Option A} (h : o = some x) (h2 : o = some y) : x = y := Option.some.inj (h.symm.trans h2)
theorem Per.sqL {K : PySem.W.Frag} {W W' : Wd} {H H' : Hp} {a : Addr} {xs : List V} (p : Per W H W' H') (f : (W.F a ∧ H a = some (.lst xs)) ∨ SqS K H a xs) : SqL K H' a xs := by
  rcases f with ⟨f, e⟩ | f
  · exact .of ((p.h a f).trans e)
  · exact (p.sqS f).l
/-- a list that stays -/
def LsF (K : PySem.W.Frag) (W : Wd) (H : Hp) (a : Addr) (xs : List V) : Prop := (W.F a ∧ H a = some (.lst xs)) ∨ SqS K H a xs
theorem wk_list {W : Wd} {H : Hp} {p : Addr} {vs : List V} {ds : List DV} (f : LsF c.g.K W H p vs) (r : Reps c.g W H ds vs) : Wk c W H (Itl c.g.K p) ds where
  go := fun W2 H2 pr i d e => by
    have sq : SqL c.g.K H2 p vs := pr.sqL f
    have r2 := r.per pr _ _
    obtain ⟨v, e2, rv⟩ := r2.get e
    refine ⟨⟨vs, v, sq, e2⟩, fun x H3 y => ?_⟩
    obtain ⟨h1, h2⟩ := y
    have : v = x := some_inj2 e2 (h2 vs sq)
    subst this
    exact .inl ⟨h1, rv⟩
  st := fun W2 H2 pr => ⟨vs, pr.sqL f, by rw [r.len]; exact Nat.le_refl _⟩
theorem wk_tup {W : Wd} {H : Hp} {p : Addr} {vs : List V} {ds : List DV} (f : SqT c.g.K H p vs) (r : Reps c.g W H ds vs) : Wk c W H (Itt c.g.K p) ds where
  go := fun W2 H2 pr i d e => by
    have sq : SqT c.g.K H2 p vs := pr.sqT f
    have r2 := r.per pr _ _
    obtain ⟨v, e2, rv⟩ := r2.get e
    refine ⟨⟨vs, v, sq, e2⟩, fun x H3 y => ?_⟩
    obtain ⟨h1, h2⟩ := y
    have : v = x := some_inj2 e2 (h2 vs sq)
    subst this
    exact .inl ⟨h1, rv⟩
  st := fun W2 H2 pr => ⟨vs, pr.sqT f, by rw [r.len]; exact Nat.le_refl _⟩
theorem rev_get {A : Type} (l : List A) {i : Nat} {d : A} (h : l.reverse[i]? = some d) : i < l.length ∧ l[l.length - 1 - i]? = some d := by
  have hi : i < l.length := by
    have q := (List.getElem?_eq_some_iff.mp h).1
    rwa [List.length_reverse] at q
  rw [List.getElem?_reverse hi] at h
  exact ⟨hi, h⟩
theorem wk_rev {W : Wd} {H : Hp} {p : Addr} {vs : List V} {ds : List DV} (f : LsF c.g.K W H p vs) (r : Reps c.g W H ds vs) : Wk c W H (Itv c.g.K p vs.length) ds.reverse where
  go := fun W2 H2 pr i d e => by
    have sq : SqL c.g.K H2 p vs := pr.sqL f
    obtain ⟨hi, e1⟩ := rev_get ds e
    have r2 := r.per pr _ _
    rw [r.len] at hi e1
    obtain ⟨v, e2, rv⟩ := r2.get e1
    refine ⟨⟨hi, vs, v, sq, e2⟩, fun x H3 y => ?_⟩
    obtain ⟨h1, h2⟩ := y
    have : v = x := some_inj2 e2 (h2 vs sq)
    subst this
    exact .inl ⟨h1, rv⟩
  st := fun W2 H2 pr => by
    show vs.length ≤ ds.reverse.length
    rw [List.length_reverse, r.len]
    exact Nat.le_refl _
theorem wk_revT {W : Wd} {H : Hp} {p : Addr} {vs : List V} {ds : List DV} (f : SqT c.g.K H p vs) (r : Reps c.g W H ds vs) : Wk c W H (RT.ItvT c.g.K p vs.length) ds.reverse where
  go := fun W2 H2 pr i d e => by
    have sq : SqT c.g.K H2 p vs := pr.sqT f
    obtain ⟨hi, e1⟩ := rev_get ds e
    have r2 := r.per pr _ _
    rw [r.len] at hi e1
    obtain ⟨v, e2, rv⟩ := r2.get e1
    refine ⟨⟨hi, vs, v, sq, e2⟩, fun x H3 y => ?_⟩
    obtain ⟨h1, h2⟩ := y
    have : v = x := some_inj2 e2 (h2 vs sq)
    subst this
    exact .inl ⟨h1, rv⟩
  st := fun W2 H2 pr => by
    show vs.length ≤ ds.reverse.length
    rw [List.length_reverse, r.len]
    exact Nat.le_refl _
def itS (d : DV) : M (List DV) := match d with
  | .tup l => pure l
  | .lst l => pure l
  | .scr l => pure (l.map .int)
  | _ => M.bad
theorem itS_ok {W : Wd} {e : En} {h : HP} {s : L2.St} {H : Hp} {d : DV} {v : V} {l : List DV} {h2 : HP} (S : Sim c W e h s H) (r : Rep c.g W H d v) (q : itS d h = .ok l h2) : h2 = h ∧ ∃ p vs, v = .ref p ∧ Reps c.g W H l vs ∧ ((∃ l2, d = .tup l2 ∧ SqT c.g.K H p vs) ∨ ((∀ l2, d ≠ .tup l2) ∧ LsF c.g.K W H p vs)) := by
  unfold itS at q
  split at q
  · cases q
    simp only [Rep] at r
    obtain ⟨p, vs, e1, sq, rs⟩ := r
    exact ⟨rfl, p, vs, e1, rs, .inl ⟨_, rfl, sq⟩⟩
  · cases q
    simp only [Rep] at r
    obtain ⟨p, vs, e1, f, sq, rs⟩ := r
    exact ⟨rfl, p, vs, e1, rs, .inr ⟨(fun _ z => by cases z), .inl ⟨f, sq⟩⟩⟩
  · cases q
    simp only [Rep] at r
    obtain ⟨p, e1, sq⟩ := r
    exact ⟨rfl, p, _, e1, reps_ints _, .inr ⟨(fun _ z => by cases z), .inr sq⟩⟩
  · cases q
def isTup : DV → Bool
  | .tup _ => true
  | _ => false
/-- what a value is tells which of two readings holds -/
theorem split_on {A B : Type} {R : Rl A B} {k : DV → M A} {s : L2.St} {H : Hp} {Q : B → Hp → Prop} {t1 t2 : Prop} (q : RX c R (fun e => ma e >>= k) s H Q)
    (f1 : ∀ W e h, Sim c W e h s H → (∀ d h1, ma e h = .ok d h1 → isTup d = true) → Post c (R H) e s W H ((ma e >>= k) h) Q → t1)
    (f2 : ∀ W e h, Sim c W e h s H → (∀ d h1, ma e h = .ok d h1 → isTup d = false) → Post c (R H) e s W H ((ma e >>= k) h) Q → t2) : t1 ∨ t2 := by
  obtain ⟨W, e, h, S, q⟩ := q
  cases z : ma e h with
  | ok d h1 =>
    cases z2 : isTup d with
    | true => exact .inl (f1 W e h S (fun d' h' e1 => by rw [z] at e1; cases e1; exact z2) q)
    | false => exact .inr (f2 W e h S (fun d' h' e1 => by rw [z] at e1; cases e1; exact z2) q)
  | exc x h1 => exact .inl (f1 W e h S (fun d' h' e1 => by rw [z] at e1; cases e1) q)
  | bad => exact .inl (f1 W e h S (fun d' h' e1 => by rw [z] at e1; cases e1) q)
theorem bind_at {A A2 B B2 : Type} {R : Wd → Hp → A → B → Prop} {m : M A2} {k : A2 → M A} {e : En} {s : L2.St} {W : Wd} {h : HP} {H : Hp} {Q : B → Hp → Prop} (p : Post c R e s W H ((m >>= k) h) Q) {R2 : Wd → Hp → A2 → B2 → Prop} {K : B2 → Hp → Prop}
    (f : ∀ W1 H1 a b h1, m h = .ok a h1 → Step W H W1 H1 → Sim c W1 e h1 s H1 → R2 W1 H1 a b → Post c R e s W1 H1 (k a h1) Q → K b H1) : Post c R2 e s W H (m h) K := by
  rw [M.bind_def] at p
  cases q : m h with
  | ok a h1 =>
    rw [q] at p
    exact fun W' H' b t S r => f W' H' a b h1 q t S r (p.later t)
  | exc x h1 =>
    rw [q] at p
    exact p
  | bad =>
    rw [q] at p
    exact p
theorem pi_or {ex : Expr} {w1 w2 : TI} (h1 : PI X tg ex w1) (h2 : PI X tg ex w2) : PI X tg ex (fun s H R => w1 s H R ∨ w2 s H R) := ⟨fun pins s σ H R I q => q.elim (h1.run pins s σ H R I) (h2.run pins s σ H R I)⟩
/-- a list or a tuple -/
theorem i_seq (hk : X.K = c.g.K) (ha : PE X a (RE c ma)) : PI X tg a (RI c (fun e => ma e >>= itS)) := pi_imp (pi_or (pi_tup ha) (pi_list ha)) fun s H R q => by
  refine split_on q (fun W e h S ht q => ⟨W, e, h, S, bind_at q fun W1 H1 d v h1 z t S1 r q2 => ?_⟩) (fun W e h S ht q => ⟨W, e, h, S, bind_at q fun W1 H1 d v h1 z t S1 r q2 => ?_⟩)
  · have hd := ht d h1 z
    cases d with
    | tup l =>
      simp only [Rep] at r
      obtain ⟨p, vs, e1, sq, rs⟩ := r
      refine ⟨p, e1, ⟨vs, hk ▸ sq⟩, ?_⟩
      rw [hk]
      exact q2.ret S1 (wk_tup sq rs)
    | _ => cases hd
  · have hd := ht d h1 z
    cases d with
    | lst l =>
      simp only [Rep] at r
      obtain ⟨p, vs, e1, f, sq, rs⟩ := r
      refine ⟨p, e1, ⟨vs, .of sq⟩, ?_⟩
      rw [hk]
      exact q2.ret S1 (wk_list (.inl ⟨f, sq⟩) rs)
    | scr l =>
      simp only [Rep] at r
      obtain ⟨p, e1, sq⟩ := r
      refine ⟨p, e1, ⟨_, hk ▸ sq.l⟩, ?_⟩
      rw [hk]
      exact q2.ret S1 (wk_list (.inr sq) (reps_ints l))
    | tup l => cases hd
    | _ => exact q2.elim
/-- reversed(a list or a tuple) -/
def itR (d : DV) : M (List DV) := itS d >>= fun l => pure l.reverse
theorem i_rev (hk : X.K = c.g.K) (hg : Gl X "reversed") (hm : X.mg "reversed" = none) (ha : PE X a (RE c ma)) (hs : starEach [a] X.env = (false, eval a X.env) :: starEach [] X.env := by rfl) : PI X tg (.Call (.Name "reversed" p1) [a] [] pos) (RI c (fun e => ma e >>= itR)) :=
  pi_imp (RT.pi_revA hg hm ha hs) fun s H R q => RX.bind q fun W e W1 H1 d v h1 t S1 r q2 => by
    cases d with
    | tup l =>
      simp only [Rep] at r
      obtain ⟨p, vs, e1, sq, rs⟩ := r
      refine ⟨p, vs, e1, .inr ⟨hk ▸ sq, ?_⟩⟩
      rw [hk]
      exact q2.ret S1 (wk_revT sq rs)
    | lst l =>
      simp only [Rep] at r
      obtain ⟨p, vs, e1, f, sq, rs⟩ := r
      refine ⟨p, vs, e1, .inl ⟨.of sq, ?_⟩⟩
      rw [hk]
      exact q2.ret S1 (wk_rev (.inl ⟨f, sq⟩) rs)
    | scr l =>
      simp only [Rep] at r
      obtain ⟨p, e1, sq⟩ := r
      refine ⟨p, _, e1, .inl ⟨hk ▸ sq.l, ?_⟩⟩
      rw [hk]
      exact q2.ret S1 (wk_rev (.inr sq) (reps_ints l))
    | _ => exact q2.elim
/-- range(n) -/
def rng (n : Nat) : List DV := (List.range n).map fun (k : Nat) => DV.int (k : Int)
def itN (d : DV) : M (List DV) := match d with
  | .int j => if decide (-16777216 ≤ j) && decide (j ≤ 16777216) then pure (rng j.toNat) else M.bad
  | _ => M.bad
theorem rng_get {n i : Nat} {d : DV} (h : (rng n)[i]? = some d) : i < n ∧ d = .int i := by
  unfold rng at h
  rw [List.getElem?_map] at h
  cases z : (List.range n)[i]? with
  | none =>
    rw [z] at h
    cases h
  | some k =>
    rw [z] at h
    have hi := (List.getElem?_eq_some_iff.mp z).1
    rw [List.length_range] at hi
    rw [List.getElem?_range hi] at z
    cases z
    exact ⟨hi, (Option.some.inj h).symm⟩
theorem rng_len (n : Nat) : (rng n).length = n := by
  unfold rng
  rw [List.length_map, List.length_range]
theorem wk_rng {W : Wd} {H : Hp} (n : Nat) : Wk c W H (Itr 0 n) (rng n) where
  go := fun W2 H2 pr i d e => by
    obtain ⟨h1, h2⟩ := rng_get e
    refine ⟨h1, fun x H3 y => ?_⟩
    obtain ⟨y1, y2⟩ := y
    subst h2 y2
    refine .inl ⟨y1, ?_⟩
    simp only [Rep, Int.zero_add]
  st := fun W2 H2 pr => by
    show n ≤ (rng n).length
    rw [rng_len]
    exact Nat.le_refl _
theorem i_rng (hg : Gl X "range") (hm : X.mg "range" = none) (ha : PE X a (RE c ma)) (hs : starEach [a] X.env = [(false, eval a X.env)] := by rfl) : PI X tg (.Call (.Name "range" p1) [a] [] pos) (RI c (fun e => ma e >>= itN)) :=
  pi_imp (pi_range1 hg hm (pa_cons ha pa_nil hs) hs) fun s H R q => RX.bind (K := fun v H1 => ∃ j : Int, [v] = [V.int j] ∧ -(2 ^ 62) ≤ j ∧ j < 2 ^ 62 ∧ R (Itr 0 j.toNat) H1) q fun W e W1 H1 d v h1 t S1 r q2 => by
    unfold itN at q2
    split at q2
    · rename_i j
      split at q2
      · rename_i hz
        simp only [Bool.and_eq_true, decide_eq_true_eq] at hz
        simp only [Rep] at r
        exact ⟨j, by rw [r], by omega, by omega, q2.ret S1 (wk_rng _)⟩
      · exact q2.elim
    · exact q2.elim
/-- zip of two lists, of two tuples -/
def zipD (l m : List DV) : List DV := List.zipWith (fun x y => .tup [x, y]) l m
def itZ (x y : DV) : M (List DV) := if isTup x == isTup y then itS x >>= fun l => itS y >>= fun m => pure (zipD l m) else M.bad
theorem zipD_get {l m : List DV} {i : Nat} {d : DV} (h : (zipD l m)[i]? = some d) : ∃ x y, l[i]? = some x ∧ m[i]? = some y ∧ d = .tup [x, y] := by
  unfold zipD at h
  rw [List.getElem?_zipWith] at h
  cases z : l[i]? with
  | none =>
    rw [z] at h
    cases h
  | some x =>
    cases z2 : m[i]? with
    | none =>
      rw [z, z2] at h
      cases h
    | some y =>
      rw [z, z2] at h
      exact ⟨x, y, rfl, rfl, (Option.some.inj h).symm⟩
theorem zipD_len (l m : List DV) : (zipD l m).length = min l.length m.length := by
  unfold zipD
  rw [List.length_zipWith]
theorem wk_zip {W : Wd} {H : Hp} {p q : Addr} {vs ws : List V} {ds es : List DV} (f : LsF c.g.K W H p vs) (f2 : LsF c.g.K W H q ws) (r : Reps c.g W H ds vs) (r2 : Reps c.g W H es ws) : Wk c W H (Itz c.g.K p q) (zipD ds es) where
  go := fun W2 H2 pr i d e => by
    have sq : SqL c.g.K H2 p vs := pr.sqL f
    have sq2 : SqL c.g.K H2 q ws := pr.sqL f2
    obtain ⟨x, y, e1, e2, e3⟩ := zipD_get e
    obtain ⟨v, g1, rv⟩ := (r.per pr _ _).get e1
    obtain ⟨w, g2, rw'⟩ := (r2.per pr _ _).get e2
    refine ⟨⟨vs, ws, v, w, sq, sq2, g1, g2⟩, fun z H3 yl => ?_⟩
    obtain ⟨T, x', y', h1, h2, h3, h4, h5⟩ := yl
    have q1 : v = x' := some_inj2 g1 (h4 vs sq)
    have q2 : w = y' := some_inj2 g2 (h5 ws sq2)
    subst q1 q2
    exact .inr ⟨T, _, _, e3, h1, h2, h3, .cons rv (.cons rw' .nil)⟩
  st := fun W2 H2 pr => by
    refine ⟨vs, ws, pr.sqL f, pr.sqL f2, ?_⟩
    rw [zipD_len, r.len, r2.len]
    omega
theorem wk_zipT {W : Wd} {H : Hp} {p q : Addr} {vs ws : List V} {ds es : List DV} (f : SqT c.g.K H p vs) (f2 : SqT c.g.K H q ws) (r : Reps c.g W H ds vs) (r2 : Reps c.g W H es ws) : Wk c W H (RZ.ItzT c.g.K p q) (zipD ds es) where
  go := fun W2 H2 pr i d e => by
    have sq : SqT c.g.K H2 p vs := pr.sqT f
    have sq2 : SqT c.g.K H2 q ws := pr.sqT f2
    obtain ⟨x, y, e1, e2, e3⟩ := zipD_get e
    obtain ⟨v, g1, rv⟩ := (r.per pr _ _).get e1
    obtain ⟨w, g2, rw'⟩ := (r2.per pr _ _).get e2
    refine ⟨⟨vs, ws, v, w, sq, sq2, g1, g2⟩, fun z H3 yl => ?_⟩
    obtain ⟨T, x', y', h1, h2, h3, h4, h5⟩ := yl
    have q1 : v = x' := some_inj2 g1 (h4 vs sq)
    have q2 : w = y' := some_inj2 g2 (h5 ws sq2)
    subst q1 q2
    exact .inr ⟨T, _, _, e3, h1, h2, h3, .cons rv (.cons rw' .nil)⟩
  st := fun W2 H2 pr => by
    refine ⟨vs, ws, pr.sqT f, pr.sqT f2, ?_⟩
    rw [zipD_len, r.len, r2.len]
    omega
theorem i_zip (hk : X.K = c.g.K) (hg : Gl X "zip") (hm : X.mg "zip" = none) {elts : List Expr} {kk : Nat} {tpos : Pos} (ha : PE X a (RE c ma)) (hb : PE X b (RE c mb)) (he : starEach [a, b] X.env = (false, eval a X.env) :: starEach [b] X.env := by rfl) (he2 : starEach [b] X.env = (false, eval b X.env) :: starEach [] X.env := by rfl) (hpl : (backTo pos (starEach [b] X.env)).any (·.1) = false := by rfl) :
    PI X (.Tuple elts kk tpos) (.Call (.Name "zip" p1) [a, b] [] pos) (RI c (fun e => ma e >>= fun x => mb e >>= fun y => itZ x y)) :=
  pi_imp (RZ.pi_zipA hg hm (pa_cons ha (pa_cons hb pa_nil he2) he) he hpl) fun s H R q => RX.bind q fun W e W1 H1 x v h1 t S rx q2 => ⟨W1, e, h1, S, q2.bind fun W2 H2 y w h2 t2 S2 ry q3 => by
    have rx2 := stays_V.go S.hs t2 rx
    unfold itZ at q3
    split at q3
    · rename_i hz
      rw [beq_iff_eq] at hz
      cases zx : itS x h2 with
      | bad =>
        rw [M.bind_def, zx] at q3
        exact q3.elim
      | exc z h3 =>
        unfold itS at zx
        split at zx <;> cases zx
      | ok l h3 =>
        rw [M.bind_def, zx] at q3
        obtain ⟨eh, p, vs, e1, rs, cx⟩ := itS_ok S2 rx2 zx
        subst eh
        have q4 : Post c (fun W H ds J => Wk c W H J ds) e s W2 H2 ((itS y >>= fun m => pure (zipD l m)) h3) R := q3
        cases zy : itS y h3 with
        | bad =>
          rw [M.bind_def, zy] at q4
          exact q4.elim
        | exc z h4 =>
          unfold itS at zy
          split at zy <;> cases zy
        | ok m h4 =>
          rw [M.bind_def, zy] at q4
          obtain ⟨eh, p2, ws, e2, rs2, cy⟩ := itS_ok S2 ry zy
          subst eh e1 e2
          rcases cx with ⟨l2, d1, sq⟩ | ⟨d1, sq⟩
          · rcases cy with ⟨l3, d2, sq2⟩ | ⟨d2, sq2⟩
            · refine ⟨p, p2, vs, ws, rfl, .inr ⟨hk ▸ sq, hk ▸ sq2, ?_⟩⟩
              rw [hk]
              exact q4.ret S2 (wk_zipT sq sq2 rs rs2)
            · exfalso
              subst d1
              cases y with
              | tup l => exact d2 l rfl
              | _ => cases hz
          · rcases cy with ⟨l3, d2, sq2⟩ | ⟨d2, sq2⟩
            · exfalso
              subst d2
              cases x with
              | tup l => exact d1 l rfl
              | _ => cases hz
            · have s1 : SqL c.g.K H2 p vs := Per.sqL (Per.refl W2 H2) sq
              have s2 : SqL c.g.K H2 p2 ws := Per.sqL (Per.refl W2 H2) sq2
              refine ⟨p, p2, vs, ws, rfl, .inl ⟨hk ▸ s1, hk ▸ s2, ?_⟩⟩
              rw [hk]
              exact q4.ret S2 (wk_zip sq sq2 rs rs2)
    · exact q3.elim⟩
end
end LM

/-! Targets; list comprehensions. -/
namespace LM
open PySem L2

def wipeE (e : En) : List Nat → En
  | [] => e
  | v :: vs => (wipeE e vs).set v .none
section
variable {c : Cn} {W : Wd} {e : En} {h : HP} {s : L2.St} {H : Hp}
theorem Sim.wipe (S : Sim c W e h s H) : ∀ vs : List Nat, Sim c W (wipeE e vs) h (wipe s vs) H
  | [] => S
  | v :: vs => (Sim.wipe S vs).gone
theorem Sim.wipe' (S : Sim c W e h s H) : ∀ vs : List Nat, Sim c W (wipeE e vs) h s H
  | [] => S
  | v :: vs => (Sim.wipe' S vs).gone'
def Cn.nx (c : Cn) : Cn := { c with x := fun _ _ _ _ => False }
def Cn.wx (c : Cn) (x : WX) : Cn := { c with x := x }
theorem Sim.wx {x : WX} (S : Sim c W e h s H) : Sim (c.wx x) W e h s H := ⟨S.hs, S.st, S.len, S.val, S.own, S.dic, S.ne, S.exn⟩
theorem Sim.ofWx {x : WX} (S : Sim (c.wx x) W e h s H) : Sim c W e h s H := ⟨S.hs, S.st, S.len, S.val, S.own, S.dic, S.ne, S.exn⟩
theorem Sim.nx (S : Sim c W e h s H) : Sim c.nx W e h s H := ⟨S.hs, S.st, S.len, S.val, S.own, S.dic, S.ne, S.exn⟩
theorem Sim.ofNx (S : Sim c.nx W e h s H) : Sim c W e h s H := ⟨S.hs, S.st, S.len, S.val, S.own, S.dic, S.ne, S.exn⟩
end
theorem wipe_get (s : L2.St) (k : Nat) : ∀ vs : List Nat, (wipe s vs)[k]? = if k ∈ vs then (if k < s.length then some none else none) else s[k]?
  | [] => by simp [wipe]
  | v :: vs => by
    unfold wipe
    by_cases hk : v = k
    · subst hk
      rw [List.getElem?_set_self', wipe_get s v vs, if_pos (List.mem_cons_self ..)]
      by_cases hl : v < s.length
      · rw [if_pos hl]
        by_cases hm : v ∈ vs
        · rw [if_pos hm]
          rfl
        · rw [if_neg hm, List.getElem?_eq_getElem hl]
          rfl
      · rw [if_neg hl]
        by_cases hm : v ∈ vs
        · rw [if_pos hm]
          rfl
        · rw [if_neg hm, List.getElem?_eq_none (by omega)]
          rfl
    · rw [List.getElem?_set_ne hk, wipe_get s k vs]
      have : (k ∈ v :: vs) = (k ∈ vs) := by
        rw [List.mem_cons, eq_iff_iff]
        exact ⟨fun q => q.elim (fun z => absurd z.symm hk) id, .inr⟩
      simp only [this]
theorem wipe_same {s s' : L2.St} {vs sl : List Nat} (hl : s'.length = (wipe s vs).length) (hf : ∀ k, k ∉ sl → s'[k]? = (wipe s vs)[k]?) (hs : ∀ k ∈ sl, k ∈ vs) : wipe s' vs = wipe s vs := by
  apply List.ext_getElem?
  intro k
  rw [wipe_length] at hl
  rw [wipe_get, wipe_get]
  by_cases hk : k ∈ vs
  · rw [if_pos hk, if_pos hk, hl]
  · rw [if_neg hk, if_neg hk, hf k fun z => hk (hs k z), wipe_get, if_neg hk]

/-! ### targets -/
abbrev RG (c : Cn) (t : DV → En → Option En) (sl : List Nat) : TG := fun v s H Q => ∃ W e h d, Sim c W e h s H ∧ Rep c.g W H d v ∧ match t d e with
  | some e' => ∀ s', Sim c W e' h s' H → s'.length = s.length → (∀ k, k ∉ sl → s'[k]? = s[k]?) → Q s' H
  | none => False
def tName (i : Nat) : DV → En → Option En := fun d e => some (e.set i (.val d))
def setAll : List Nat → List DV → En → En
  | i :: is, d :: ds, e => setAll is ds (e.set i (.val d))
  | _, _, e => e
def tTup (is : List Nat) : DV → En → Option En := fun d e => match d with
  | .tup l => if l.length = is.length then some (setAll is l e) else none
  | _ => none
section
variable {X : Cx} {c : Cn} {pos : Pos}
theorem pg_imp {tg : Expr} {t t' : TG} (h : PG X tg t) (f : ∀ v s H Q, t' v s H Q → t v s H Q) : PG X tg t' := ⟨fun pins s σ H v u Q I r q => h.run pins s σ H v u Q I r (f v σ H Q q)⟩
theorem pgs_imp {tg : List Expr} {t t' : TGs} (h : PGs X tg t) (f : ∀ v s H Q, t' v s H Q → t v s H Q) : PGs X tg t' := ⟨fun pins s σ H v u Q I r q => h.run pins s σ H v u Q I r (f v σ H Q q)⟩
theorem g_name {i : Nat} {x : Str} (hN : X.N.Nodup) (hi : X.N[i]? = some x) (hx : Loc X.env.scope x) (hf : X.fn x = true ∨ X.env.scope.names.lookup x = some .local := by first | exact .inl rfl | exact .inr rfl) : PG X (.Name x pos) (RG c (tName i) [i]) :=
  pg_imp (pg_name hN hi hx hf) fun v s H Q q => by
    obtain ⟨W, e, h, d, S, r, q⟩ := q
    exact q _ (S.set r) (List.length_set ..) fun k hk => List.getElem?_set_ne fun z => hk (by rw [z]; exact List.mem_cons_self ..)
abbrev RGs (c : Cn) (is : List Nat) : TGs := fun vs s H Q => ∃ W e h l, Sim c W e h s H ∧ Reps c.g W H l vs ∧ l.length = is.length ∧ ∀ s', Sim c W (setAll is l e) h s' H → s'.length = s.length → (∀ k, k ∉ is → s'[k]? = s[k]?) → Q s' H
theorem gs_nil : PGs X [] (RGs c []) := pgs_imp pgs_nil fun vs s H Q q => by
  obtain ⟨W, e, h, l, S, r, hl, q⟩ := q
  cases l with
  | nil =>
    simp only [Reps] at r
    exact ⟨r, q s S rfl fun _ _ => rfl⟩
  | cons d ds => cases hl
theorem gs_cons {i : Nat} {is : List Nat} {x : Str} {es : List Expr} (hN : X.N.Nodup) (hi : X.N[i]? = some x) (hx : Loc X.env.scope x) (h2 : PGs X es (RGs c is)) (hf : X.fn x = true ∨ X.env.scope.names.lookup x = some .local := by first | exact .inl rfl | exact .inr rfl)
    (hs : (assignEach (.Name x pos :: es) X.env).map (·.2) = assign (.Name x pos) X.env :: (assignEach es X.env).map (·.2) := by rfl) : PGs X (.Name x pos :: es) (RGs c (i :: is)) :=
  pgs_imp (pgs_cons (pg_name hN hi hx hf) h2 hs) fun vs s H Q q => by
    obtain ⟨W, e, h, l, S, r, hl, q⟩ := q
    cases l with
    | nil => cases hl
    | cons d ds =>
      simp only [Reps] at r
      obtain ⟨v, vr, e1, r1, r2⟩ := r
      refine ⟨v, vr, e1, W, _, h, ds, S.set r1, r2, Nat.succ.inj hl, fun s' S' h1 h2 => q s' S' ?_ fun k hk => ?_⟩
      · rw [h1, List.length_set]
      · rw [List.mem_cons, not_or] at hk
        rw [h2 k hk.2, List.getElem?_set_ne (Ne.symm hk.1)]
theorem g_tup {es : List Expr} {k : Nat} {is : List Nat} (hk : X.K = c.g.K) (hc : X.calm = true) (h : PGs X es (RGs c is)) (hn : (assignEach es X.env).length = is.length := by rfl) (hst : (assignEach es X.env).findIdx? (·.1) = none := by rfl) :
    PG X (.Tuple es k pos) (RG c (tTup is) is) := pg_imp (pg_tup hc h hn hst) fun v s H Q q => by
  obtain ⟨W, e, h, d, S, r, q⟩ := q
  cases d with
  | tup l =>
    simp only [Rep] at r
    obtain ⟨a, vs, e1, sq, rs⟩ := r
    have q1 : (match (if l.length = is.length then some (setAll is l e) else none) with
      | some e' => ∀ s', Sim c W e' h s' H → s'.length = s.length → (∀ k, k ∉ is → s'[k]? = s[k]?) → Q s' H
      | none => False) := q
    by_cases hl : l.length = is.length
    · rw [if_pos hl] at q1
      exact ⟨a, vs, e1, hk ▸ sq, by rw [← rs.len]; exact hl, W, e, h, l, S, rs, hl, q1⟩
    · rw [if_neg hl] at q1
      exact q1.elim
  | _ => exact q.elim
end

/-! ### [e for x in xs if t] -/
def noX {A : Type} (m : M A) : M A := fun h => match m h with
  | .ok a h' => .ok a h'
  | _ => .bad
def lcL (t : DV → En → Option En) (mt : En → M Bool) (me : En → M DV) (e : En) : List DV → M (List DV)
  | [] => pure []
  | d :: ds => match t d e with
    | none => M.bad
    | some e1 => mt e1 >>= fun b => if b then me e1 >>= fun x => lcL t mt me e ds >>= fun r => pure (x :: r) else lcL t mt me e ds
def mLc (vs : List Nat) (mi : En → M (List DV)) (t : DV → En → Option En) (mt : En → M Bool) (me : En → M DV) : En → M (List DV) := fun e => mi e >>= fun ds => if ds.length ≤ LN then noX (lcL t mt me (wipeE e vs) ds) else M.bad
def mYes : En → M Bool := fun _ => pure true
section
variable {X : Cx} {c : Cn} {pos : Pos}
theorem pts_imp {ifs : List Expr} {t t' : TT} (h : PTs X ifs t) (f : ∀ s H Q, t' s H Q → t s H Q) : PTs X ifs t' := ⟨fun pins s σ H Q I q => h.run pins s σ H Q I (f σ H Q q)⟩
theorem ts_nil : PTs X [] (RT c mYes) := pts_imp pts_nil fun s H Q q => by
  obtain ⟨W, e, h, S, q⟩ := q
  exact q.ret S rfl
theorem ts_one {e : Expr} {mt : En → M Bool} (h : PT X e (RT c mt)) : PTs X [e] (RT c mt) := pts_one h
theorem own_chg {g : Glue} {W : Wd} {h : HP} {H : Hp} {D : Addr} {o o' : HO} (S : HSim g W h H) (e : H D = some o) (n1 : ¬ W.F D) (n2 : D ∉ W.r) (k1 : ∀ xs, o ≠ .tup xs) (k2 : ∀ a u, o ≠ .frz a u) : Per W H W (upd H D o') ∧ HSim g W h (upd H D o') := by
  have pr : Per W H W (upd H D o') := ⟨fun _ f => f, fun _ _ e => e, fun a f => upd_ne fun z => n1 (z ▸ f), fun a xs q => by
    rw [upd_ne fun z => ?_]
    · exact q
    · subst z
      rw [e] at q
      exact k1 xs (Option.some.inj q), fun a u w q => by
    rw [upd_ne fun z => ?_]
    · exact q
    · subst z
      rw [e] at q
      exact k2 u w (Option.some.inj q)⟩
  refine ⟨pr, S.len, S.nd, fun p ob a e1 e2 => ?_, fun a f => ?_⟩
  · obtain ⟨r, n⟩ := S.o p ob a e1 e2
    have hne : a ≠ D := fun z => n2 (z ▸ List.mem_of_getElem? e2)
    refine ⟨?_, n⟩
    cases ob with
    | lst l =>
      obtain ⟨vs, e3, r3⟩ := r
      exact ⟨vs, by rw [upd_ne hne]; exact e3, r3.per pr _ _⟩
    | obj c l =>
      obtain ⟨dx, vs, e3, e4, r3⟩ := r
      exact ⟨dx, vs, by rw [upd_ne hne]; exact e3, e4, r3.per pr _ _⟩
  · obtain ⟨u, e1⟩ := S.fs a f
    by_cases z : a = D
    · exact ⟨o', by rw [z, upd_same]⟩
    · exact ⟨u, by rw [upd_ne z]; exact e1⟩
/-- the heap at the start had no D: D may be changed -/
theorem Step.chg {W1 W : Wd} {H1 H : Hp} {D : Addr} {o' : HO} (t : Step W1 H1 W H) (hD : H1 D = none) : Step W1 H1 W (upd H D o') :=
  ⟨t.f, t.r, fun a o e n => by rw [upd_ne (ne_of_none e hD)]; exact t.k a o e n, fun a e => by
    by_cases z : a = D
    · rw [z]
      exact hD
    · rw [upd_ne z] at e
      exact t.th a e, t.nf, t.nr⟩
theorem lc_use {mi : En → M (List DV)} {t : DV → En → Option En} {mt : En → M Bool} {me : En → M DV} {vs sl : List Nat} (hsl : ∀ k ∈ sl, k ∈ vs) {s : L2.St} {H : Hp} {Q : VK} (q : RO c (mLc vs mi t mt me) s H Q) :
    tLc (RI c mi) (RG c.nx t sl) (RT c.nx mt) (RE c.nx me) vs s H Q := by
  obtain ⟨W, e, h0, S0, q⟩ := q
  refine ⟨W, e, h0, S0, bind_at q fun W1 H1 ds J h1 z t1 S1 wk q2 D hD => ?_⟩
  by_cases hz : ds.length ≤ LN
  rotate_left
  · rw [if_neg hz] at q2
    exact q2.elim
  rw [if_pos hz] at q2
  -- what the rest of the walk gives
  let PL : HP → Nat → List DV → Prop := fun hc i acc => match lcL t mt me (wipeE e vs) (ds.drop i) hc with
    | .ok r h' => Post c (rO c H) e s W1 H1 (Res.ok (acc ++ r) h') Q
    | _ => False
  let In : Nat → Nat → Hp → Prop := fun i m Hc => m = ds.length - i ∧ i ≤ ds.length ∧ ∃ Wc hc acc av, Step W1 H1 Wc Hc ∧ HSim c.g Wc hc Hc ∧ Hc D = some (.lst av) ∧ Reps c.g Wc Hc acc av ∧ acc.length ≤ i ∧ ¬ Wc.F D ∧ D ∉ Wc.r ∧ PL hc i acc
  refine ⟨In, ⟨ds.length, rfl, Nat.zero_le _, W1, h1, [], [], ?_, ?_, upd_same, .nil, Nat.le_refl _, not_F S1.hs hD, not_r S1.hs hD, ?_⟩, ?_⟩
  · exact Step.new hD
  · exact S1.hs.new hD ((Step.new hD).per S1.hs)
  · show (match lcL t mt me (wipeE e vs) (ds.drop 0) h1 with
      | .ok r h' => Post c (rO c H) e s W1 H1 (Res.ok ([] ++ r) h') Q
      | _ => False)
    rw [List.drop_zero]
    have q3 : Post c (rO c H) e s W1 H1 (noX (lcL t mt me (wipeE e vs) ds) h1) Q := q2
    unfold noX at q3
    cases z2 : lcL t mt me (wipeE e vs) ds h1 with
    | ok r h' =>
      rw [z2] at q3
      exact q3
    | exc x h' =>
      rw [z2] at q3
      exact q3
    | bad =>
      rw [z2] at q3
      exact q3
  · rintro i m Hc ⟨em, hi, Wc, hc, acc, av, tc, sc, eD, ra, la, nF, nR, pl⟩
    have pc : Per W1 H1 Wc Hc := tc.per S1.hs
    by_cases hlt : i < ds.length
    rotate_left
    · have ei : i = ds.length := by omega
      subst ei
      left
      refine ⟨wk.st Wc Hc pc, ?_⟩
      have pl2 : (match lcL t mt me (wipeE e vs) (ds.drop ds.length) hc with
        | .ok r h' => Post c (rO c H) e s W1 H1 (Res.ok (acc ++ r) h') Q
        | _ => False) := pl
      rw [List.drop_length] at pl2
      have pl3 : Post c (rO c H) e s W1 H1 (Res.ok (acc ++ []) hc) Q := pl2
      rw [List.append_nil] at pl3
      exact pl3 Wc Hc (.ref D) tc (S1.step tc sc) ⟨D, av, rfl, eD, ra, nF, nR, t1.th D hD⟩
    · right
      obtain ⟨d, ed⟩ : ∃ d, ds[i]? = some d := ⟨_, List.getElem?_eq_getElem hlt⟩
      obtain ⟨g1, g2⟩ := wk.go Wc Hc pc i d ed
      refine ⟨g1, fun H' => In (i + 1) (ds.length - (i + 1)) H', fun H' z => ⟨_, by omega, z⟩, fun x H' y => ?_⟩
      -- the item, in the heap in which it comes
      have item : Step Wc Hc Wc H' ∧ HSim c.g Wc hc H' ∧ Rep c.g Wc H' d x ∧ H' D = some (.lst av) := by
        rcases g2 x H' y with ⟨e1, r⟩ | ⟨T, us, l, e1, e2, hT, e3, r⟩
        · subst e1
          exact ⟨Step.refl _ _, sc, r, eD⟩
        · subst e1 e2 e3
          have tn : Step Wc Hc Wc (upd Hc T (.tup us)) := Step.new hT
          have pn := tn.per sc
          refine ⟨tn, sc.new hT pn, ?_, ?_⟩
          · simp only [Rep]
            exact ⟨T, us, rfl, .inl (.inl upd_same), r.per pn _ _⟩
          · rw [upd_ne (ne_of_none eD hT)]
            exact eD
      obtain ⟨t2, s2, rd, eD2⟩ := item
      have S2 : Sim c Wc e hc s H' := S1.step (tc.trans t2) s2
      have pl2 : (match lcL t mt me (wipeE e vs) (ds.drop i) hc with
        | .ok r h' => Post c (rO c H) e s W1 H1 (Res.ok (acc ++ r) h') Q
        | _ => False) := pl
      have ed2 : ds.drop i = d :: ds.drop (i + 1) := by
        rw [List.drop_eq_getElem_cons hlt]
        congr 1
        rw [List.getElem?_eq_getElem hlt] at ed
        exact Option.some.inj ed
      rw [ed2] at pl2
      refine ⟨Wc, wipeE e vs, hc, d, (S2.wipe vs).nx, rd, ?_⟩
      cases zt : t d (wipeE e vs) with
      | none =>
        unfold lcL at pl2
        rw [zt] at pl2
        exact pl2.elim
      | some e1 =>
        unfold lcL at pl2
        rw [zt] at pl2
        intro s' S3 hl hf
        refine ⟨wipe_same hl hf hsl, Wc, e1, hc, S3, ?_⟩
        have pl3 : (match ((mt e1 >>= fun b => if b then me e1 >>= fun x => lcL t mt me (wipeE e vs) (ds.drop (i + 1)) >>= fun r => pure (x :: r) else lcL t mt me (wipeE e vs) (ds.drop (i + 1))) hc) with
          | .ok r h' => Post c (rO c H) e s W1 H1 (Res.ok (acc ++ r) h') Q
          | _ => False) := pl2
        rw [M.bind_def] at pl3
        cases zm : mt e1 hc with
        | bad =>
          rw [zm] at pl3
          exact pl3.elim
        | exc x h' =>
          rw [zm] at pl3
          exact pl3.elim
        | ok b h3 =>
          rw [zm] at pl3
          intro W3 H3 b' t3 S4 eb
          have eb : b' = b := eb
          subst eb
          have eD3 : H3 D = some (.lst av) := t3.k D _ eD2 nR
          have nF3 := notF t3 eD2 nF (fun fs w => by cases w)
          have nR3 := notR t3 eD2 nR
          have t13 : Step W1 H1 W3 H3 := (tc.trans t2).trans t3
          have ra3 : Reps c.g W3 H3 acc av := (ra.per (t2.per sc) _ _).per (t3.per s2) _ _
          cases b' with
          | false =>
            refine iteF ⟨rfl, by omega, W3, h3, acc, av, t13, S4.hs, eD3, ra3, by omega, nF3, nR3, ?_⟩
            exact pl3
          | true =>
            refine iteT ⟨W3, e1, h3, S4, ?_⟩
            have pl4 : (match ((me e1 >>= fun x => lcL t mt me (wipeE e vs) (ds.drop (i + 1)) >>= fun r => pure (x :: r)) h3) with
              | .ok r h' => Post c (rO c H) e s W1 H1 (Res.ok (acc ++ r) h') Q
              | _ => False) := pl3
            rw [M.bind_def] at pl4
            cases ze : me e1 h3 with
            | bad =>
              rw [ze] at pl4
              exact pl4.elim
            | exc x h' =>
              rw [ze] at pl4
              exact pl4.elim
            | ok dx h4 =>
              rw [ze] at pl4
              intro W4 H4 yv t4 S5 ry
              have eD4 : H4 D = some (.lst av) := t4.k D _ eD3 nR3
              have nF4 := notF t4 eD3 nF3 (fun fs w => by cases w)
              have nR4 := notR t4 eD3 nR3
              have ra4 : Reps c.g W4 H4 acc av := ra3.per (t4.per S4.hs) _ _
              obtain ⟨p5, s5⟩ := own_chg (o' := .lst (av ++ [yv])) S5.hs eD4 nF4 nR4 (fun _ z => by cases z) (fun _ _ z => by cases z)
              refine ⟨av, eD4, ?_, rfl, by omega, W4, h4, acc ++ [dx], av ++ [yv], (t13.trans t4).chg hD, s5, upd_same, (ra4.per p5 _ _).app (.cons (Rep.per p5 _ _ ry) .nil), ?_, nF4, nR4, ?_⟩
              · rw [← ra.len, line_LN]
                show acc.length < LN
                omega
              · rw [List.length_append]
                show acc.length + 1 ≤ i + 1
                omega
              · have pl5 : (match ((lcL t mt me (wipeE e vs) (ds.drop (i + 1)) >>= fun r => pure (dx :: r)) h4) with
                  | .ok r h' => Post c (rO c H) e s W1 H1 (Res.ok (acc ++ r) h') Q
                  | _ => False) := pl4
                rw [M.bind_def] at pl5
                show (match lcL t mt me (wipeE e vs) (ds.drop (i + 1)) h4 with
                  | .ok r h' => Post c (rO c H) e s W1 H1 (Res.ok ((acc ++ [dx]) ++ r) h') Q
                  | _ => False)
                cases zr : lcL t mt me (wipeE e vs) (ds.drop (i + 1)) h4 with
                | bad =>
                  rw [zr] at pl5
                  exact pl5
                | exc x h' =>
                  rw [zr] at pl5
                  exact pl5
                | ok r h5 =>
                  rw [zr] at pl5
                  have pl6 : Post c (rO c H) e s W1 H1 (Res.ok (acc ++ (dx :: r)) h5) Q := pl5
                  show Post c (rO c H) e s W1 H1 (Res.ok ((acc ++ [dx]) ++ r) h5) Q
                  rw [List.append_assoc]
                  exact pl6
theorem c_lc {elt tg iter : Expr} {ifs : List Expr} {scope : Scope} {own : List (Str × Nat)} {mi : En → M (List DV)} {t : DV → En → Option En} {mt : En → M Bool} {me : En → M DV} {sl : List Nat} (hc : X.calm = true) (hN : X.N.Nodup) (hi : PI X tg iter (RI c mi)) (ok : BlkOk X.N X.env.scope scope own)
    (hg : ∀ (s : Shared) (H : Hp) (C : Addr) (cl : List (Str × Addr)) (fp : List Addr), PG (X.blk s H scope (compEnvC scope cl C X.env) fp) tg (RG c.nx t sl)) (ht : ∀ (s : Shared) (H : Hp) (C : Addr) (cl : List (Str × Addr)) (fp : List Addr), PTs (X.blk s H scope (compEnvC scope cl C X.env) fp) ifs (RT c.nx mt))
    (he : ∀ (s : Shared) (H : Hp) (C : Addr) (cl : List (Str × Addr)) (fp : List Addr), PE (X.blk s H scope (compEnvC scope cl C X.env) fp) elt (RE c.nx me)) (hsl : ∀ k ∈ sl, k ∈ own.map (·.2) := by decide) (hs : ∀ x, foldedSetIterable iter X.env x = pure x := by intro _; rfl) :
    PE X (.ListComp elt [⟨tg, iter, ifs, 0⟩] scope pos) (RO c (mLc (own.map (·.2)) mi t mt me)) := pe_imp (pe_lc hc hN hi ok hg ht he hs) fun s H Q q => lc_use hsl q
end
end LM

/-! Statements; defs. -/
namespace LM
open PySem L2

inductive SRes where
  | nx (e : En) (h : HP)
  | rt (d : DV) (h : HP)
  | bk (e : En) (h : HP)
  | ct (e : En) (h : HP)
  | exc (x : Ex) (e : En) (h : HP)
  | bad
abbrev Stm := En → HP → SRes
def PostS (c : Cn) (W : Wd) (H : Hp) (r : SRes) (D : Ends) : Prop := match r with
  | .nx e' h' => ∀ W' s' H', Per W H W' H' → Sim c W' e' h' s' H' → D.nx s' H'
  | .bk e' h' => ∀ W' s' H', Per W H W' H' → Sim c W' e' h' s' H' → D.bk s' H'
  | .ct e' h' => ∀ W' s' H', Per W H W' H' → Sim c W' e' h' s' H' → D.ct s' H'
  | .rt d h' => ∀ W' H' v, Step c.W0 c.H0 W' H' → HSim c.g W' h' H' → Rep c.g W' H' d v → D.rt v H'
  | .exc x e' h' => ∀ W' s' H' cls dd, Per W H W' H' → Sim c W' e' h' s' H' → XRep c.g W' H' x cls dd → c.x cls dd s' H'
  | .bad => False
def RS (c : Cn) (m : Stm) : TS := fun D s H => ∃ W e h, Sim c W e h s H ∧ PostS c W H (m e h) D
theorem PostS.later {c : Cn} {W W1 : Wd} {H H1 : Hp} {r : SRes} {D : Ends} (q : PostS c W H r D) (p : Per W H W1 H1) : PostS c W1 H1 r D := by
  cases r with
  | nx e h => exact fun W' s' H' p' => q W' s' H' (p.trans p')
  | bk e h => exact fun W' s' H' p' => q W' s' H' (p.trans p')
  | ct e h => exact fun W' s' H' p' => q W' s' H' (p.trans p')
  | rt d h => exact q
  | exc x e h => exact fun W' s' H' cls dd p' => q W' s' H' cls dd (p.trans p')
  | bad => exact q
def sBind {A : Type} (m : En → M A) (k : A → Stm) : Stm := fun e h => match m e h with
  | .ok a h' => k a e h'
  | .exc x h' => .exc x e h'
  | .bad => .bad
theorem sb_at {A B : Type} {c : Cn} {m : En → M A} {k : A → Stm} {W : Wd} {e : En} {h : HP} {s : L2.St} {H : Hp} {D : Ends} (S : Sim c W e h s H) (q : PostS c W H (sBind m k e h) D) {R : Rl A B} {K : B → Hp → Prop}
    (f : ∀ W1 H1 a b h1, Step W H W1 H1 → Sim c W1 e h1 s H1 → R H W1 H1 a b → PostS c W1 H1 (k a e h1) D → K b H1) : Post c (R H) e s W H (m e h) K := by
  unfold sBind at q
  cases z : m e h with
  | ok a h1 =>
    rw [z] at q
    exact fun W' H' b t S' r => f W' H' a b h1 t S' r (q.later (t.per S.hs))
  | exc x h1 =>
    rw [z] at q
    exact fun W' H' cls dd t S' r => q W' s H' cls dd (t.per S.hs) S' r
  | bad =>
    rw [z] at q
    exact q
theorem sb_use {A B : Type} {c : Cn} {m : En → M A} {k : A → Stm} {s : L2.St} {H : Hp} {D : Ends} (q : RS c (sBind m k) D s H) {R : Rl A B} {K : B → Hp → Prop}
    (f : ∀ W e W1 H1 a b h1, Step W H W1 H1 → Sim c W1 e h1 s H1 → R H W1 H1 a b → PostS c W1 H1 (k a e h1) D → K b H1) : RX c R m s H K := by
  obtain ⟨W, e, h, S, q⟩ := q
  exact ⟨W, e, h, S, sb_at S q fun W1 H1 a b h1 t S1 r q2 => f W e W1 H1 a b h1 t S1 r q2⟩
theorem PostS.nx {c : Cn} {W : Wd} {e : En} {h : HP} {s : L2.St} {H : Hp} {D : Ends} (q : PostS c W H (.nx e h) D) (S : Sim c W e h s H) : D.nx s H := q W s H (Per.refl _ _) S

/-! ### own slots -/
section
variable {c : Cn} {W : Wd} {e : En} {h : HP} {s : L2.St} {H : Hp} {i : Nat} {a : Addr}
/-- what a slot owns, at a -/
def Own (c : Cn) (W : Wd) (H : Hp) (x : Slot) (a : Addr) : Prop := (match x with
  | .own l => ∃ vs, H a = some (.lst vs) ∧ Reps c.g W H l vs
  | .dic ks l => ∃ vs, H a = some (.dK ((ks.map Sum.inl).zip vs)) ∧ ks.length = vs.length ∧ Reps c.g W H l vs
  | _ => False) ∧ ¬ W.F a ∧ a ∉ W.r ∧ c.H0 a = none
theorem Sim.ownAt {x : Slot} (S : Sim c W e h s H) (e1 : e[i]? = some x) (o : x.isOwn = true) : ∃ a, s[i]? = some (some (.ref a)) ∧ Own c W H x a := by
  cases x with
  | own l =>
    obtain ⟨a, vs, e2, e3, r, n⟩ := S.own i l e1
    exact ⟨a, e2, ⟨vs, e3, r⟩, n⟩
  | dic ks l =>
    obtain ⟨a, vs, e2, e3, z, r, n⟩ := S.dic i ks l e1
    exact ⟨a, e2, ⟨vs, e3, z, r⟩, n⟩
  | none => cases o
  | exn y => cases o
  | val d => cases o
/-- slot i holds what it owns, all else as it was -/
theorem Sim.owned {W' : Wd} {H' : Hp} {x : Slot} {s' : L2.St} (S : Sim c W e h s H) (hs : HSim c.g W' h H') (st : Step c.W0 c.H0 W' H') (p : Per W H W' H') (ho : ∀ b o, H b = some o → b ≠ a → H' b = some o) (hf : ∀ b, W'.F b → W.F b) (hr : W'.r = W.r) (o : Own c W' H' x a) (hx : x.isOwn = true)
    (hn : ∀ (j : Nat) (y : Slot), j ≠ i → e[j]? = some y → y.isOwn = true → s[j]? ≠ some (some (.ref a))) (hl : s'.length = s.length) (h1 : i < s.length → s'[i]? = some (some (.ref a))) (h2 : ∀ j, j ≠ i → s'[j]? = s[j]?) : Sim c W' (e.set i x) h s' H' := by
  have at_i : ∀ y, (e.set i x)[i]? = some y → y = x ∧ s'[i]? = some (some (.ref a)) := fun y e1 => by
    have hi : i < e.length := by
      have q := (List.getElem?_eq_some_iff.mp e1).1
      rwa [List.length_set] at q
    rw [List.getElem?_set_self hi] at e1
    exact ⟨(Option.some.inj e1).symm, h1 (by rw [← S.len]; exact hi)⟩
  refine ⟨hs, st, by rw [List.length_set, hl]; exact S.len, fun j d e1 => ?_, fun j l e1 => ?_, fun j ks l e1 => ?_, fun j k b y z e1 o1 e2 o2 e3 e4 => ?_, fun j y e1 => ?_⟩
  · by_cases hj : j = i
    · subst hj
      obtain ⟨q, _⟩ := at_i _ e1
      rw [← q] at hx
      cases hx
    · rw [List.getElem?_set_ne (Ne.symm hj)] at e1
      obtain ⟨v, e2, r⟩ := S.val j d e1
      exact ⟨v, by rw [h2 j hj, e2], r.per p _ _⟩
  · by_cases hj : j = i
    · subst hj
      obtain ⟨q, q2⟩ := at_i _ e1
      subst q
      obtain ⟨⟨vs, o1, o2⟩, o3⟩ := o
      exact ⟨a, vs, q2, o1, o2, o3⟩
    · rw [List.getElem?_set_ne (Ne.symm hj)] at e1
      obtain ⟨b, vs, e2, e3, r, n1, n2, n3⟩ := S.own j l e1
      have hb : b ≠ a := fun z => hn j _ hj e1 rfl (z ▸ e2)
      exact ⟨b, vs, by rw [h2 j hj, e2], ho b _ e3 hb, r.per p _ _, fun f => n1 (hf b f), by rw [hr]; exact n2, n3⟩
  · by_cases hj : j = i
    · subst hj
      obtain ⟨q, q2⟩ := at_i _ e1
      subst q
      obtain ⟨⟨vs, o1, o2, o4⟩, o3⟩ := o
      exact ⟨a, vs, q2, o1, o2, o4, o3⟩
    · rw [List.getElem?_set_ne (Ne.symm hj)] at e1
      obtain ⟨b, vs, e2, e3, w, r, n1, n2, n3⟩ := S.dic j ks l e1
      have hb : b ≠ a := fun z => hn j _ hj e1 rfl (z ▸ e2)
      exact ⟨b, vs, by rw [h2 j hj, e2], ho b _ e3 hb, w, r.per p _ _, fun f => n1 (hf b f), by rw [hr]; exact n2, n3⟩
  · have key : ∀ (j : Nat) (y : Slot), (e.set i x)[j]? = some y → y.isOwn = true → s'[j]? = some (some (.ref b)) → (j = i ∧ b = a) ∨ (j ≠ i ∧ e[j]? = some y ∧ s[j]? = some (some (.ref b))) := fun j y e1 o1 e3 => by
      by_cases hj : j = i
      · subst hj
        obtain ⟨q, q2⟩ := at_i _ e1
        rw [q2] at e3
        left
        exact ⟨rfl, (V.ref.inj (Option.some.inj (Option.some.inj e3))).symm⟩
      · rw [List.getElem?_set_ne (Ne.symm hj)] at e1
        rw [h2 j hj] at e3
        exact .inr ⟨hj, e1, e3⟩
    rcases key j y e1 o1 e3 with ⟨k1, k2⟩ | ⟨k1, k2, k3⟩
    · rcases key k z e2 o2 e4 with ⟨l1, l2⟩ | ⟨l1, l2, l3⟩
      · rw [k1, l1]
      · rw [k2] at l3
        exact absurd l3 (hn k z l1 l2 o2)
    · rcases key k z e2 o2 e4 with ⟨l1, l2⟩ | ⟨l1, l2, l3⟩
      · rw [l2] at k3
        exact absurd k3 (hn j y k1 k2 o1)
      · exact S.ne j k b y z k2 o1 l2 o2 k3 l3
  · by_cases hj : j = i
    · subst hj
      obtain ⟨q, _⟩ := at_i _ e1
      rw [← q] at hx
      cases hx
    · rw [List.getElem?_set_ne (Ne.symm hj)] at e1
      obtain ⟨b, cls, dd, e2, e3, r⟩ := S.exn j y e1
      exact ⟨b, cls, dd, e2, by rw [h2 j hj, e3], r.per p⟩
/-- a new list into slot i -/
theorem Sim.setOwn {W1 : Wd} {H1 : Hp} {h1 : HP} {l : List DV} {v : V} (S : Sim c W e h s H) (t : Step W H W1 H1) (S1 : Sim c W1 e h1 s H1) (o : rO c H W1 H1 l v) : Sim c W1 (e.set i (.own l)) h1 (s.set i (some v)) H1 := by
  obtain ⟨a, vs, e1, e2, r, n1, n2, n3⟩ := o
  subst e1
  refine S1.owned (a := a) S1.hs S1.st (Per.refl _ _) (fun b o e _ => e) (fun b f => f) rfl ⟨⟨vs, e2, r⟩, n1, n2, S.st.th a n3⟩ rfl (fun j y hj e3 o z => ?_) (List.length_set ..) (fun hi => List.getElem?_set_self hi) fun j hj => List.getElem?_set_ne (Ne.symm hj)
  obtain ⟨b, e4, o2⟩ := S.ownAt e3 o
  rw [z] at e4
  have eb : a = b := V.ref.inj (Option.some.inj (Option.some.inj e4))
  subst eb
  cases y with
  | own l =>
    obtain ⟨⟨vs, q, _⟩, _⟩ := o2
    rw [n3] at q
    cases q
  | dic ks l =>
    obtain ⟨⟨vs, q, _⟩, _⟩ := o2
    rw [n3] at q
    cases q
  | none => cases o
  | exn y => cases o
  | val d => cases o
/-- what slot i owns is changed -/
theorem Sim.chgOwn {x y : Slot} {o o' : HO} (S : Sim c W e h s H) (e1 : e[i]? = some x) (hx : x.isOwn = true) (e2 : s[i]? = some (some (.ref a))) (ea : H a = some o) (k1 : ∀ xs, o ≠ .tup xs) (k2 : ∀ a u, o ≠ .frz a u) (n : ¬ W.F a ∧ a ∉ W.r ∧ c.H0 a = none) (hy : y.isOwn = true)
    (new : Per W H W (upd H a o') → Own c W (upd H a o') y a) : Sim c W (e.set i y) h s (upd H a o') ∧ Per W H W (upd H a o') := by
  obtain ⟨p, hs⟩ := own_chg (o' := o') S.hs ea n.1 n.2.1 k1 k2
  refine ⟨S.owned (a := a) hs (S.st.chg n.2.2) p (fun b u q hb => by rw [upd_ne hb]; exact q) (fun b f => f) rfl (new p) hy (fun j z hj e3 oz e4 => ?_) rfl (fun hi => e2) (fun j _ => rfl), p⟩
  exact hj (S.ne j i a z x e3 oz e1 hx e4 e2)
end

/-! ### small statements -/
def sNext : Stm := fun e h => .nx e h
def sSeq (a b : Stm) : Stm := fun e h => match a e h with
  | .nx e' h' => b e' h'
  | r => r
def sSet (i : Nat) (m : En → M DV) : Stm := sBind m fun d e h => .nx (e.set i (.val d)) h
def sSetO (i : Nat) (m : En → M (List DV)) : Stm := sBind m fun l e h => .nx (e.set i (.own l)) h
def sRet (m : En → M DV) : Stm := sBind m fun d _ h => .rt d h
def sRetN : Stm := fun _ h => .rt .non h
def sExpr (m : En → M DV) : Stm := sBind m fun _ e h => .nx e h
def sIf (t : En → M Bool) (a b : Stm) : Stm := sBind t fun x e h => if x then a e h else b e h
section
variable {X : Cx} {c : Cn} {pos : Pos} {st : Stmt} {rest : List Stmt} {a b : Stm} {ex : Expr} {m : En → M DV}
theorem s_nil : PSs X [] (RS c sNext) := pss_imp pss_nil fun D s H q => by
  obtain ⟨W, e, h, S, q⟩ := q
  exact q.nx S
theorem s_pass : PS X (.Pass pos) (RS c sNext) := ps_imp ps_pass fun D s H q => by
  obtain ⟨W, e, h, S, q⟩ := q
  exact q.nx S
theorem seq_use {D : Ends} {s : L2.St} {H : Hp} (q : RS c (sSeq a b) D s H) : RS c a { D with nx := RS c b D } s H := by
  obtain ⟨W, e, h, S, q⟩ := q
  refine ⟨W, e, h, S, ?_⟩
  unfold sSeq at q
  cases z : a e h with
  | nx e' h' =>
    rw [z] at q
    exact fun W' s' H' p S' => ⟨W', e', h', S', q.later p⟩
  | _ =>
    rw [z] at q
    exact q
theorem s_cons (h1 : PS X st (RS c a)) (h2 : PSs X rest (RS c b)) : PSs X (st :: rest) (RS c (sSeq a b)) := pss_imp (pss_cons h1 h2) fun D s H q => seq_use q
theorem s_one (h1 : PS X st (RS c a)) : PSs X [st] (RS c a) := pss_one h1
theorem s_set {i : Nat} {x : Str} {pos' : Pos} (hN : X.N.Nodup) (hi : X.N[i]? = some x) (hx : Loc X.env.scope x) (he : PE X ex (RE c m)) (hs : swapsWith ex (some (.Name x pos')) pos.line X.env = pure false := by rfl) (hf : X.fn x = true ∨ X.env.scope.names.lookup x = some .local := by first | exact .inl rfl | exact .inr rfl | assumption) :
    PS X (.Assign [.Name x pos'] ex pos) (RS c (sSet i m)) := ps_imp (ps_set hN hi hx he hs hf) fun D s H q =>
  sb_use q fun W e W1 H1 d v h1 t S r q2 => q2.nx (S.set r)
theorem s_setO {i : Nat} {x : Str} {pos' : Pos} {m : En → M (List DV)} (hN : X.N.Nodup) (hi : X.N[i]? = some x) (hx : Loc X.env.scope x) (he : PE X ex (RO c m)) (hs : swapsWith ex (some (.Name x pos')) pos.line X.env = pure false := by rfl) (hf : X.fn x = true ∨ X.env.scope.names.lookup x = some .local := by first | exact .inl rfl | exact .inr rfl | assumption) :
    PS X (.Assign [.Name x pos'] ex pos) (RS c (sSetO i m)) := ps_imp (ps_set hN hi hx he hs hf) fun D s H q => by
  obtain ⟨W, e, h, S0, q⟩ := q
  exact ⟨W, e, h, S0, sb_at S0 q fun W1 H1 l v h1 t S r q2 => q2.nx (S0.setOwn t S r)⟩
theorem s_ret (he : PE X ex (RE c m)) : PS X (.Return (some ex) pos) (RS c (sRet m)) := ps_imp (ps_ret he) fun D s H q =>
  sb_use q fun W e W1 H1 d v h1 t S r q2 => q2 W1 H1 v S.st S.hs r
theorem s_retN : PS X (.Return none pos) (RS c sRetN) := ps_imp ps_retN fun D s H q => by
  obtain ⟨W, e, h, S, q⟩ := q
  exact q W H .non S.st S.hs (by simp only [Rep])
theorem s_expr (he : PE X ex (RE c m)) (hs : swapsWith ex none pos.line X.env = pure false := by rfl) : PS X (.Expr ex pos) (RS c (sExpr m)) := ps_imp (ps_expr he hs) fun D s H q =>
  sb_use q fun W e W1 H1 d v h1 t S r q2 => q2.nx S
theorem s_if {t : En → M Bool} {sa sb : List Stmt} (ht : PT X ex (RT c t)) (ha : PSs X sa (RS c a)) (hb : PSs X sb (RS c b)) : PS X (.If ex sa sb pos) (RS c (sIf t a b)) := ps_imp (ps_if ht ha hb) fun D s H q =>
  sb_use q fun W e W1 H1 x y h1 t S r q2 => by
    have r : y = x := r
    subst r
    cases y with
    | true => exact iteT ⟨W1, e, h1, S, q2⟩
    | false => exact iteF ⟨W1, e, h1, S, q2⟩
/-- a slot's list is never changed again -/
def sFrz (i : Nat) : Stm := fun e h => match e[i]? with
  | some (.own l) => .nx (e.set i (.val (.lst l))) h
  | some (.val _) => .nx e h
  | _ => .bad
theorem frz_use {i : Nat} {D : Ends} {s : L2.St} {H : Hp} (q : RS c (sSeq (sFrz i) a) D s H) : RS c a D s H := by
  obtain ⟨W, e, h, S, q⟩ := q
  unfold sSeq sFrz at q
  cases z : e[i]? with
  | none =>
    rw [z] at q
    exact q.elim
  | some x =>
    rw [z] at q
    cases x with
    | none => exact q.elim
    | val d => exact ⟨W, e, h, S, q⟩
    | dic ks l => exact q.elim
    | exn y => exact q.elim
    | own l =>
      obtain ⟨p, vs, e2, e3, r, n1, n2, n3⟩ := S.own i l z
      have hs := S.hs.frz e3 n2
      have pr : Per W H (W.frz p) H := ⟨fun _ f => .inl f, fun _ _ e => e, fun _ _ => rfl, fun _ _ e => e, fun _ _ _ e => e⟩
      have rl : Rep c.g (W.frz p) H (.lst l) (.ref p) := by
        simp only [Rep]
        exact ⟨p, vs, rfl, .inr rfl, e3, r.per pr _ _⟩
      have nb : ∀ (j : Nat) (y : Slot), j ≠ i → e[j]? = some y → y.isOwn = true → s[j]? ≠ some (some (.ref p)) := fun j y hj e4 o e5 => hj (S.ne j i p y _ e4 o z rfl e5 e2)
      refine ⟨W.frz p, _, h, ⟨hs, S.st.frz n3, by rw [List.length_set]; exact S.len, fun j d e1 => ?_, fun j l2 e1 => ?_, fun j ks l2 e1 => ?_, fun j k b x y e1 o1 e4 o2 e5 e6 => ?_, fun j y e1 => ?_⟩, q.later pr⟩
      · by_cases hj : j = i
        · subst hj
          have hi : j < e.length := (List.getElem?_eq_some_iff.mp z).1
          rw [List.getElem?_set_self hi] at e1
          cases e1
          exact ⟨_, e2, rl⟩
        · rw [List.getElem?_set_ne (Ne.symm hj)] at e1
          obtain ⟨v, e4, r4⟩ := S.val j d e1
          exact ⟨v, e4, r4.per pr _ _⟩
      · by_cases hj : j = i
        · subst hj
          have hi : j < e.length := (List.getElem?_eq_some_iff.mp z).1
          rw [List.getElem?_set_self hi] at e1
          cases e1
        · rw [List.getElem?_set_ne (Ne.symm hj)] at e1
          obtain ⟨b, ws, e4, e5, r4, m1, m2, m3⟩ := S.own j l2 e1
          exact ⟨b, ws, e4, e5, r4.per pr _ _, fun f => f.elim m1 fun w => nb j _ hj e1 rfl (w ▸ e4), m2, m3⟩
      · by_cases hj : j = i
        · subst hj
          have hi : j < e.length := (List.getElem?_eq_some_iff.mp z).1
          rw [List.getElem?_set_self hi] at e1
          cases e1
        · rw [List.getElem?_set_ne (Ne.symm hj)] at e1
          obtain ⟨b, ws, e4, e5, w0, r4, m1, m2, m3⟩ := S.dic j ks l2 e1
          exact ⟨b, ws, e4, e5, w0, r4.per pr _ _, fun f => f.elim m1 fun w => nb j _ hj e1 rfl (w ▸ e4), m2, m3⟩
      · have back : ∀ (j : Nat) (y : Slot), (e.set i (.val (.lst l)))[j]? = some y → y.isOwn = true → e[j]? = some y := fun j y e1 oy => by
          by_cases hj : j = i
          · subst hj
            have hi : j < e.length := (List.getElem?_eq_some_iff.mp z).1
            rw [List.getElem?_set_self hi] at e1
            cases e1
            cases oy
          · rwa [List.getElem?_set_ne (Ne.symm hj)] at e1
        exact S.ne j k b x y (back j x e1 o1) o1 (back k y e4 o2) o2 e5 e6
      · by_cases hj : j = i
        · subst hj
          have hi : j < e.length := (List.getElem?_eq_some_iff.mp z).1
          rw [List.getElem?_set_self hi] at e1
          cases e1
        · rw [List.getElem?_set_ne (Ne.symm hj)] at e1
          obtain ⟨b, cls, dd, e4, e5, r4⟩ := S.exn j y e1
          exact ⟨b, cls, dd, e4, e5, r4.per pr⟩
theorem s_frz {i : Nat} (h : PS X st (RS c a)) : PS X st (RS c (sSeq (sFrz i) a)) := ps_imp h fun D s H q => frz_use q

/-! ### found.append(e), found[k] = e -/
def sApp (i : Nat) (m : En → M DV) : Stm := fun e h => match e[i]? with
  | some (.own l) => (match m e h with
    | .ok d h' => if l.length < LN then .nx (e.set i (.own (l ++ [d]))) h' else .bad
    | .exc x h' => .exc x e h'
    | .bad => .bad)
  | _ => .bad
theorem s_app {i : Nat} {x : Str} {p1 p2 p3 : Pos} (hN : X.N[i]? = some x) (hv : Vis X.env.scope x) (he : PE X ex (RE c m)) (hd : (x == ("__debug__" : Str)) = false := by decide) (hcd : (x == ("__classdict__" : Str)) = false := by decide)
    (hst : starEach (ex :: []) X.env = (false, eval ex X.env) :: starEach [] X.env := by rfl)
    (hw : PE X (.Call (.Attribute (.Name x p1) "append" p2) [ex] [] p3) (tBM X.K "list" rAppend (tVar i) (tCons (RE c m) tNil)))
    (hs : swapsWith (.Call (.Attribute (.Name x p1) "append" p2) [ex] [] p3) none pos.line X.env = pure false := by rfl) :
    PS X (.Expr (.Call (.Attribute (.Name x p1) "append" p2) [ex] [] p3) pos) (RS c (sApp i m)) := ps_imp (ps_expr hw hs) fun D s H q => by
  obtain ⟨W, e, h, S, q⟩ := q
  unfold sApp at q
  cases z : e[i]? with
  | none =>
    rw [z] at q
    exact q.elim
  | some y =>
    rw [z] at q
    cases y with
    | own l =>
      obtain ⟨a, vs, e2, e3, r, n⟩ := S.own i l z
      refine ⟨_, e2, .inl ⟨rfl, _, .inl (.inl e3)⟩, W, e, h, S, ?_⟩
      cases z2 : m e h with
      | bad =>
        rw [z2] at q
        exact q.elim
      | exc w h1 =>
        rw [z2] at q
        exact fun W' H' cls dd t S' r => q W' s H' cls dd (t.per S.hs) S' r
      | ok d h1 =>
        rw [z2] at q
        intro W1 H1 v t S1 rv
        by_cases hl : l.length < LN
        rotate_left
        · have q1 : PostS c W H (if l.length < LN then .nx (e.set i (.own (l ++ [d]))) h1 else .bad) D := q
          rw [if_neg hl] at q1
          exact q1.elim
        · have q1 : PostS c W H (if l.length < LN then .nx (e.set i (.own (l ++ [d]))) h1 else .bad) D := q
          rw [if_pos hl] at q1
          obtain ⟨a1, vs1, f2, f3, r1, n1⟩ := S1.own i l z
          rw [e2] at f2
          have ea : a = a1 := V.ref.inj (Option.some.inj (Option.some.inj f2))
          subst ea
          refine ⟨a, vs1, v, rfl, rfl, f3, by rw [← r1.len, line_LN]; exact hl, ?_⟩
          obtain ⟨S2, p2⟩ := S1.chgOwn (y := .own (l ++ [d])) (o' := .lst (vs1 ++ [v])) z rfl e2 f3 (fun _ w => by cases w) (fun _ _ w => by cases w) n1 rfl fun p => ⟨⟨_, upd_same, (r1.per p _ _).app (.cons (Rep.per p _ _ rv) .nil)⟩, n1⟩
          exact (q1.later ((t.per S.hs).trans p2)).nx S2
    | _ => exact q.elim
end
end LM

/-! Loops; defs and their calls. -/
namespace LM
open PySem L2

/-! ### for -/
def forL (t : DV → En → Option En) (body : Stm) (fg : List Nat) : List DV → Stm
  | [], e, h => .nx e h
  | d :: ds, e, h => match t d e with
    | none => .bad
    | some e1 => match body e1 h with
      | .nx e2 h2 => forL t body fg ds (wipeE e2 fg) h2
      | .ct e2 h2 => forL t body fg ds (wipeE e2 fg) h2
      | .bk e2 h2 => .nx (wipeE e2 fg) h2
      | .rt d h2 => .rt d h2
      | .exc x e2 h2 => .exc x e2 h2
      | .bad => .bad
def sFor (mi : En → M (List DV)) (t : DV → En → Option En) (fg : List Nat) (body : Stm) : Stm := sBind mi fun ds e h => forL t body fg ds (wipeE e fg) h
section
variable {X : Cx} {c : Cn} {pos : Pos}
theorem s_for {tg iter : Expr} {body : List Stmt} {mi : En → M (List DV)} {t : DV → En → Option En} {sl fg : List Nat} {b : Stm} (hp : PassesOwn (model X.prog X.w) X.A X.env X.xe) (hc : X.calm = true) (hi : PI X tg iter (RI c mi)) (hg : PG X tg (RG c t sl)) (hb : PSs X body (RS c b))
    (hs : ∀ x, foldedSetIterable iter X.env x = pure x := by intro _; rfl) : PS X (.For tg iter body [] pos) (RS c (sFor mi t fg b)) := ps_imp (ps_for hp hc hi hg hb hs) fun D s H q => by
  obtain ⟨W, e, h, S0, q⟩ := q
  refine ⟨W, e, h, S0, sb_at (R := fun _ W H ds J => Wk c W H J ds) S0 q fun W1 H1 ds J h1 t1 S1 wk q2 => ?_⟩
  refine ⟨fun i m s' Hc => m = ds.length - i ∧ i ≤ ds.length ∧ ∃ Wc ec hc, Per W1 H1 Wc Hc ∧ Sim c Wc ec hc s' Hc ∧ PostS c Wc Hc (forL t b fg (ds.drop i) ec hc) D,
    ⟨ds.length, rfl, Nat.zero_le _, W1, _, h1, Per.refl _ _, S1.wipe' fg, by rw [List.drop_zero]; exact q2⟩, ?_⟩
  rintro i m s' Hc ⟨em, hi, Wc, ec, hc, pc, Sc, q3⟩
  by_cases hlt : i < ds.length
  rotate_left
  · have ei : i = ds.length := by omega
    subst ei
    rw [List.drop_length] at q3
    exact .inl ⟨wk.st Wc Hc pc, q3.nx Sc⟩
  · right
    obtain ⟨d, ed⟩ : ∃ d, ds[i]? = some d := ⟨_, List.getElem?_eq_getElem hlt⟩
    obtain ⟨g1, g2⟩ := wk.go Wc Hc pc i d ed
    have ed2 : ds.drop i = d :: ds.drop (i + 1) := by
      rw [List.drop_eq_getElem_cons hlt]
      congr 1
      rw [List.getElem?_eq_getElem hlt] at ed
      exact Option.some.inj ed
    rw [ed2] at q3
    refine ⟨g1, fun s2 H2 => ∃ Wc ec hc, Per W1 H1 Wc H2 ∧ Sim c Wc ec hc s2 H2 ∧ PostS c Wc H2 (forL t b fg (ds.drop (i + 1)) ec hc) D, fun s2 H2 z => ⟨_, by omega, rfl, hlt, z⟩, fun x H' y => ?_⟩
    have item : Step Wc Hc Wc H' ∧ HSim c.g Wc hc H' ∧ Rep c.g Wc H' d x := by
      rcases g2 x H' y with ⟨e1, r⟩ | ⟨T, us, l, e1, e2, hT, e3, r⟩
      · subst e1
        exact ⟨Step.refl _ _, Sc.hs, r⟩
      · subst e1 e2 e3
        have tn : Step Wc Hc Wc (upd Hc T (.tup us)) := Step.new hT
        have pn := tn.per Sc.hs
        refine ⟨tn, Sc.hs.new hT pn, ?_⟩
        simp only [Rep]
        exact ⟨T, us, rfl, .inl (.inl upd_same), r.per pn _ _⟩
    obtain ⟨t2, s2, rd⟩ := item
    have p2 := t2.per Sc.hs
    refine ⟨Wc, ec, hc, d, Sc.step t2 s2, rd, ?_⟩
    unfold forL at q3
    cases zt : t d ec with
    | none =>
      rw [zt] at q3
      exact q3.elim
    | some e1 =>
      rw [zt] at q3
      intro s3 S3 _ _
      refine ⟨Wc, e1, hc, S3, ?_⟩
      have q4 : PostS c Wc H' (match b e1 hc with
        | .nx e2 h2 => forL t b fg (ds.drop (i + 1)) (wipeE e2 fg) h2
        | .ct e2 h2 => forL t b fg (ds.drop (i + 1)) (wipeE e2 fg) h2
        | .bk e2 h2 => .nx (wipeE e2 fg) h2
        | .rt d h2 => .rt d h2
        | .exc x e2 h2 => .exc x e2 h2
        | .bad => .bad) D := q3.later p2
      cases zb : b e1 hc with
      | nx e2 h2 =>
        rw [zb] at q4
        exact fun W' s' H2 p S' => ⟨W', _, h2, (pc.trans p2).trans p, S'.wipe' fg, q4.later p⟩
      | ct e2 h2 =>
        rw [zb] at q4
        exact fun W' s' H2 p S' => ⟨W', _, h2, (pc.trans p2).trans p, S'.wipe' fg, q4.later p⟩
      | bk e2 h2 =>
        rw [zb] at q4
        exact fun W' s' H2 p S' => q4 W' s' H2 p (S'.wipe' fg)
      | rt d h2 =>
        rw [zb] at q4
        exact q4
      | exc x e2 h2 =>
        rw [zb] at q4
        exact q4
      | bad =>
        rw [zb] at q4
        exact q4

/-! ### while -/
def whL (t : En → M Bool) (body : Stm) (fg : List Nat) : Nat → Stm
  | 0, _, _ => .bad
  | n + 1, e, h => match t e h with
    | .ok true h1 => (match body e h1 with
      | .nx e2 h2 => whL t body fg n (wipeE e2 fg) h2
      | .ct e2 h2 => whL t body fg n (wipeE e2 fg) h2
      | .bk e2 h2 => .nx (wipeE e2 fg) h2
      | .rt d h2 => .rt d h2
      | .exc x e2 h2 => .exc x e2 h2
      | .bad => .bad)
    | .ok false h1 => .nx e h1
    | .exc x h1 => .exc x e h1
    | .bad => .bad
def sWhile (n : Nat) (t : En → M Bool) (fg : List Nat) (body : Stm) : Stm := fun e h => whL t body fg n (wipeE e fg) h
theorem s_while {ex : Expr} {body : List Stmt} {t : En → M Bool} {b : Stm} {n : Nat} {fg : List Nat} (hp : PassesOwn (model X.prog X.w) X.A X.env X.xe) (hc : PT X ex (RT c t)) (hb : PSs X body (RS c b)) : PS X (.While ex body [] pos) (RS c (sWhile n t fg b)) := ps_imp (ps_while hp hc hb) fun D s H q => by
  obtain ⟨W, e, h, S0, q⟩ := q
  refine ⟨fun m s' Hc => ∃ Wc ec hc, Sim c Wc ec hc s' Hc ∧ PostS c Wc Hc (whL t b fg m ec hc) D, ⟨n, W, _, h, S0.wipe' fg, q⟩, ?_⟩
  rintro m s' Hc ⟨Wc, ec, hc, Sc, q3⟩
  cases m with
  | zero => exact q3.elim
  | succ m =>
    unfold whL at q3
    refine ⟨Wc, ec, hc, Sc, ?_⟩
    cases zt : t ec hc with
    | bad =>
      rw [zt] at q3
      exact q3.elim
    | exc x h1 =>
      rw [zt] at q3
      exact fun W' H' cls dd t1 S' r => q3 W' s' H' cls dd (t1.per Sc.hs) S' r
    | ok x h1 =>
      rw [zt] at q3
      intro W1 H1 y t1 S1 r
      have r : y = x := r
      subst r
      have p1 := t1.per Sc.hs
      cases y with
      | false => exact iteF ((q3.later p1).nx S1)
      | true =>
        refine iteT ⟨fun s2 H2 => ∃ Wc ec hc, Sim c Wc ec hc s2 H2 ∧ PostS c Wc H2 (whL t b fg m ec hc) D, fun s2 H2 z => ⟨m, Nat.lt_succ_self m, z⟩, W1, ec, h1, S1, ?_⟩
        have q4 : PostS c W1 H1 (match b ec h1 with
          | .nx e2 h2 => whL t b fg m (wipeE e2 fg) h2
          | .ct e2 h2 => whL t b fg m (wipeE e2 fg) h2
          | .bk e2 h2 => .nx (wipeE e2 fg) h2
          | .rt d h2 => .rt d h2
          | .exc x e2 h2 => .exc x e2 h2
          | .bad => .bad) D := q3.later p1
        cases zb : b ec h1 with
        | nx e2 h2 =>
          rw [zb] at q4
          exact fun W' s' H2 p S' => ⟨W', _, h2, S'.wipe' fg, q4.later p⟩
        | ct e2 h2 =>
          rw [zb] at q4
          exact fun W' s' H2 p S' => ⟨W', _, h2, S'.wipe' fg, q4.later p⟩
        | bk e2 h2 =>
          rw [zb] at q4
          exact fun W' s' H2 p S' => q4 W' s' H2 p (S'.wipe' fg)
        | rt d h2 =>
          rw [zb] at q4
          exact q4
        | exc x e2 h2 =>
          rw [zb] at q4
          exact q4
        | bad =>
          rw [zb] at q4
          exact q4
end

/-! ### defs -/
def PostF (g : Glue) (W : Wd) (H : Hp) (r : Res DV) (Q : VK) (E : XK) : Prop := match r with
  | .ok d h' => ∀ W' H' v, Step W H W' H' → HSim g W' h' H' → Rep g W' H' d v → Q v H'
  | .exc x h' => ∀ W' H' cls dd, Step W H W' H' → HSim g W' h' H' → XRep g W' H' x cls dd → E cls dd H'
  | .bad => False
/-- a def's promise by its mirror -/
def spF (g : Glue) (n : Nat) (m : List DV → M DV) : Sp := fun vs H Q E => ∃ W h ds, HSim g W h H ∧ Reps g W H ds vs ∧ ds.length = n ∧ PostF g W H (m ds h) Q E
def fnM (N : Nat) (body : Stm) : List DV → M DV := fun ds h => match body (ds.map .val ++ List.replicate (N - ds.length) .none) h with
  | .nx _ h' => .ok .non h'
  | .rt d h' => .ok d h'
  | .exc x _ h' => .exc x h'
  | _ => .bad
theorem sim_start {g : Glue} {W : Wd} {h : HP} {H : Hp} {ds : List DV} {vs : List V} {N : List Str} {x : WX} (hs : HSim g W h H) (r : Reps g W H ds vs) : Sim ⟨g, W, H, x, none⟩ W (ds.map .val ++ List.replicate (N.length - ds.length) .none) h (L2.start N vs) H := by
  have own0 : ∀ (i : Nat) (y : Slot), (ds.map Slot.val ++ List.replicate (N.length - ds.length) Slot.none)[i]? = some y → y.isOwn = false := fun i y e => by
    rw [List.getElem?_append] at e
    split at e
    · rw [List.getElem?_map] at e
      cases z : ds[i]? with
      | none =>
        rw [z] at e
        cases e
      | some d =>
        rw [z] at e
        cases e
        rfl
    · rw [List.getElem?_replicate] at e
      split at e
      · cases e
        rfl
      · cases e
  refine ⟨hs, Step.refl _ _, ?_, fun i d e => ?_, fun i l e => ?_, fun i ks l e => ?_, fun i j a y z e1 o1 => ?_, fun i x e => ?_⟩
  · unfold L2.start
    rw [List.length_append, List.length_append, List.length_map, List.length_map, List.length_replicate, List.length_replicate, r.len]
  · rw [List.getElem?_append] at e
    split at e
    · rename_i hi
      rw [List.length_map] at hi
      rw [List.getElem?_map] at e
      cases z : ds[i]? with
      | none =>
        rw [z] at e
        cases e
      | some d' =>
        rw [z] at e
        cases e
        obtain ⟨v, e2, rv⟩ := r.get z
        refine ⟨v, ?_, rv⟩
        unfold L2.start
        rw [List.getElem?_append_left (by rw [List.length_map, ← r.len]; exact hi), List.getElem?_map, e2]
        rfl
    · rw [List.getElem?_replicate] at e
      split at e <;> cases e
  · have := own0 i _ e
    cases this
  · have := own0 i _ e
    cases this
  · rw [own0 i y e1] at o1
    cases o1
  · exfalso
    rw [List.getElem?_append] at e
    split at e
    · rw [List.getElem?_map] at e
      cases z : ds[i]? with
      | none =>
        rw [z] at e
        cases e
      | some d =>
        rw [z] at e
        cases e
    · rw [List.getElem?_replicate] at e
      split at e <;> cases e

/-- the world of a law -/
structure Tp where
  P : Program
  w : World
  mg : Str → Option Value
  base : Heap
  g : Glue
/-- where an expression stands -/
structure XEx (T : Tp) (X : Cx) (c : Cn) (N : List Str) (k : Nat) (sc : Scope) : Prop where
  pp : X.prog = T.P
  pw : X.w = T.w
  pk : X.K = T.g.K
  pm : X.mg = T.mg
  pb : X.base = T.base
  pg : c.g = T.g
  nm : X.N = N
  nd : N.Nodup
  sc : X.env.scope = sc
  calm : X.calm = true
  room : Room k X.A
  tk : L2N.Takes X c.x
/-- where a statement stands -/
structure XSt (T : Tp) (X : Cx) (c : Cn) (N : List Str) (k : Nat) (sc : Scope) : Prop where
  e : XEx T X c N k sc
  pa : PassesOwn (model X.prog X.w) X.A X.env X.xe
  fn : X.fn = fun _ => true
  st : X.stack = X.env :: X.outer
  fr : X.env.frame = some X.env.locals
/-- .. within a comprehension's block -/
structure XBl (T : Tp) (X : Cx) (c : Cn) (N : List Str) (k : Nat) (sc bs : Scope) : Prop where
  e : XEx T X c N k sc
  fn : X.fn = fun x => bs.names.lookup x == some .cell
section
variable {T : Tp} {X : Cx} {c : Cn} {N : List Str} {k : Nat} {sc : Scope}
theorem XEx.u (h : XEx T X c N k sc) : X.A.units + 64 < cLine := h.room.units
theorem XEx.kk (h : XEx T X c N k sc) : X.K = c.g.K := by rw [h.pk, h.pg]
theorem XEx.blk (h : XEx T X c N k sc) (s : Shared) (H : Hp) (bs : Scope) (C : Addr) (cl : List (Str × Addr)) (fp : List Addr) : XBl T (X.blk s H bs (compEnvC bs cl C X.env) fp) c.nx N k (relS bs sc) bs :=
  ⟨⟨h.pp, h.pw, h.pk, h.pm, h.pb, h.pg, h.nm, h.nd, by rw [← h.sc]; rfl, h.calm, h.room, fun u s' x => by
    obtain ⟨_, _, _, _, _, _, _, _, _, _, _, _, _, _, _, _, z⟩ := x
    exact z.elim⟩, rfl⟩
end
/-- what is known of a def that is called -/
structure Fo (T : Tp) (x : Str) (id k n : Nat) (m : List DV → M DV) : Prop where
  gl : T.mg x = some (.ref (T.g.fA id))
  kp : PySem.W.keepIn T.g.K (.ref (T.g.fA id)) = true
  ex : ∃ fd ps, Binds T.g.K fd ps [] ∧ FnOk T.P T.w T.g.K T.mg T.base (L2N.CX T.P T.w) k (T.g.fA id) fd ps (spF T.g n m)
theorem Fo.mono {T : Tp} {x : Str} {id j k n : Nat} {m : List DV → M DV} (F : Fo T x id j n m) (h : j ≤ k) : Fo T x id k n m := by
  obtain ⟨fd, ps, b, f⟩ := F.ex
  exact ⟨F.gl, F.kp, fd, ps, b, f.mono h⟩
theorem fn_rule {T : Tp} {x qual : Str} {params : Arguments} {body : List Stmt} {scope : Scope} {kws : List (Str × V)} {f : Addr} {fd : FuncData} {N ps : List Str} {k : Nat} {m : Stm} (F : FunD T.g.K x qual params body scope [] kws f fd) (S : FnScope N ps scope)
    (hb : ∀ (X : Cx) (c : Cn), XSt T X c N k scope → PSs X body (RS c m)) : FnOk T.P T.w T.g.K T.mg T.base (L2N.CX T.P T.w) (k + 1) f fd ps (spF T.g ps.length (fnM N.length m)) := by
  refine F.ok S (fun vs H Q E h => ?_) fun cdv A outer s H vs Q E hr h => ?_
  · obtain ⟨W, hh, ds, _, r, e, _⟩ := h
    rw [← e, r.len]
  · obtain ⟨W, hh, ds, hs, r, e, q⟩ := h
    refine ⟨RS ⟨T.g, W, H, fun cls d _ H' => E cls d H', none⟩ m, hb _ ⟨T.g, W, H, fun cls d _ H' => E cls d H', none⟩ ⟨⟨rfl, rfl, rfl, rfl, rfl, rfl, rfl, S.nd, rfl, rfl, hr, L2N.takes_of rfl rfl rfl rfl⟩, passes_of rfl, rfl, rfl, rfl⟩, W, _, hh, sim_start hs r, ?_⟩
    unfold fnM at q
    generalize m (ds.map .val ++ List.replicate (N.length - ds.length) .none) hh = z at q ⊢
    cases z with
    | nx e' h' => exact fun W' s' H' _ S' => q W' H' .non S'.st S'.hs (by simp only [Rep])
    | rt d h' => exact q
    | bk e' h' => exact q.elim
    | ct e' h' => exact q.elim
    | exc x e' h' => exact fun W' s' H' cls dd _ S' r => q W' H' cls dd S'.st S'.hs r
    | bad => exact q
section
variable {T : Tp} {X : Cx} {c : Cn} {N : List Str} {k : Nat} {sc : Scope} {pos p1 : Pos} {ex : Expr} {es : List Expr} {n : Nat}
/-- f(e, ..) -/
def eCall (m : List DV → M DV) (ms : En → M (List DV)) : En → M DV := fun e => ms e >>= m
theorem Fo.at (hX : XEx T X c N k sc) {x : Str} {id j : Nat} {m : List DV → M DV} (F : Fo T x id j n m) : X.mg x = some (.ref (c.g.fA id)) ∧ PySem.W.keepIn X.K (.ref (c.g.fA id)) = true ∧ ∃ fd ps, Binds X.K fd ps [] ∧ FnOk X.prog X.w X.K X.mg X.base (L2N.CX X.prog X.w) j (c.g.fA id) fd ps (spF c.g n m) := by
  rw [hX.pp, hX.pw, hX.pk, hX.pm, hX.pb, hX.pg]
  exact ⟨F.gl, F.kp, F.ex⟩
theorem call_use {m : List DV → M DV} {ms : En → M (List DV)} {s : L2.St} {H : Hp} {Q : VK} (q : RE c (eCall m ms) s H Q) : RX c (rVs c n) ms s H fun vs H1 => spF c.g n m (vs ++ []) H1 Q (WE c.x s) := RX.bind q fun W e W1 H1 ds vs h1 t S r q2 => by
  rw [List.append_nil]
  refine ⟨W1, h1, ds, S.hs, r.1, r.2, ?_⟩
  generalize m ds h1 = z at q2 ⊢
  cases z with
  | ok d h' => exact fun W' H' v t' hs' r' => q2 W' H' v t' (S.step t' hs') r'
  | exc x h' => exact fun W' H' cls dd t' hs' r' => q2 W' H' cls dd t' (S.step t' hs') r'
  | bad => exact q2
theorem c_call {x : Str} {id j : Nat} {m : List DV → M DV} {ms : En → M (List DV)} (hX : XEx T X c N k sc) (F : Fo T x id j n m) (hj : j ≤ k) (hg : Gl X x) (ha : PA X (ex :: es) (RA c n ms))
    (hdb : (x == ("__debug__" : Str)) = false := by decide) (he : starEach (ex :: es) X.env = (false, eval ex X.env) :: starEach es X.env := by rfl) (hpl : (backTo pos (starEach es X.env)).any (·.1) = false := by rfl) :
    PE X (.Call (.Name x p1) (ex :: es) [] pos) (RE c (eCall m ms)) := by
  obtain ⟨gl, kp, fd, ps, b, f⟩ := F.at hX
  exact pe_imp (pe_callSD f (hX.room.mono hj) hg gl kp b .nil (fun s => L2N.passAt hX.tk s) ha hdb he hpl) fun s H Q q => call_use q
end
end LM

/-! Sums, products of lists; more statements; what is known of names. -/
namespace LM
open PySem L2

section
variable {T : Tp} {X : Cx} {c : Cn} {N : List Str} {k : Nat} {sc : Scope} {x : Str} {i : Nat}
theorem XEx.vis (h : XEx T X c N k sc) (v : Vis sc x) : Vis X.env.scope x := by
  rw [h.sc]
  exact v
theorem XEx.loc (h : XEx T X c N k sc) (v : Loc sc x) : Loc X.env.scope x := by
  rw [h.sc]
  exact v
theorem XEx.gl (h : XEx T X c N k sc) (v : sc.names.lookup x = some .globalImplicit) : Gl X x := by
  show X.env.scope.names.lookup x = _
  rw [h.sc]
  exact v
theorem XEx.at (h : XEx T X c N k sc) (v : N[i]? = some x) : X.N[i]? = some x := by
  rw [h.nm]
  exact v
theorem XEx.ndX (h : XEx T X c N k sc) : X.N.Nodup := by
  rw [h.nm]
  exact h.nd
theorem XSt.f (h : XSt T X c N k sc) : X.fn x = true ∨ X.env.scope.names.lookup x = some .local := .inl (by rw [h.fn])
end

/-! ### sums -/
section
variable {X : Cx} {c : Cn} {pos p1 p2 pos2 : Pos} {a b : Expr} {ma mb : En → M DV}
theorem int_ok {W : Wd} {H : Hp} {v : V} {i : Int} (r : RepB c.g W H (.int i) v) : v = .int i := by
  rcases r with r | ⟨l2, p, vs, e1, _⟩ | ⟨_, _, _, _, e1, _⟩
  · simpa only [Rep] using r
  · cases e1
  · cases e1
theorem lst_ok {W : Wd} {H : Hp} {v : V} {l : List DV} (r : RepB c.g W H (.lst l) v) : ∃ p vs, v = .ref p ∧ H p = some (.lst vs) ∧ Reps c.g W H l vs := by
  rcases r with r | ⟨l2, p, vs, e1, e2, e3, r, n⟩ | ⟨_, _, _, _, e1, _⟩
  · simp only [Rep] at r
    obtain ⟨p, vs, e1, _, e3, r⟩ := r
    exact ⟨p, vs, e1, e3, r⟩
  · cases e1
    exact ⟨p, vs, e2, e3, r⟩
  · cases e1
def rAddA (K : PySem.W.Frag) : R2 := fun x y H Q => (∃ i j, x = .int i ∧ y = .int j ∧ Q (.int (i + j)) H) ∨ rCatA K x y H Q ∨ (∃ i j, x = .str i ∧ y = .str j ∧ i.length + j.length ≤ sizeLine ∧ Q (.str (i ++ j)) H) ∨ rCat x y H Q
theorem op_addA : OpR X (binaryOp .Add) (rAddA X.K) := op_add.or (op_catA.or (op_add_str.or op_cat))
theorem nil_of {W : Wd} {H : Hp} {l : List DV} (r : Reps c.g W H l []) : l = [] := by
  cases l with
  | nil => rfl
  | cons x r2 =>
    have := r.len
    cases this
theorem prim_add {K : PySem.W.Frag} (hk : c.g.K = K) : Prim2 c (pB c) (pB c) (rV c) vAdd (rAddA K) := by
  subst hk
  refine ⟨fun {W e h s H Hs x y v w Q} S rx ry nw q => ?_⟩
  unfold vAdd at q
  split at q
  · exact .inl ⟨_, _, int_ok rx, int_ok ry, q.ret S (by simp only [rV, Rep])⟩
  · obtain ⟨a, vs, e1, s1, r1⟩ := tup_ok rx
    obtain ⟨b, ws, e2, s2, r2⟩ := tup_ok ry
    split at q
    · rename_i hz
      refine .inr (.inl ⟨a, b, vs, ws, e1, e2, s1, s2, by rw [← r1.len, ← r2.len, line_LN]; exact hz, fun z => ?_, fun z z2 => ?_, fun z z2 p hp => ?_⟩)
      · subst z
        have := nil_of r1
        subst this
        refine q.ret S ?_
        simp only [rV, Rep]
        exact ⟨b, ws, rfl, s2, r2⟩
      · subst z2
        have := nil_of r2
        subst this
        refine q.ret S ?_
        simp only [rV, Rep]
        refine ⟨a, vs, rfl, s1, ?_⟩
        rw [List.append_nil]
        exact r1
      · exact post_tup q S (r1.app r2) hp
    · exact q.elim
  · split at q
    · rename_i hz
      exact .inr (.inr (.inl ⟨_, _, str_ok rx, str_ok ry, by rw [line_LN]; exact hz, q.ret S (by simp only [rV, Rep])⟩))
    · exact q.elim
  · obtain ⟨a, vs, e1, s1, r1⟩ := lst_ok rx
    obtain ⟨b, ws, e2, s2, r2⟩ := lst_ok ry
    split at q
    · rename_i hz
      exact .inr (.inr (.inr ⟨a, b, vs, ws, e1, e2, s1, s2, by rw [← r1.len, ← r2.len, line_LN]; exact hz, fun p hp => post_frz q S (r1.app r2) hp⟩))
    · exact q.elim
  · exact q.elim
theorem c_add (hk : X.K = c.g.K) (ha : PE X a (RB c ma)) (hb : PE X b (RB c mb)) : PE X (.BinOp a .Add b pos) (RE c (e2 vAdd ma mb)) := c_bin op_addA stays_B (prim_add hk.symm) ha hb
/-- the same as a list of one's own -/
def lAdd (x y : DV) : M (List DV) := match x, y with
  | .lst l, .lst m => if l.length + m.length ≤ LN then pure (l ++ m) else M.bad
  | _, _ => M.bad
theorem c_addO (ha : PE X a (RB c ma)) (hb : PE X b (RB c mb)) : PE X (.BinOp a .Add b pos) (RO c (fun e => ma e >>= fun x => mb e >>= fun y => lAdd x y)) := c_bin op_cat stays_B (Ra := pB c) (Rb := pB c) ⟨fun {W e h s H Hs x y v w Q} S rx ry nw q => by
  unfold lAdd at q
  split at q
  · obtain ⟨a, vs, e1, s1, r1⟩ := lst_ok rx
    obtain ⟨b, ws, e2, s2, r2⟩ := lst_ok ry
    split at q
    · rename_i hz
      exact ⟨a, b, vs, ws, e1, e2, s1, s2, by rw [← r1.len, ← r2.len, line_LN]; exact hz, fun p hp => post_own q S (r1.app r2) hp (nw p hp)⟩
    · exact q.elim
  · exact q.elim⟩ ha hb
/-- a list, so many times -/
def lMul (x y : DV) : M (List DV) := match x, y with
  | .lst l, .int (.ofNat n) => if Nat.ble n 16777216 && Nat.ble (l.length * n) 16777216 then pure (List.replicate n l).flatten else M.bad
  | _, _ => M.bad
theorem c_mulO (ha : PE X a (RB c ma)) (hb : PE X b (RE c mb)) : PE X (.BinOp a .Mult b pos) (RO c (fun e => ma e >>= fun x => mb e >>= fun y => lMul x y)) := c_bin op_rep stays_B (Ra := pB c) (Rb := pV c) ⟨fun {W e h s H Hs x y v w Q} S rx ry nw q => by
  unfold lMul at q
  split at q
  · obtain ⟨a, vs, e1, s1, r1⟩ := lst_ok rx
    simp only [pV, Rep] at ry
    split at q
    · rename_i hz
      rw [Bool.and_eq_true, Nat.ble_eq, Nat.ble_eq] at hz
      rename_i n
      have en : Int.ofNat n = (n : Int) := rfl
      rw [en] at ry
      exact ⟨a, _, vs, e1, ry, s1, by omega, by omega, by rw [← r1.len, line_LN]; exact hz.2, fun p hp => post_own q S (r1.rep _) hp (nw p hp)⟩
    · exact q.elim
  · exact q.elim⟩ ha hb

/-! ### tuple(reversed(a list)) -/
def vTupRev (x : DV) : M DV := fun h => match asL h x with
  | some l => .ok (.tup l.reverse) h
  | none => .bad
theorem c_tupRev (hk : X.K = c.g.K) (hc : X.calm = true) (hg : Gl X "tuple") (hm : X.mg "tuple" = none) (hg2 : Gl X "reversed") (hm2 : X.mg "reversed" = none) (ha : PE X a (RB c ma)) (hs : starEach [a] X.env = (false, eval a X.env) :: starEach [] X.env := by rfl)
    (hs2 : starEach [.Call (.Name "reversed" p2) [a] [] pos2] X.env = (false, eval (.Call (.Name "reversed" p2) [a] [] pos2) X.env) :: starEach [] X.env := by rfl) :
    PE X (.Call (.Name "tuple" p1) [.Call (.Name "reversed" p2) [a] [] pos2] [] pos) (RE c (e1 vTupRev ma)) := pe_imp (RT.pe_tupRev hc hg hm hg2 hm2 ha hs hs2) fun s H Q q =>
  RX.bind q fun W e W1 H1 x v h1 t S rx q2 => by
    unfold vTupRev at q2
    cases z : asL h1 x with
    | none =>
      rw [z] at q2
      exact q2.elim
    | some l =>
      rw [z] at q2
      obtain ⟨p, vs, e1, sq, r⟩ := asL_ok S rx z
      exact ⟨p, vs, e1, hk ▸ sq, fun d hd => post_tup q2 S r.rev hd⟩
end

/-! ### x = [..] -/
section
variable {X : Cx} {c : Cn} {pos py spos : Pos}
theorem sw_no {elt : Expr} {gs : List Comprehension} {scope : Scope} {y : Str} {l : Nat} {env : PySem.Env} (hy : env.scope.names.lookup y = some .cell) : swapsWith (.ListComp elt gs scope pos) (some (.Name y py)) l env = pure false := by
  have ky : env.kindOf y = some .cell := hy
  unfold swapsWith
  simp only [ky]
  cases env.blockKind <;> rfl
/-- the new list is frozen, or owned -/
def sSetL (i : Nat) (m : En → M (List DV)) : Stm := sSet i (eFrz m)
theorem s_setLc {i : Nat} {y : Str} {elt tg iter : Expr} {ifs : List Expr} {scope : Scope} {own : List (Str × Nat)} {mi : En → M (List DV)} {t : DV → En → Option En} {mt : En → M Bool} {me : En → M DV} {sl : List Nat} (hc : X.calm = true) (hN : X.N.Nodup) (hy : X.N[i]? = some y) (hyl : X.env.scope.names.lookup y = some .local)
    (hsw : swapsWith (.ListComp elt [⟨tg, iter, ifs, 0⟩] scope pos) (some (.Name y py)) spos.line X.env = pure true) (hi : PI X tg iter (RI c mi)) (ok : BlkOk X.N X.env.scope scope own)
    (hg : ∀ (s : Shared) (H : Hp) (C : Addr) (cl : List (Str × Addr)) (fp : List Addr), PG (X.blk s H scope (compEnvC scope cl C X.env) fp) tg (RG c.nx t sl)) (ht : ∀ (s : Shared) (H : Hp) (C : Addr) (cl : List (Str × Addr)) (fp : List Addr), PTs (X.blk s H scope (compEnvC scope cl C X.env) fp) ifs (RT c.nx mt))
    (he : ∀ (s : Shared) (H : Hp) (C : Addr) (cl : List (Str × Addr)) (fp : List Addr), PE (X.blk s H scope (compEnvC scope cl C X.env) fp) elt (RE c.nx me)) (hsl : ∀ k ∈ sl, k ∈ own.map (·.2) := by decide) (hs : ∀ x, foldedSetIterable iter X.env x = pure x := by intro _; rfl) :
    PS X (.Assign [.Name y py] (.ListComp elt [⟨tg, iter, ifs, 0⟩] scope pos) spos) (RS c (sSetO i (mLc (own.map (·.2)) mi t mt me))) := ps_imp (ps_setLc hc hN hy hyl hsw hi ok hg ht he hs) fun D s H q => lc_use hsl (by
  obtain ⟨W, e, h, S0, q⟩ := q
  exact ⟨W, e, h, S0, sb_at S0 q fun W1 H1 l v h1 t S r q2 => q2.nx (S0.setOwn t S r)⟩)
/-- what a statement leaves in slot i is frozen at once -/
theorem s_after {st : Stmt} {i : Nat} {m : En → M (List DV)} (h : PS X st (RS c (sSetO i m))) : PS X st (RS c (sSetL i m)) := ps_imp h fun D s H q => by
  obtain ⟨W, e, h0, S0, q⟩ := q
  refine ⟨W, e, h0, S0, ?_⟩
  unfold sSetL sSet sBind eFrz at q
  unfold sSetO sBind
  rw [M.bind_def] at q
  cases z : m e h0 with
  | ok l h1 =>
    rw [z] at q
    have q2 : PostS c W H (.nx (e.set i (.val (.lst l))) h1) D := q
    intro W' s' H' p S'
    by_cases hi : i < e.length
    rotate_left
    · have e1 : e.set i (.own l) = e := List.set_eq_of_length_le (by omega)
      have e2 : e.set i (.val (.lst l)) = e := List.set_eq_of_length_le (by omega)
      rw [e1] at S'
      rw [e2] at q2
      exact (q2.later p).nx S'
    have fz : RS c (sSeq (sFrz i) sNext) D s' H' := by
      refine ⟨W', _, h1, S', ?_⟩
      unfold sSeq sFrz
      rw [List.getElem?_set_self hi]
      show PostS c W' H' (.nx ((e.set i (.own l)).set i (.val (.lst l))) h1) D
      rw [List.set_set]
      exact q2.later p
    obtain ⟨W2, e2, h2, S2, q3⟩ := frz_use fz
    exact q3.nx S2
  | exc x h1 =>
    rw [z] at q
    exact q
  | bad =>
    rw [z] at q
    exact q
end

/-! ### rules by the place -/
/-- the names of built-ins, not bound by the text -/
structure Blt (mg : Str → Option Value) : Prop where
  len : mg "len" = none
  range : mg "range" = none
  tuple : mg "tuple" = none
  list : mg "list" = none
  int : mg "int" = none
  bool : mg "bool" = none
  str : mg "str" = none
  isinstance : mg "isinstance" = none
  max : mg "max" = none
  min : mg "min" = none
  sum : mg "sum" = none
  zip : mg "zip" = none
  reversed : mg "reversed" = none
  enumerate : mg "enumerate" = none
  sorted : mg "sorted" = none
  set : mg "set" = none
  dict : mg "dict" = none
  ValueError : mg "ValueError" = none
  any : mg "any" = none
  all : mg "all" = none
section
variable {T : Tp} {X : Cx} {c : Cn} {N : List Str} {k : Nat} {sc : Scope} {x : Str} {pos p1 p2 pos2 : Pos} {a b tg : Expr} {ma mb : En → M DV}
theorem XEx.no (h : XEx T X c N k sc) (q : T.mg x = none) : X.mg x = none := by
  rw [h.pm]
  exact q
theorem k_var (h : XEx T X c N k sc) (i : Nat) (hi : N[i]? = some x) (hv : Vis sc x) (hd : (x == ("__debug__" : Str)) = false := by decide) (hcd : (x == ("__classdict__" : Str)) = false := by decide) : PE X (.Name x pos) (RE c (eVar i)) := c_var (h.at hi) (h.vis hv) hd hcd
theorem k_bor (h : XEx T X c N k sc) (i : Nat) (hi : N[i]? = some x) (hv : Vis sc x) (hd : (x == ("__debug__" : Str)) = false := by decide) (hcd : (x == ("__classdict__" : Str)) = false := by decide) : PE X (.Name x pos) (RB c (eBor i)) := c_bor (h.at hi) (h.vis hv) hd hcd
theorem k_set {i : Nat} {ex : Expr} {m : En → M DV} {pos' : Pos} (h : XSt T X c N k sc) (hi : N[i]? = some x) (hx : Loc sc x) (he : PE X ex (RE c m)) (hs : swapsWith ex (some (.Name x pos')) pos.line X.env = pure false := by rfl) : PS X (.Assign [.Name x pos'] ex pos) (RS c (sSet i m)) := s_set h.e.ndX (h.e.at hi) (h.e.loc hx) he hs h.f
theorem k_setO {i : Nat} {ex : Expr} {m : En → M (List DV)} {pos' : Pos} (h : XSt T X c N k sc) (hi : N[i]? = some x) (hx : Loc sc x) (he : PE X ex (RO c m)) (hs : swapsWith ex (some (.Name x pos')) pos.line X.env = pure false := by rfl) : PS X (.Assign [.Name x pos'] ex pos) (RS c (sSetO i m)) := s_setO h.e.ndX (h.e.at hi) (h.e.loc hx) he hs h.f
theorem k_gn {i : Nat} (h : XSt T X c N k sc) (hi : N[i]? = some x) (hx : Loc sc x) : PG X (.Name x pos) (RG c (tName i) [i]) := g_name h.e.ndX (h.e.at hi) (h.e.loc hx) h.f
theorem k_gs {i : Nat} {is : List Nat} {es : List Expr} (h : XSt T X c N k sc) (hi : N[i]? = some x) (hx : Loc sc x) (h2 : PGs X es (RGs c is))
    (hs : (assignEach (.Name x pos :: es) X.env).map (·.2) = assign (.Name x pos) X.env :: (assignEach es X.env).map (·.2) := by rfl) : PGs X (.Name x pos :: es) (RGs c (i :: is)) := gs_cons h.e.ndX (h.e.at hi) (h.e.loc hx) h2 h.f hs
variable {bs : Scope}
theorem XBl.f (h : XBl T X c N k sc bs) (q : bs.names.lookup x = some .cell ∨ sc.names.lookup x = some .local) : X.fn x = true ∨ X.env.scope.names.lookup x = some .local := by
  rw [h.fn, h.e.sc]
  rcases q with q | q
  · left
    show (bs.names.lookup x == some .cell) = true
    rw [q]
    rfl
  · exact .inr q
theorem k_gnB {i : Nat} (h : XBl T X c N k sc bs) (hi : N[i]? = some x) (hx : Loc sc x) (hf : bs.names.lookup x = some .cell ∨ sc.names.lookup x = some .local) : PG X (.Name x pos) (RG c (tName i) [i]) := g_name h.e.ndX (h.e.at hi) (h.e.loc hx) (h.f hf)
theorem k_gsB {i : Nat} {is : List Nat} {es : List Expr} (h : XBl T X c N k sc bs) (hi : N[i]? = some x) (hx : Loc sc x) (hf : bs.names.lookup x = some .cell ∨ sc.names.lookup x = some .local) (h2 : PGs X es (RGs c is))
    (hs : (assignEach (.Name x pos :: es) X.env).map (·.2) = assign (.Name x pos) X.env :: (assignEach es X.env).map (·.2) := by rfl) : PGs X (.Name x pos :: es) (RGs c (i :: is)) := gs_cons h.e.ndX (h.e.at hi) (h.e.loc hx) h2 (h.f hf) hs
theorem k_for {tg iter : Expr} {body : List Stmt} {mi : En → M (List DV)} {t : DV → En → Option En} {sl : List Nat} (fg : List Nat) {bo : Stm} (h : XSt T X c N k sc) (hi : PI X tg iter (RI c mi)) (hg : PG X tg (RG c t sl)) (hb : PSs X body (RS c bo))
    (hs : ∀ x, foldedSetIterable iter X.env x = pure x := by intro _; rfl) : PS X (.For tg iter body [] pos) (RS c (sFor mi t fg bo)) := s_for h.pa h.e.calm hi hg hb hs
theorem k_app {i : Nat} {ex : Expr} {m : En → M DV} {p3 : Pos} (h : XSt T X c N k sc) (hi : N[i]? = some x) (hv : Vis sc x) (he : PE X ex (RE c m)) (hd : (x == ("__debug__" : Str)) = false := by decide) (hcd : (x == ("__classdict__" : Str)) = false := by decide)
    (hst : starEach (ex :: []) X.env = (false, eval ex X.env) :: starEach [] X.env := by rfl)
    (hbase : attributeBase (.Name x p1) "append" X.env (eval (.Name x p1) X.env) = eval (.Name x p1) X.env := by rfl)
    (hfew : ((backTo p3 (starEach (ex :: []) X.env)).all (fun x => !x.1) && (backToKw p3 (keywordEach [] X.env)).all (fun x => x.1.isSome)
      && decide ((ex :: []).length + ([] : List Keyword).length + (if ([] : List Keyword).isEmpty then 0 else 1) < 30)) = true := by rfl)
    (hline : (p2.endLine == p3.line) = true := by rfl)
    (hs : swapsWith (.Call (.Attribute (.Name x p1) "append" p2) [ex] [] p3) none pos.line X.env = pure false := by rfl) :
    PS X (.Expr (.Call (.Attribute (.Name x p1) "append" p2) [ex] [] p3) pos) (RS c (sApp i m)) :=
  s_app (h.e.at hi) (h.e.vis hv) he hd hcd hst (pe_bm PySem.F.plainAttrs_list PySem.F.slot_list_append PySem.F.type_list_append mt_append (pe_var (h.e.at hi) (h.e.vis hv) hd hcd) (pa_cons he pa_nil hst) hbase hfew hline hst rfl) hs
variable {elt iter : Expr} {ifs : List Expr} {scope : Scope} {own : List (Str × Nat)} {mi : En → M (List DV)} {t : DV → En → Option En} {mt : En → M Bool} {me : En → M DV} {sl : List Nat}
theorem k_lc (hX : XEx T X c N k sc) (own : List (Str × Nat)) (hi : PI X tg iter (RI c mi)) (ok : blkC N sc scope own = true)
    (hg : ∀ X', XBl T X' c.nx N k (relS scope sc) scope → PG X' tg (RG c.nx t sl)) (ht : ∀ X', XBl T X' c.nx N k (relS scope sc) scope → PTs X' ifs (RT c.nx mt)) (he : ∀ X', XBl T X' c.nx N k (relS scope sc) scope → PE X' elt (RE c.nx me))
    (hsl : ∀ k ∈ sl, k ∈ own.map (·.2) := by decide) (hs : ∀ x, foldedSetIterable iter X.env x = pure x := by intro _; rfl) :
    PE X (.ListComp elt [⟨tg, iter, ifs, 0⟩] scope pos) (RO c (mLc (own.map (·.2)) mi t mt me)) :=
  c_lc hX.calm hX.ndX hi (by rw [hX.nm, hX.sc]; exact blkOk_by ok) (fun s H C cl fp => hg _ (hX.blk s H scope C cl fp)) (fun s H C cl fp => ht _ (hX.blk s H scope C cl fp)) (fun s H C cl fp => he _ (hX.blk s H scope C cl fp)) hsl hs
theorem k_setLc {i : Nat} {y : Str} {py spos : Pos} (hX : XSt T X c N k sc) (own : List (Str × Nat)) (hy : N[i]? = some y) (hyl : sc.names.lookup y = some .local) (hsw : (py.line == pos.line) = true) (ha : (scope.names.any fun (n, k) => n == y && (k == .local || k == .cell)) = false)
    (hkf : sc.kind = .function) (hi : PI X tg iter (RI c mi)) (ok : blkC N sc scope own = true)
    (hg : ∀ X', XBl T X' c.nx N k (relS scope sc) scope → PG X' tg (RG c.nx t sl)) (ht : ∀ X', XBl T X' c.nx N k (relS scope sc) scope → PTs X' ifs (RT c.nx mt)) (he : ∀ X', XBl T X' c.nx N k (relS scope sc) scope → PE X' elt (RE c.nx me))
    (hsl : ∀ k ∈ sl, k ∈ own.map (·.2) := by decide) (hs : ∀ x, foldedSetIterable iter X.env x = pure x := by intro _; rfl) :
    PS X (.Assign [.Name y py] (.ListComp elt [⟨tg, iter, ifs, 0⟩] scope pos) spos) (RS c (sSetO i (mLc (own.map (·.2)) mi t mt me))) :=
  s_setLc hX.e.calm hX.e.ndX (hX.e.at hy) (by rw [hX.e.sc]; exact hyl) (sw_true (by rw [hX.e.sc]; exact hkf) (by rw [hX.e.sc]; exact hyl) hsw ha) hi (by rw [hX.e.nm, hX.e.sc]; exact blkOk_by ok) (fun s H C cl fp => hg _ (hX.e.blk s H scope C cl fp)) (fun s H C cl fp => ht _ (hX.e.blk s H scope C cl fp)) (fun s H C cl fp => he _ (hX.e.blk s H scope C cl fp)) hsl hs
end
/-- what is walked, from one value, from two -/
def iB {A : Type} (a : En → M DV) (f : DV → M A) : En → M A := fun e => a e >>= f
def iB2 {A : Type} (a b : En → M DV) (f : DV → DV → M A) : En → M A := fun e => a e >>= fun x => b e >>= fun y => f x y
end LM

/-! The end of a law: what the mirror answers is what the law answers. -/
namespace LM
open PySem L2

theorem cx_no {P : Program} {w : World} {H : Hp} {s : Shared} {e : Value} {s' : Shared} (h : L2N.CX P w [] H s (fun _ _ _ => False) e s') : False := by
  obtain ⟨_, _, _, _, _, _, _, _, _, _, _, _, z⟩ := h
  exact z
theorem only_sqS {K : PySem.W.Frag} {H : Hp} {a : Addr} {xs : List V} (h : Only H) (q : SqL K H a xs) : SqS K H a xs := by
  rcases q with (q | q) | q
  · rcases h a with e | ⟨o, ys, e⟩
    · rw [q] at e
      cases e
    · rw [q] at e
      cases e
  · exact .inl q
  · exact .inr q
/-- the law's promise, from its mirror -/
theorem sp_good {g : Glue} {m : List DV → M DV} {H : Hp} {a : Addr} {ns : List Int} (hO : Only H) (hS : SqL g.K H a (ns.map V.int)) (good : ∃ h', m [.scr ns] [] = .ok (.bl true) h') :
    spF g 1 m [.ref a] H (fun v _ => v = .bl true) fun _ _ _ => False := by
  refine ⟨⟨fun _ => False, []⟩, [], [.scr ns], ⟨rfl, List.nodup_nil, fun p o a e => by simp at e, fun b z => z.elim⟩, ?_, rfl, ?_⟩
  · refine Reps.cons ?_ Reps.nil
    simp only [Rep]
    exact ⟨a, rfl, only_sqS hO hS⟩
  · obtain ⟨h', e⟩ := good
    unfold PostF
    rw [e]
    intro W' H' v _ _ r
    simpa only [Rep] using r
theorem end_of {l : PySem.W.OpenLaw} {k : Nat} {q : Program} {loose : List Str} {XP : (Str → Option Value) → Heap → Prop} {d : DefRec} {x : Str} {fa : List He.Fa} {fn : List He.DefD} {nb : Nat} {gl : PySem.W.Frag → Glue} {m : List DV → M DV}
    (hn : l.most = some 63) (hdf : d.params.defaults = []) (hd : d.name = ("law" : Str)) (hr : Room k callerA) (hK : ∀ K, (gl K).K = K)
    (hF : ∀ (w : World) (mg : Str → Option Value) (h : Heap) (K : PySem.W.Frag), K.In h → h.Ns mainGlobals mg → He.SaysD fa fn K → mg "law" = some (.ref (He.ga K "law")) ∧
      ∃ fd, (∀ (s : Shared) (u : Value), BindsTo s fd ⟨[u], []⟩ [(x, u)]) ∧ ∀ base : Heap, K.In base → base.Ns mainGlobals mg → FnOk l.prog w K mg base (L2N.CX l.prog w) k (He.ga K "law") fd [x] (spF (gl K) 1 m))
    (good : ∀ ns : List Int, ns.length ≤ 63 → (∀ k ∈ ns, Builtin.Int.intBits k ≤ 1048576) → ∃ h', m [.scr ns] [] = .ok (.bl true) h') :
    PySem.W.WalkO q loose XP (He.hookD nb fa fn).says l.row.toRowW d [] (fun f vs => PySem.call f vs) := by
  refine Att.attach_callB hn hdf fun w s₀ s₁ mg mb f o pm cd doc a vs ns G Y ho hd2 hcd hmg hobj hints hlen hbits hg => ?_
  obtain ⟨K, KX, c⟩ := Y
  rw [hd] at hmg
  obtain ⟨e, fd, hb, hf⟩ := hF w mg _ K KX G.T.g c
  rw [e] at hmg
  cases hmg
  refine law_call KX G.T.g G.T.b G.T.builtins G.T.nolimit hg hobj hints (Nat.le_trans hlen (by decide +kernel)) hr (fun base h1 h2 => hf base h1 h2) hb (fun H hO hS => ?_) fun H e2 s2 z => cx_no z
  exact sp_good hO (by rw [hK]; exact hS) (good ns hlen hbits)
end LM

/-! What the mirror answers, step by step: rules for simp. -/
namespace LM
open PySem L2

section
variable {A B : Type}
def bR (r : Res A) (k : A → HP → Res B) : Res B := match r with
  | .ok a h => k a h
  | .exc x h => .exc x h
  | .bad => .bad
@[simp] theorem bR_ok (a : A) (h : HP) (k : A → HP → Res B) : bR (.ok a h) k = k a h := rfl
@[simp] theorem bR_exc (x : Ex) (h : HP) (k : A → HP → Res B) : bR (.exc x h) k = .exc x h := rfl
@[simp] theorem bR_bad (k : A → HP → Res B) : bR .bad k = .bad := rfl
@[simp] theorem bR_ite {c : Prop} [Decidable c] (r s : Res A) (k : A → HP → Res B) : bR (if c then r else s) k = if c then bR r k else bR s k := by split <;> rfl
@[simp] theorem bind_app (m : M A) (k : A → M B) (h : HP) : (m >>= k) h = bR (m h) fun a h' => k a h' := rfl
@[simp] theorem pure_app (a : A) (h : HP) : (Pure.pure a : M A) h = .ok a h := rfl
@[simp] theorem bad_app (h : HP) : (M.bad : M A) h = .bad := rfl
@[simp] theorem ite_app {c : Prop} [Decidable c] (m n : M A) (h : HP) : (if c then m else n) h = if c then m h else n h := by split <;> rfl
def uR (r : Res A) (e : En) (k : A → Stm) : SRes := match r with
  | .ok a h => k a e h
  | .exc x h => .exc x e h
  | .bad => .bad
@[simp] theorem uR_ok (a : A) (h : HP) (e : En) (k : A → Stm) : uR (.ok a h) e k = k a e h := rfl
@[simp] theorem uR_exc (x : Ex) (h : HP) (e : En) (k : A → Stm) : uR (.exc x h) e k = .exc x e h := rfl
@[simp] theorem uR_bad (e : En) (k : A → Stm) : uR .bad e k = .bad := rfl
@[simp] theorem uR_ite {c : Prop} [Decidable c] (r s : Res A) (e : En) (k : A → Stm) : uR (if c then r else s) e k = if c then uR r e k else uR s e k := by split <;> rfl
@[simp] theorem sBind_app (m : En → M A) (k : A → Stm) (e : En) (h : HP) : sBind m k e h = uR (m e h) e k := rfl
end
def qR (r : SRes) (k : Stm) : SRes := match r with
  | .nx e h => k e h
  | r => r
@[simp] theorem qR_nx (e : En) (h : HP) (k : Stm) : qR (.nx e h) k = k e h := rfl
@[simp] theorem qR_rt (d : DV) (h : HP) (k : Stm) : qR (.rt d h) k = .rt d h := rfl
@[simp] theorem qR_bk (e : En) (h : HP) (k : Stm) : qR (.bk e h) k = .bk e h := rfl
@[simp] theorem qR_ct (e : En) (h : HP) (k : Stm) : qR (.ct e h) k = .ct e h := rfl
@[simp] theorem qR_exc (x : Ex) (e : En) (h : HP) (k : Stm) : qR (.exc x e h) k = .exc x e h := rfl
@[simp] theorem qR_bad (k : Stm) : qR .bad k = .bad := rfl
theorem qR_ite {c : Prop} [Decidable c] (r s : SRes) (k : Stm) : qR (if c then r else s) k = if c then qR r k else qR s k := by split <;> rfl
def fR : SRes → Res DV
  | .nx _ h' => .ok .non h'
  | .rt d h' => .ok d h'
  | .exc x _ h' => .exc x h'
  | _ => .bad
@[simp] theorem fR_nx (e : En) (h : HP) : fR (.nx e h) = .ok .non h := rfl
@[simp] theorem fR_rt (d : DV) (h : HP) : fR (.rt d h) = .ok d h := rfl
@[simp] theorem fR_exc (x : Ex) (e : En) (h : HP) : fR (.exc x e h) = .exc x h := rfl
@[simp] theorem fR_bad : fR .bad = .bad := rfl
theorem fR_ite {c : Prop} [Decidable c] (r s : SRes) : fR (if c then r else s) = if c then fR r else fR s := by split <;> rfl
theorem fnM_app (N : Nat) (b : Stm) (ds : List DV) (h : HP) : fnM N b ds h = fR (b (ds.map .val ++ List.replicate (N - ds.length) .none) h) := by
  unfold fnM fR
  rfl
@[simp] theorem sSeq_app (a b : Stm) (e : En) (h : HP) : sSeq a b e h = qR (a e h) b := by
  unfold sSeq qR
  rfl
@[simp] theorem sNext_app (e : En) (h : HP) : sNext e h = .nx e h := rfl
@[simp] theorem sSet_app (i : Nat) (m : En → M DV) (e : En) (h : HP) : sSet i m e h = uR (m e h) e fun d e h => .nx (e.set i (.val d)) h := rfl
@[simp] theorem sSetO_app (i : Nat) (m : En → M (List DV)) (e : En) (h : HP) : sSetO i m e h = uR (m e h) e fun d e h => .nx (e.set i (.own d)) h := rfl
@[simp] theorem sSetL_app (i : Nat) (m : En → M (List DV)) (e : En) (h : HP) : sSetL i m e h = uR (m e h) e fun d e h => .nx (e.set i (.val (.lst d))) h := by
  unfold sSetL sSet eFrz
  rw [sBind_app, bind_app]
  cases m e h <;> rfl
@[simp] theorem sRet_app (m : En → M DV) (e : En) (h : HP) : sRet m e h = uR (m e h) e fun d _ h => .rt d h := rfl
@[simp] theorem sRetN_app (e : En) (h : HP) : sRetN e h = .rt .non h := rfl
@[simp] theorem sExpr_app (m : En → M DV) (e : En) (h : HP) : sExpr m e h = uR (m e h) e fun _ e h => .nx e h := rfl
@[simp] theorem sIf_app (t : En → M Bool) (a b : Stm) (e : En) (h : HP) : sIf t a b e h = uR (t e h) e fun x e h => if x then a e h else b e h := rfl
@[simp] theorem sFor_app (mi : En → M (List DV)) (t : DV → En → Option En) (fg : List Nat) (b : Stm) (e : En) (h : HP) : sFor mi t fg b e h = uR (mi e h) e fun ds e h => forL t b fg ds (wipeE e fg) h := rfl
def slO (o : Option Slot) (k : List DV → SRes) : SRes := match o with
  | some (.own l) => k l
  | _ => .bad
@[simp] theorem slO_own (l : List DV) (k : List DV → SRes) : slO (some (.own l)) k = k l := rfl
@[simp] theorem sApp_app (i : Nat) (m : En → M DV) (e : En) (h : HP) : sApp i m e h = slO e[i]? fun l => uR (m e h) e fun d _ h' => if l.length < LN then .nx (e.set i (.own (l ++ [d]))) h' else .bad := by
  unfold sApp
  cases e[i]? with
  | none => rfl
  | some x =>
    cases x with
    | own l =>
      simp only [slO_own]
      cases m e h <;> rfl
    | _ => rfl
def slF (o : Option Slot) (e : En) (i : Nat) (h : HP) : SRes := match o with
  | some (.own l) => .nx (e.set i (.val (.lst l))) h
  | some (.val _) => .nx e h
  | _ => .bad
@[simp] theorem slF_own (l : List DV) (e : En) (i : Nat) (h : HP) : slF (some (.own l)) e i h = .nx (e.set i (.val (.lst l))) h := rfl
@[simp] theorem slF_val (d : DV) (e : En) (i : Nat) (h : HP) : slF (some (.val d)) e i h = .nx e h := rfl
@[simp] theorem sFrz_app (i : Nat) (e : En) (h : HP) : sFrz i e h = slF e[i]? e i h := rfl
/-! ### expressions -/
def slV (o : Option Slot) (h : HP) : Res DV := match o with
  | some (.val d) => .ok d h
  | _ => .bad
@[simp] theorem slV_val (d : DV) (h : HP) : slV (some (.val d)) h = .ok d h := rfl
@[simp] theorem eVar_app (i : Nat) (e : En) (h : HP) : eVar i e h = slV e[i]? h := rfl
def slB (o : Option Slot) (h : HP) : Res DV := match o with
  | some (.val d) => .ok d h
  | some (.own l) => .ok (.lst l) h
  | some (.dic ks l) => .ok (.dct ks l) h
  | _ => .bad
@[simp] theorem slB_val (d : DV) (h : HP) : slB (some (.val d)) h = .ok d h := rfl
@[simp] theorem slB_own (l : List DV) (h : HP) : slB (some (.own l)) h = .ok (.lst l) h := rfl
@[simp] theorem eBor_app (i : Nat) (e : En) (h : HP) : eBor i e h = slB e[i]? h := rfl
@[simp] theorem eC_app (d : DV) (e : En) (h : HP) : eC d e h = .ok d h := rfl
@[simp] theorem e1_app (p : DV → M DV) (a : En → M DV) (e : En) (h : HP) : e1 p a e h = bR (a e h) fun x h => p x h := rfl
@[simp] theorem e2_app (p : DV → DV → M DV) (a b : En → M DV) (e : En) (h : HP) : e2 p a b e h = bR (a e h) fun x h => bR (b e h) fun y h => p x y h := rfl
def b3 (d : DV) (h : HP) (m : Res DV) : Res DV := match d with
  | .bl true => m
  | .bl false => .ok (.bl false) h
  | _ => .bad
@[simp] theorem b3_t (h : HP) (m : Res DV) : b3 (.bl true) h m = m := rfl
@[simp] theorem b3_f (h : HP) (m : Res DV) : b3 (.bl false) h m = .ok (.bl false) h := rfl
@[simp] theorem b3_d {c : Prop} [Decidable c] (h : HP) (m : Res DV) : b3 (.bl (decide c)) h m = if c then m else .ok (.bl false) h := by
  by_cases z : c <;> simp [z]
@[simp] theorem e3c_app (p r : DV → DV → M DV) (a b z : En → M DV) (e : En) (h : HP) : e3c p r a b z e h = bR (a e h) fun x h => bR (b e h) fun y h => bR (p x y h) fun t h => b3 t h (bR (z e h) fun u h => r y u h) := by
  unfold e3c
  simp only [bind_app]
  congr 1
  funext x h
  congr 1
  funext y h
  congr 1
  funext t h
  cases t with
  | bl u => cases u <;> rfl
  | _ => rfl
@[simp] theorem aNil_app (e : En) (h : HP) : aNil e h = .ok [] h := rfl
@[simp] theorem aCons_app (m : En → M DV) (ms : En → M (List DV)) (e : En) (h : HP) : aCons m ms e h = bR (m e h) fun x h => bR (ms e h) fun xs h => .ok (x :: xs) h := rfl
@[simp] theorem iB_app {A : Type} (a : En → M DV) (f : DV → M A) (e : En) (h : HP) : iB a f e h = bR (a e h) fun x h => f x h := rfl
@[simp] theorem iB2_app {A : Type} (a b : En → M DV) (f : DV → DV → M A) (e : En) (h : HP) : iB2 a b f e h = bR (a e h) fun x h => bR (b e h) fun y h => f x y h := rfl
@[simp] theorem eTup_app (ms : En → M (List DV)) (e : En) (h : HP) : eTup ms e h = bR (ms e h) fun l h => .ok (.tup l) h := rfl
@[simp] theorem eFrz_app (ms : En → M (List DV)) (e : En) (h : HP) : eFrz ms e h = bR (ms e h) fun l h => .ok (.lst l) h := rfl
@[simp] theorem eCall_app (m : List DV → M DV) (ms : En → M (List DV)) (e : En) (h : HP) : eCall m ms e h = bR (ms e h) fun l h => m l h := rfl
@[simp] theorem eCut_app (m : En → M DV) (lo hi : En → M (Option Int)) (e : En) (h : HP) : eCut m lo hi e h = bR (m e h) fun x h => bR (lo e h) fun l h => bR (hi e h) fun u h => vCut x l u h := rfl
@[simp] theorem oNone_app (e : En) (h : HP) : oNone e h = .ok none h := rfl
def oI (d : DV) (h : HP) : Res (Option Int) := match d with
  | .int i => .ok (some i) h
  | _ => .bad
@[simp] theorem oI_int (i : Int) (h : HP) : oI (.int i) h = .ok (some i) h := rfl
@[simp] theorem oSome_app (m : En → M DV) (e : En) (h : HP) : oSome m e h = bR (m e h) fun d h => oI d h := by
  unfold oSome
  rw [bind_app]
  congr 1
  funext d h
  cases d <;> rfl
@[simp] theorem eAnd_app (a b : En → M DV) (e : En) (h : HP) : eAnd a b e h = bR (a e h) fun t h => b3 t h (b e h) := by
  unfold eAnd
  rw [bind_app]
  congr 1
  funext d h
  cases d with
  | bl u => cases u <;> rfl
  | _ => rfl
def b4 (d : DV) (h : HP) (m : Res DV) : Res DV := match d with
  | .bl true => .ok (.bl true) h
  | .bl false => m
  | _ => .bad
@[simp] theorem b4_t (h : HP) (m : Res DV) : b4 (.bl true) h m = .ok (.bl true) h := rfl
@[simp] theorem b4_f (h : HP) (m : Res DV) : b4 (.bl false) h m = m := rfl
@[simp] theorem b4_d {c : Prop} [Decidable c] (h : HP) (m : Res DV) : b4 (.bl (decide c)) h m = if c then .ok (.bl true) h else m := by
  by_cases z : c <;> simp [z]
@[simp] theorem eOr_app (a b : En → M DV) (e : En) (h : HP) : eOr a b e h = bR (a e h) fun t h => b4 t h (b e h) := by
  unfold eOr
  rw [bind_app]
  congr 1
  funext d h
  cases d with
  | bl u => cases u <;> rfl
  | _ => rfl
@[simp] theorem tb_app (m : En → M DV) (e : En) (h : HP) : tb m e h = bR (m e h) fun x h => asB x h := rfl
@[simp] theorem tAnd_app (a b : En → M Bool) (e : En) (h : HP) : tAnd a b e h = bR (a e h) fun x h => if x then b e h else .ok false h := by
  unfold tAnd
  rw [bind_app]
  congr 1
  funext d h
  cases d <;> rfl
@[simp] theorem tOr_app (a b : En → M Bool) (e : En) (h : HP) : tOr a b e h = bR (a e h) fun x h => if x then .ok true h else b e h := by
  unfold tOr
  rw [bind_app]
  congr 1
  funext d h
  cases d <;> rfl
@[simp] theorem tNot_app (a : En → M Bool) (e : En) (h : HP) : tNot a e h = bR (a e h) fun x h => .ok (!x) h := rfl
@[simp] theorem asB_bl (b : Bool) (h : HP) : asB (.bl b) h = .ok b h := rfl
/-! ### values -/
/-- numbers as data -/
def nums (l : List Int) : List DV := l.map DV.int
@[simp] theorem nums_nil : nums [] = [] := rfl
@[simp] theorem nums_cons (x : Int) (l : List Int) : nums (x :: l) = .int x :: nums l := rfl
@[simp] theorem nums_app (l m : List Int) : nums (l ++ m) = nums l ++ nums m := List.map_append
@[simp] theorem nums_len (l : List Int) : (nums l).length = l.length := List.length_map _
@[simp] theorem nums_rev (l : List Int) : (nums l).reverse = nums l.reverse := List.map_reverse.symm
@[simp] theorem nums_drop (l : List Int) (k : Nat) : (nums l).drop k = nums (l.drop k) := List.map_drop.symm
@[simp] theorem nums_take (l : List Int) (k : Nat) : (nums l).take k = nums (l.take k) := List.map_take.symm
@[simp] theorem nums_last (l : List Int) : (nums l).dropLast = nums l.dropLast := List.map_dropLast.symm
theorem nums_at {l : List Int} {k : Nat} (h : k < l.length) : (nums l)[k]? = some (.int (l.getD k 0)) := by
  unfold nums
  simp [h]
theorem nums_map {A : Type} (f : A → Int) (l : List A) : nums (l.map f) = l.map fun x => DV.int (f x) := by
  unfold nums
  rw [List.map_map]
  rfl
theorem nums_inj {l m : List Int} : nums l = nums m ↔ l = m := by
  constructor
  · exact fun h => (List.map_inj_right (fun _ _ e => by cases e; rfl)).mp h
  · exact fun h => by rw [h]
section
variable (h : HP) (i j : Int) (a b : Bool) (s t : Str) (l m : List DV)
@[simp] theorem vAdd_int : vAdd (.int i) (.int j) h = .ok (.int (i + j)) h := rfl
@[simp] theorem vAdd_tup (q : l.length + m.length ≤ LN) : vAdd (.tup l) (.tup m) h = .ok (.tup (l ++ m)) h := by
  simp only [vAdd]
  rw [if_pos q]
  rfl
@[simp] theorem vAdd_lst (q : l.length + m.length ≤ LN) : vAdd (.lst l) (.lst m) h = .ok (.lst (l ++ m)) h := by
  simp only [vAdd]
  rw [if_pos q]
  rfl
@[simp] theorem lAdd_lst (q : l.length + m.length ≤ LN) : lAdd (.lst l) (.lst m) h = .ok (l ++ m) h := by
  simp only [lAdd]
  rw [if_pos q]
  rfl
@[simp] theorem vSub_int : vSub (.int i) (.int j) h = .ok (.int (i - j)) h := rfl
@[simp] theorem vMul_int (q : mulOk i j = true) : vMul (.int i) (.int j) h = .ok (.int (i * j)) h := by
  simp only [vMul]
  rw [if_pos q]
  rfl
theorem mulOk_r (q1 : -1000000000000 ≤ j) (q2 : j ≤ 1000000000000) : mulOk i j = true := by
  unfold mulOk
  rw [decide_eq_true (show -(2 ^ 64) < j by omega), decide_eq_true (show j < 2 ^ 64 by omega)]
  simp
theorem mulOk_l (q1 : -1000000000000 ≤ i) (q2 : i ≤ 1000000000000) : mulOk i j = true := by
  unfold mulOk
  rw [decide_eq_true (show -(2 ^ 64) < i by omega), decide_eq_true (show i < 2 ^ 64 by omega)]
  simp
@[simp] theorem vDiv_int (q : 0 < j) (q2 : j < 1073741824) : vDiv (.int i) (.int j) h = .ok (.int (i / j)) h := by
  simp only [vDiv, decide_eq_true q, decide_eq_true q2]
  rfl
@[simp] theorem vMod_int (q : 0 < j) : vMod (.int i) (.int j) h = .ok (.int (i % j)) h := by
  simp only [vMod]
  rw [if_pos q]
  rfl
@[simp] theorem vNeg_int : vNeg (.int i) h = .ok (.int (-i)) h := rfl
@[simp] theorem vLt_int : vLt (.int i) (.int j) h = .ok (.bl (decide (i < j))) h := rfl
@[simp] theorem vLe_int : vLe (.int i) (.int j) h = .ok (.bl (decide (i ≤ j))) h := rfl
@[simp] theorem vGt_int : vGt (.int i) (.int j) h = .ok (.bl (decide (j < i))) h := rfl
@[simp] theorem vGe_int : vGe (.int i) (.int j) h = .ok (.bl (decide (j ≤ i))) h := rfl
@[simp] theorem vNot_bl : vNot (.bl a) h = .ok (.bl (!a)) h := rfl
@[simp] theorem vIsN_non : vIsN .non h = .ok (.bl true) h := rfl
@[simp] theorem vNotN_non : vNotN .non h = .ok (.bl false) h := rfl
@[simp] theorem vIsN_any (d : DV) : vIsN d h = .ok (.bl (isNon d)) h := rfl
@[simp] theorem vNotN_any (d : DV) : vNotN d h = .ok (.bl (!isNon d)) h := rfl
@[simp] theorem isNon_non : isNon .non = true := rfl
@[simp] theorem isNon_int : isNon (.int i) = false := rfl
@[simp] theorem isNon_tup : isNon (.tup l) = false := rfl
@[simp] theorem isNon_lst : isNon (.lst l) = false := rfl
@[simp] theorem isNon_str : isNon (.str s) = false := rfl
@[simp] theorem isNon_bl : isNon (.bl a) = false := rfl
@[simp] theorem vInt_int : vInt (.int i) h = .ok (.int i) h := rfl
@[simp] theorem vInt_bl : vInt (.bl a) h = .ok (.int (if a then 1 else 0)) h := rfl
@[simp] theorem vMax_int : vMax (.int i) (.int j) h = .ok (.int (if j > i then j else i)) h := rfl
@[simp] theorem vMin_int : vMin (.int i) (.int j) h = .ok (.int (if j < i then j else i)) h := rfl
@[simp] theorem vLen_tup : vLen (.tup l) h = .ok (.int l.length) h := rfl
@[simp] theorem vLen_lst : vLen (.lst l) h = .ok (.int l.length) h := rfl
@[simp] theorem vLen_scr (ns : List Int) : vLen (.scr ns) h = .ok (.int ns.length) h := by
  show Res.ok (DV.int ((nums ns).length : Nat)) h = _
  rw [nums_len]
@[simp] theorem vTup_tup : vTup (.tup l) h = .ok (.tup l) h := rfl
@[simp] theorem vTup_lst : vTup (.lst l) h = .ok (.tup l) h := rfl
@[simp] theorem lLst_tup : lLst (.tup l) h = .ok l h := rfl
@[simp] theorem lLst_lst : lLst (.lst l) h = .ok l h := rfl
@[simp] theorem vTupRev_lst : vTupRev (.lst l) h = .ok (.tup l.reverse) h := rfl
@[simp] theorem vSum_ints (ns : List Int) : vSum (.lst (nums ns)) h = .ok (.int ns.sum) h := by
  show (match asInts (ns.map DV.int) with
    | some ns => Res.ok (DV.int ns.sum) h
    | none => .bad) = _
  rw [asInts_ints]
@[simp] theorem vIsI_int : vIsI .int (.int i) h = .ok (.bl true) h := rfl
@[simp] theorem vIsI_intb : vIsI .bool (.int i) h = .ok (.bl false) h := rfl
@[simp] theorem vIsI_tup : vIsI .tuple (.tup l) h = .ok (.bl true) h := rfl
@[simp] theorem vIsI_lst : vIsI .list (.lst l) h = .ok (.bl true) h := rfl
@[simp] theorem vIsI_any (T : Ty) (d : DV) {t : Ty} (q : tyD h d = some t) : vIsI T d h = .ok (.bl (t.is T)) h := by
  unfold vIsI
  rw [q]
theorem atI_nat {A : Type} (l : List A) (k : Nat) : atI l (k : Int) = l[k]? := by
  unfold atI ixN
  rw [if_pos (Int.natCast_nonneg k)]
  by_cases z : k < l.length
  · rw [if_pos (by omega)]
    simp
  · rw [if_neg (by omega), List.getElem?_eq_none (by omega)]
    rfl
theorem getI_nat (k : Nat) {d : DV} (q : l[k]? = some d) : getI l (k : Int) h = .ok d h := by
  unfold getI
  rw [atI_nat, q]
  rfl
@[simp] theorem vIdx_tup : vIdx (.tup l) (.int i) h = getI l i h := rfl
@[simp] theorem vIdx_lst : vIdx (.lst l) (.int i) h = getI l i h := rfl
@[simp] theorem vIdx_scr (ns : List Int) : vIdx (.scr ns) (.int i) h = getI (nums ns) i h := rfl
@[simp] theorem vCut_tup (lo hi : Option Int) : vCut (.tup l) lo hi h = .ok (.tup (cutD l lo hi)) h := rfl
@[simp] theorem vCut_lst (lo hi : Option Int) : vCut (.lst l) lo hi h = .ok (.lst (cutD l lo hi)) h := rfl
@[simp] theorem itS_tup : itS (.tup l) h = .ok l h := rfl
@[simp] theorem itS_lst : itS (.lst l) h = .ok l h := rfl
@[simp] theorem itS_scr (ns : List Int) : itS (.scr ns) h = .ok (nums ns) h := rfl
@[simp] theorem itR_tup : itR (.tup l) h = .ok l.reverse h := rfl
@[simp] theorem itR_lst : itR (.lst l) h = .ok l.reverse h := rfl
@[simp] theorem itN_nat (n : Nat) (q : n ≤ 16777216) : itN (.int (n : Int)) h = .ok (rng n) h := by
  simp only [itN]
  rw [decide_eq_true (show (-16777216 : Int) ≤ n by omega), decide_eq_true (show (n : Int) ≤ 16777216 by omega)]
  rfl
theorem itN_int (q1 : 0 ≤ i) (q2 : i ≤ 16777216) : itN (.int i) h = .ok (rng i.toNat) h := by
  simp only [itN]
  rw [decide_eq_true (show (-16777216 : Int) ≤ i by omega), decide_eq_true q2]
  rfl
@[simp] theorem itZ_tup : itZ (.tup l) (.tup m) h = .ok (zipD l m) h := rfl
@[simp] theorem itZ_lst : itZ (.lst l) (.lst m) h = .ok (zipD l m) h := rfl
end
theorem sx_nat (n d k : Nat) : sx n d (some (k : Int)) = min k n := by
  show (if (k : Int) < 0 then ((k : Int) + n).toNat else min (k : Int).toNat n) = _
  rw [if_neg (by omega)]
  rfl
theorem cut_from (l : List DV) (k : Nat) : cutD l (some (k : Int)) none = l.drop k := by
  unfold cutD
  have e1 : sx l.length l.length none = l.length := rfl
  rw [e1, sx_nat]
  by_cases z : k ≤ l.length
  · rw [Nat.min_eq_left z]
    exact List.take_of_length_le (by rw [List.length_drop]; omega)
  · rw [Nat.min_eq_right (by omega), List.drop_eq_nil_of_le (Nat.le_refl _), List.drop_eq_nil_of_le (by omega : l.length ≤ k), List.take_nil]
theorem cut_to (l : List DV) (k : Nat) : cutD l none (some (k : Int)) = l.take k := by
  unfold cutD
  have e1 : sx l.length 0 none = 0 := rfl
  rw [e1, sx_nat, List.drop_zero, Nat.sub_zero]
  by_cases z : k ≤ l.length
  · rw [Nat.min_eq_left z]
  · rw [Nat.min_eq_right (by omega), List.take_of_length_le (Nat.le_refl _), List.take_of_length_le (by omega)]
theorem cut_last (l : List DV) : cutD l none (some (-1)) = l.dropLast := by
  unfold cutD
  have e1 : sx l.length 0 none = 0 := rfl
  have e2 : sx l.length l.length (some (-1)) = l.length - 1 := by
    show (if (-1 : Int) < 0 then ((-1 : Int) + (l.length : Nat)).toNat else min (-1 : Int).toNat l.length) = _
    rw [if_pos (by omega)]
    omega
  rw [e1, e2, List.drop_zero, Nat.sub_zero, List.dropLast_eq_take]
/-! ### equality -/
theorem toPDs_some : ∀ {l : List DV} {r : List PyData}, toPDs l = some r → r.length = l.length
  | [], _, e => by
    simp only [toPDs] at e
    cases e
    rfl
  | d :: ds, _, e => by
    unfold toPDs at e
    cases a : toPD d with
    | none =>
      rw [a] at e
      cases e
    | some x =>
      cases b : toPDs ds with
      | none =>
        rw [a, b] at e
        cases e
      | some r =>
        rw [a, b] at e
        cases e
        rw [List.length_cons, List.length_cons, toPDs_some b]
mutual
theorem eqv_self : ∀ {d : PyData}, d.canLay0 = true → PyData.eqv d d = true
  | .none, _ => rfl
  | .bool b, _ => by simp [PyData.eqv]
  | .int i, _ => by simp [PyData.eqv]
  | .str s, _ => by simp [PyData.eqv]
  | .list l, q => by
    unfold PyData.eqv
    exact eqvAll_self (by unfold PyData.canLay0 at q; exact q)
  | .tuple l, q => by
    unfold PyData.eqv
    exact eqvAll_self (by unfold PyData.canLay0 at q; exact q)
  | .dict _, q => by
    unfold PyData.canLay0 at q
    cases q
theorem eqvAll_self : ∀ {l : List PyData}, PyData.canLayAll0 l = true → PyData.eqvAll l l = true
  | [], _ => rfl
  | x :: r, q => by
    unfold PyData.eqvAll
    unfold PyData.canLayAll0 at q
    obtain ⟨a, b⟩ := Bool.and_eq_true_iff.mp q
    rw [eqv_self a, eqvAll_self b]
    rfl
end
/-- may be compared -/
def okD (d : DV) : Bool := match toPD d with
  | some x => SeqAt.shaped x
  | none => false
theorem eqD_self {d : DV} (q : okD d = true) : eqD d d = some true := by
  unfold okD at q
  unfold eqD
  cases z : toPD d with
  | none =>
    rw [z] at q
    cases q
  | some x =>
    rw [z] at q
    simp only [] at q
    simp only []
    rw [q, if_pos (by rfl), eqv_self (SeqAt.canLay_of_shaped q)]
theorem vEq_self {d : DV} (h : HP) (q : okD d = true) : vEq d d h = .ok (.bl true) h := by
  unfold vEq
  rw [eqD_self q]
  try rfl
theorem vNe_self {d : DV} (h : HP) (q : okD d = true) : vNe d d h = .ok (.bl false) h := by
  unfold vNe
  rw [eqD_self q]
  try rfl
@[simp] theorem vEq_int (h : HP) (i j : Int) : vEq (.int i) (.int j) h = .ok (.bl (decide (i = j))) h := by
  show Res.ok (DV.bl (i == j)) h = Res.ok (DV.bl (decide (i = j))) h
  congr 2
@[simp] theorem vNe_int (h : HP) (i j : Int) : vNe (.int i) (.int j) h = .ok (.bl (!decide (i = j))) h := by
  show Res.ok (DV.bl (!(i == j))) h = _
  congr 3
theorem toPDs_ints (l : List Int) : toPDs (nums l) = some (l.map PyData.int) := by
  induction l with
  | nil => rfl
  | cons x r ih =>
    show (match toPD (DV.int x), toPDs (nums r) with
      | some x, some r => some (x :: r)
      | _, _ => none) = _
    rw [ih]
    rfl
theorem lay_ints (l : List Int) : PyData.canLayAll0 (l.map PyData.int) = true := by
  induction l with
  | nil => rfl
  | cons x r ih =>
    rw [List.map_cons]
    unfold PyData.canLayAll0
    rw [ih]
    rfl
theorem dep_ints (l : List Int) : PyData.depthAll (l.map PyData.int) = 0 := by
  induction l with
  | nil => rfl
  | cons x r ih =>
    rw [List.map_cons]
    unfold PyData.depthAll
    rw [ih]
    rfl
theorem eqv_ints (l m : List Int) : PyData.eqvAll (l.map PyData.int) (m.map PyData.int) = decide (l = m) := by
  induction l generalizing m with
  | nil => cases m <;> rfl
  | cons x r ih =>
    cases m with
    | nil => rfl
    | cons y t =>
      rw [List.map_cons, List.map_cons]
      unfold PyData.eqvAll
      rw [ih]
      show ((x == y) && decide (r = t)) = decide (x :: r = y :: t)
      by_cases a : x = y
      · by_cases b : r = t
        · simp [a, b]
        · simp [a, b]
      · simp [a]
theorem sh_tup (l : List Int) : SeqAt.shaped (.tuple (l.map PyData.int)) = true := by
  unfold SeqAt.shaped PyData.canLay0 PyData.depth
  rw [lay_ints, dep_ints]
  rfl
theorem sh_lst (l : List Int) : SeqAt.shaped (.list (l.map PyData.int)) = true := by
  unfold SeqAt.shaped PyData.canLay0 PyData.depth
  rw [lay_ints, dep_ints]
  rfl
theorem toPD_tup (l : List Int) : toPD (.tup (nums l)) = some (.tuple (l.map PyData.int)) := by
  unfold toPD
  rw [toPDs_ints]
theorem toPD_lst (l : List Int) : toPD (.lst (nums l)) = some (.list (l.map PyData.int)) := by
  unfold toPD
  rw [toPDs_ints]
theorem okD_tup (l : List Int) : okD (.tup (nums l)) = true := by
  unfold okD
  rw [toPD_tup]
  exact sh_tup l
theorem okD_lst (l : List Int) : okD (.lst (nums l)) = true := by
  unfold okD
  rw [toPD_lst]
  exact sh_lst l
theorem eqD_tup (l m : List Int) : eqD (.tup (nums l)) (.tup (nums m)) = some (decide (l = m)) := by
  unfold eqD
  rw [toPD_tup, toPD_tup]
  show (if (SeqAt.shaped _ && SeqAt.shaped _) = true then _ else _) = _
  rw [sh_tup, sh_tup, if_pos (by rfl)]
  unfold PyData.eqv
  rw [eqv_ints]
theorem eqD_lst (l m : List Int) : eqD (.lst (nums l)) (.lst (nums m)) = some (decide (l = m)) := by
  unfold eqD
  rw [toPD_lst, toPD_lst]
  show (if (SeqAt.shaped _ && SeqAt.shaped _) = true then _ else _) = _
  rw [sh_lst, sh_lst, if_pos (by rfl)]
  unfold PyData.eqv
  rw [eqv_ints]
theorem vEq_tup (h : HP) (l m : List Int) : vEq (.tup (nums l)) (.tup (nums m)) h = .ok (.bl (decide (l = m))) h := by
  unfold vEq
  rw [eqD_tup]
  rfl
theorem vNe_tup (h : HP) (l m : List Int) : vNe (.tup (nums l)) (.tup (nums m)) h = .ok (.bl (!decide (l = m))) h := by
  unfold vNe
  rw [eqD_tup]
  rfl
theorem vNe_tup0 (h : HP) (l : List Int) : vNe (.tup (nums l)) (.tup []) h = .ok (.bl (!decide (l = []))) h := vNe_tup h l []
theorem vEq_lst (h : HP) (l m : List Int) : vEq (.lst (nums l)) (.lst (nums m)) h = .ok (.bl (decide (l = m))) h := by
  unfold vEq
  rw [eqD_lst]
  rfl
theorem vNe_lst (h : HP) (l m : List Int) : vNe (.lst (nums l)) (.lst (nums m)) h = .ok (.bl (!decide (l = m))) h := by
  unfold vNe
  rw [eqD_lst]
  rfl

/-! ### loops -/
/-- what one turn of a comprehension gives -/
def lcOne (t : DV → En → Option En) (mt : En → M Bool) (me : En → M DV) (e : En) (d : DV) (h : HP) : Res (Option DV) := match t d e with
  | none => .bad
  | some e1 => bR (mt e1 h) fun b h => if b then bR (me e1 h) fun x h => .ok (some x) h else .ok none h
theorem lcL_is (t : DV → En → Option En) (mt : En → M Bool) (me : En → M DV) (e : En) (d : DV) (ds : List DV) (h : HP) : lcL t mt me e (d :: ds) h = bR (lcOne t mt me e d h) fun o h => bR (lcL t mt me e ds h) fun r h => .ok (match o with
    | some x => x :: r
    | none => r) h := by
  show (match t d e with
    | none => M.bad
    | some e1 => mt e1 >>= fun b => if b then me e1 >>= fun x => lcL t mt me e ds >>= fun r => pure (x :: r) else lcL t mt me e ds) h = _
  unfold lcOne
  cases t d e with
  | none => rfl
  | some e1 =>
    simp only [bind_app]
    cases mt e1 h with
    | exc x h => rfl
    | bad => rfl
    | ok b h =>
      cases b with
      | false =>
        simp only [bR_ok, if_false, Bool.false_eq_true]
        cases lcL t mt me e ds h <;> rfl
      | true =>
        simp only [bR_ok, if_true, bind_app]
        cases me e1 h with
        | exc x h => rfl
        | bad => rfl
        | ok a h =>
          simp only [bR_ok]
          cases lcL t mt me e ds h <;> rfl
theorem lcL_filter (t : DV → En → Option En) (mt : En → M Bool) (me : En → M DV) (e : En) (h : HP) (f : DV → Option DV) : ∀ ds : List DV, (∀ d ∈ ds, lcOne t mt me e d h = .ok (f d) h) → lcL t mt me e ds h = .ok (ds.filterMap f) h
  | [], _ => rfl
  | d :: ds, q => by
    rw [lcL_is, q d (List.mem_cons_self), bR_ok, lcL_filter t mt me e h f ds fun x z => q x (List.mem_cons_of_mem _ z), bR_ok, List.filterMap_cons]
    cases f d <;> rfl
theorem mLc_filter {vs : List Nat} {mi : En → M (List DV)} {t : DV → En → Option En} {mt : En → M Bool} {me : En → M DV} {e : En} {h : HP} {ds : List DV} (f : DV → Option DV) (hi : mi e h = .ok ds h) (hl : ds.length ≤ LN) (q : ∀ d ∈ ds, lcOne t mt me (wipeE e vs) d h = .ok (f d) h) :
    mLc vs mi t mt me e h = .ok (ds.filterMap f) h := by
  unfold mLc
  rw [bind_app, hi, bR_ok, if_pos hl]
  unfold noX
  rw [lcL_filter t mt me _ h f ds q]
theorem mLc_map {vs : List Nat} {mi : En → M (List DV)} {t : DV → En → Option En} {me : En → M DV} {e : En} {h : HP} {ds : List DV} (f : DV → DV) (hi : mi e h = .ok ds h) (hl : ds.length ≤ LN) (q : ∀ d ∈ ds, ∃ e1, t d (wipeE e vs) = some e1 ∧ me e1 h = .ok (f d) h) :
    mLc vs mi t mYes me e h = .ok (ds.map f) h := by
  rw [mLc_filter (fun d => some (f d)) hi hl fun d z => ?_, List.filterMap_eq_map']
  obtain ⟨e1, a, b⟩ := q d z
  unfold lcOne
  rw [a]
  show bR (me e1 h) _ = _
  rw [b]
  rfl
/-- .. over numbers -/
theorem mLc_ints {A : Type} {vs : List Nat} {mi : En → M (List DV)} {t : DV → En → Option En} {me : En → M DV} {e : En} {h : HP} {l : List A} (g : A → DV) (f : A → DV) (hi : mi e h = .ok (l.map g) h) (hl : l.length ≤ 16777216) (q : ∀ d ∈ l, ∃ e1, t (g d) (wipeE e vs) = some e1 ∧ me e1 h = .ok (f d) h) :
    mLc vs mi t mYes me e h = .ok (l.map f) h := by
  unfold mLc
  rw [bind_app, hi, bR_ok, if_pos (by rw [List.length_map]; exact hl)]
  unfold noX
  have z : ∀ l : List A, (∀ d ∈ l, ∃ e1, t (g d) (wipeE e vs) = some e1 ∧ me e1 h = .ok (f d) h) → lcL t mYes me (wipeE e vs) (l.map g) h = .ok (l.map f) h := by
    intro l
    induction l with
    | nil => exact fun _ => rfl
    | cons x r ih =>
      intro q
      obtain ⟨e1, a, b⟩ := q x List.mem_cons_self
      rw [List.map_cons, List.map_cons, lcL_is]
      unfold lcOne
      rw [a]
      show bR (bR (me e1 h) _) _ = _
      rw [b, bR_ok, bR_ok, ih fun d z => q d (List.mem_cons_of_mem _ z), bR_ok]
  rw [z l q]
/-- one turn of a loop -/
def wR (fg : List Nat) : SRes → SRes
  | .nx e h => .nx (wipeE e fg) h
  | .ct e h => .nx (wipeE e fg) h
  | .bk e h => .bk (wipeE e fg) h
  | r => r
@[simp] theorem wR_nx (fg : List Nat) (e : En) (h : HP) : wR fg (.nx e h) = .nx (wipeE e fg) h := rfl
@[simp] theorem wR_ct (fg : List Nat) (e : En) (h : HP) : wR fg (.ct e h) = .nx (wipeE e fg) h := rfl
@[simp] theorem wR_bk (fg : List Nat) (e : En) (h : HP) : wR fg (.bk e h) = .bk (wipeE e fg) h := rfl
@[simp] theorem wR_rt (fg : List Nat) (d : DV) (h : HP) : wR fg (.rt d h) = .rt d h := rfl
@[simp] theorem wR_exc (fg : List Nat) (x : Ex) (e : En) (h : HP) : wR fg (.exc x e h) = .exc x e h := rfl
def oR (o : Option En) (k : En → SRes) : SRes := match o with
  | some e => k e
  | none => .bad
@[simp] theorem oR_some (e : En) (k : En → SRes) : oR (some e) k = k e := rfl
def turn (t : DV → En → Option En) (b : Stm) (fg : List Nat) (d : DV) (e : En) (h : HP) : SRes := wR fg (oR (t d e) fun e1 => b e1 h)
@[simp] theorem turn_app (t : DV → En → Option En) (b : Stm) (fg : List Nat) (d : DV) (e : En) (h : HP) : turn t b fg d e h = wR fg (oR (t d e) fun e1 => b e1 h) := rfl
def lR (r : SRes) (k : Stm) : SRes := match r with
  | .nx e h => k e h
  | .bk e h => .nx e h
  | r => r
@[simp] theorem lR_nx (e : En) (h : HP) (k : Stm) : lR (.nx e h) k = k e h := rfl
@[simp] theorem lR_bk (e : En) (h : HP) (k : Stm) : lR (.bk e h) k = .nx e h := rfl
@[simp] theorem lR_rt (d : DV) (h : HP) (k : Stm) : lR (.rt d h) k = .rt d h := rfl
@[simp] theorem lR_exc (x : Ex) (e : En) (h : HP) (k : Stm) : lR (.exc x e h) k = .exc x e h := rfl
@[simp] theorem forL_nil (t : DV → En → Option En) (b : Stm) (fg : List Nat) (e : En) (h : HP) : forL t b fg [] e h = .nx e h := rfl
theorem forL_cons (t : DV → En → Option En) (b : Stm) (fg : List Nat) (d : DV) (ds : List DV) (e : En) (h : HP) : forL t b fg (d :: ds) e h = lR (turn t b fg d e h) (forL t b fg ds) := by
  conv => lhs; unfold forL
  unfold turn lR wR oR
  cases t d e with
  | none => rfl
  | some e1 =>
    simp only []
    cases b e1 h <;> rfl
/-- a loop of plain turns -/
theorem forL_fold {A S : Type} (g : A → DV) (E : S → En) (f : S → A → S) {t : DV → En → Option En} {b : Stm} {fg : List Nat} {h : HP} (P : S → List A → Prop) : ∀ (l : List A) (s : S), P s l → (∀ s x r, P s (x :: r) → P (f s x) r ∧ turn t b fg (g x) (E s) h = .nx (E (f s x)) h) →
    forL t b fg (l.map g) (E s) h = .nx (E (l.foldl f s)) h
  | [], s, _, _ => rfl
  | x :: r, s, p, q => by
    obtain ⟨p2, a⟩ := q s x r p
    rw [List.map_cons, forL_cons, a, lR_nx, forL_fold g E f P r (f s x) p2 q, List.foldl_cons]
@[simp] theorem setAll_cons (i : Nat) (is : List Nat) (d : DV) (ds : List DV) (e : En) : setAll (i :: is) (d :: ds) e = setAll is ds (e.set i (.val d)) := rfl
@[simp] theorem setAll_nil (ds : List DV) (e : En) : setAll [] ds e = e := rfl
@[simp] theorem wipeE_nil (e : En) : wipeE e [] = e := rfl
@[simp] theorem wipeE_cons (e : En) (v : Nat) (vs : List Nat) : wipeE e (v :: vs) = (wipeE e vs).set v .none := rfl
@[simp] theorem tName_app (i : Nat) (d : DV) (e : En) : tName i d e = some (e.set i (.val d)) := rfl
@[simp] theorem tTup_app2 (i j : Nat) (a b : DV) (e : En) : tTup [i, j] (.tup [a, b]) e = some ((e.set i (.val a)).set j (.val b)) := rfl
theorem rng_map (n : Nat) : rng n = (List.range n).map fun (k : Nat) => DV.int (k : Int) := rfl
@[simp] theorem zipD_nil (m : List DV) : zipD [] m = [] := rfl
@[simp] theorem zipD_nil2 (l : List DV) : zipD l [] = [] := by cases l <;> rfl
@[simp] theorem zipD_cons (x y : DV) (l m : List DV) : zipD (x :: l) (y :: m) = .tup [x, y] :: zipD l m := rfl
/-- a loop whose turns may return -/
def xR {S : Type} (E : S → En) (h : HP) : Except DV S → SRes
  | .ok s => .nx (E s) h
  | .error d => .rt d h
def runE {A S : Type} (f : S → A → Except DV S) : List A → S → Except DV S
  | [], s => .ok s
  | x :: r, s => match f s x with
    | .ok s2 => runE f r s2
    | .error d => .error d
theorem forL_run {A S : Type} (g : A → DV) (E : S → En) (f : S → A → Except DV S) {t : DV → En → Option En} {b : Stm} {fg : List Nat} {h : HP} (P : S → List A → Prop) : ∀ (l : List A) (s : S), P s l → (∀ s x r, P s (x :: r) → (∀ s2, f s x = .ok s2 → P s2 r) ∧ turn t b fg (g x) (E s) h = xR E h (f s x)) →
    forL t b fg (l.map g) (E s) h = xR E h (runE f l s)
  | [], s, _, _ => rfl
  | x :: r, s, p, q => by
    obtain ⟨p2, a⟩ := q s x r p
    rw [List.map_cons, forL_cons, a]
    unfold runE
    cases z : f s x with
    | error d => rfl
    | ok s2 =>
      show lR (.nx (E s2) h) _ = _
      rw [lR_nx, forL_run g E f P r s2 (p2 s2 z) q]
/-- turns that gather, or end -/
theorem runE_app {A B : Type} (ok : A → Bool) (f : A → B) (d : DV) (l : List A) (s : List B) : runE (fun s x => if ok x then .ok (s ++ [f x]) else .error d) l s = if l.all ok then .ok (s ++ l.map f) else .error d := by
  induction l generalizing s with
  | nil => simp [runE]
  | cons x r ih =>
    unfold runE
    cases z : ok x with
    | false => simp [z]
    | true => simp [z, ih]
theorem runE_pre {A B : Type} (ok : A → Bool) (f : A → B) (d : DV) (l : List A) (s : List B) : runE (fun s x => if ok x then .ok (f x :: s) else .error d) l s = if l.all ok then .ok ((l.map f).reverse ++ s) else .error d := by
  induction l generalizing s with
  | nil => simp [runE]
  | cons x r ih =>
    unfold runE
    cases z : ok x with
    | false => simp [z]
    | true => simp [z, ih]
theorem range_rev (n : Nat) : (List.range n).reverse = (List.range n).map fun j => n - 1 - j := by
  apply List.ext_getElem
  · simp
  · intro i h1 h2
    simp at h1 h2 ⊢
end LM

/-! Lists that change: a new one that is handed on, its items set; an own one's items set. -/
namespace LM
open PySem L2

theorem nodup_at : ∀ {l : List Addr} {i j : Nat}, l.Nodup → (hi : i < l.length) → (hj : j < l.length) → l[i] = l[j] → i = j
  | [], _, _, _, hi, _, _ => by cases hi
  | x :: r, 0, 0, _, _, _, _ => rfl
  | x :: r, 0, j + 1, n, _, hj, e => by
    have e : x = r[j]'(by simpa using hj) := e
    exact absurd (e ▸ List.getElem_mem _) (List.nodup_cons.mp n).1
  | x :: r, i + 1, 0, n, hi, _, e => by
    have e : r[i]'(by simpa using hi) = x := e
    exact absurd (e ▸ List.getElem_mem _) (List.nodup_cons.mp n).1
  | x :: r, i + 1, j + 1, n, hi, hj, e => by
    have e : r[i]'(by simpa using hi) = r[j]'(by simpa using hj) := e
    rw [nodup_at (List.nodup_cons.mp n).2 (by simpa using hi) (by simpa using hj) e]
section
variable {c : Cn} {W : Wd} {e : En} {h : HP} {s : L2.St} {H : Hp}
/-- an object on the changing heap is changed -/
theorem HSim.write {g : Glue} {p : Nat} {o o' : HObj} {a : Addr} {u u' : HO} (S : HSim g W h H) (e1 : h[p]? = some o) (e2 : W.r[p]? = some a) (eu : H a = some u) (new : Per W H W (upd H a u') → RepO g W (upd H a u') o' a) :
    Step W H W (upd H a u') ∧ HSim g W (h.set p o') (upd H a u') := by
  have st : Step W H W (upd H a u') := ⟨fun _ f => f, fun _ _ f => f, fun b w q n => by
    have hne : b ≠ a := fun z => by
      subst z
      exact n (List.mem_of_getElem? e2)
    rw [upd_ne hne]
    exact q, fun b q => by
    by_cases z : b = a
    · rw [z, upd_same] at q
      cases q
    · rw [upd_ne z] at q
      exact q, fun _ f => .inl f, fun _ f => .inl f⟩
  have pr := st.per S
  refine ⟨st, by rw [List.length_set]; exact S.len, S.nd, fun q ob b q1 q2 => ?_, fun b f => ?_⟩
  · by_cases z : q = p
    · subst z
      rw [e2] at q2
      cases q2
      have hp : q < h.length := (List.getElem?_eq_some_iff.mp e1).1
      rw [List.getElem?_set_self hp] at q1
      cases q1
      exact ⟨new pr, (S.o q o a e1 e2).2⟩
    · rw [List.getElem?_set_ne (Ne.symm z)] at q1
      obtain ⟨r, n⟩ := S.o q ob b q1 q2
      have hne : b ≠ a := fun w => by
        subst w
        have h1 := (List.getElem?_eq_some_iff.mp q2)
        have h2 := (List.getElem?_eq_some_iff.mp e2)
        obtain ⟨l1, g1⟩ := h1
        obtain ⟨l2, g2⟩ := h2
        exact z (nodup_at S.nd l1 l2 (g1.trans g2.symm))
      refine ⟨?_, n⟩
      cases ob with
      | lst l =>
        obtain ⟨vs, e3, r3⟩ := r
        exact ⟨vs, by rw [upd_ne hne]; exact e3, r3.per pr _ _⟩
      | obj k l =>
        obtain ⟨dx, vs, e3, e4, r3⟩ := r
        exact ⟨dx, vs, by rw [upd_ne hne]; exact e3, e4, r3.per pr _ _⟩
  · obtain ⟨w, q⟩ := S.fs b f
    have hne : b ≠ a := fun z => (S.o p o a e1 e2).2 (z ▸ f)
    exact ⟨w, by rw [upd_ne hne]; exact q⟩
/-- a new object comes onto the changing heap -/
theorem HSim.add {g : Glue} {a : Addr} {o : HObj} (S : HSim g W h H) (n1 : ¬ W.F a) (n2 : a ∉ W.r) (r : RepO g W H o a) : HSim g ⟨W.F, W.r ++ [a]⟩ (h ++ [o]) H := by
  have pr : Per W H ⟨W.F, W.r ++ [a]⟩ H := ⟨fun _ f => f, fun p b q => by
    show (W.r ++ [a])[p]? = some b
    rw [List.getElem?_append_left (List.getElem?_eq_some_iff.mp q).1]
    exact q, fun _ _ => rfl, fun _ _ q => q, fun _ _ _ q => q⟩
  have rp : ∀ (o : HObj) (b : Addr), RepO g W H o b → RepO g ⟨W.F, W.r ++ [a]⟩ H o b := fun o b r => by
    cases o with
    | lst l =>
      obtain ⟨vs, e3, r3⟩ := r
      exact ⟨vs, e3, r3.per pr _ _⟩
    | obj k l =>
      obtain ⟨dx, vs, e3, e4, r3⟩ := r
      exact ⟨dx, vs, e3, e4, r3.per pr _ _⟩
  refine ⟨by rw [List.length_append, List.length_append, S.len]; rfl, ?_, fun p ob b q1 q2 => ?_, S.fs⟩
  · show (W.r ++ [a]).Nodup
    rw [List.nodup_append]
    refine ⟨S.nd, by simp, fun x hx y hy z => ?_⟩
    rw [List.mem_singleton.mp hy] at z
    exact n2 (z ▸ hx)
  · have q2 : (W.r ++ [a])[p]? = some b := q2
    by_cases hp : p < h.length
    · rw [List.getElem?_append_left hp] at q1
      rw [List.getElem?_append_left (by rw [S.len]; exact hp)] at q2
      obtain ⟨r1, n⟩ := S.o p ob b q1 q2
      exact ⟨rp _ _ r1, n⟩
    · have l1 : p < (h ++ [o]).length := (List.getElem?_eq_some_iff.mp q1).1
      rw [List.length_append] at l1
      have e1 : p = h.length := by
        simp at l1
        omega
      subst e1
      rw [List.getElem?_append_right (Nat.le_refl _), Nat.sub_self] at q1
      rw [List.getElem?_append_right (by rw [S.len]; exact Nat.le_refl _), S.len, Nat.sub_self] at q2
      cases q1
      cases q2
      exact ⟨rp _ _ r, n1⟩
end

/-- a new list, handed on -/
def eNew (m : En → M (List DV)) : En → M DV := fun e h => match m e h with
  | .ok l h1 => .ok (.ref h1.length) (h1 ++ [.lst l])
  | .exc x h1 => .exc x h1
  | .bad => .bad
section
variable {X : Cx} {c : Cn} {pos : Pos} {ex : Expr} {m : En → M (List DV)}
theorem new_use {s : L2.St} {H : Hp} {Q : VK} (q : RE c (eNew m) s H Q) : RO c m s H Q := by
  obtain ⟨W, e, h, S0, q⟩ := q
  refine ⟨W, e, h, S0, ?_⟩
  unfold eNew at q
  cases z : m e h with
  | bad =>
    rw [z] at q
    exact q.elim
  | exc x h1 =>
    rw [z] at q
    exact q
  | ok l h1 =>
    rw [z] at q
    intro W1 H1 v t S1 o
    obtain ⟨a, vs, e1, e2, r, n1, n2, n3⟩ := o
    have hs := S1.hs.add n1 n2 (o := .lst l) ⟨vs, e2, r⟩
    have st : Step W H ⟨W1.F, W1.r ++ [a]⟩ H1 := ⟨t.f, fun p b q => by
      show (W1.r ++ [a])[p]? = some b
      have q1 := t.r p b q
      rw [List.getElem?_append_left (List.getElem?_eq_some_iff.mp q1).1]
      exact q1, t.k, t.th, t.nf, fun b hb => by
      rcases List.mem_append.mp hb with y | y
      · exact t.nr b y
      · rw [List.mem_singleton.mp y]
        exact .inr n3⟩
    refine q ⟨W1.F, W1.r ++ [a]⟩ H1 v st (S0.step st hs) ?_
    subst e1
    simp only [Rep]
    refine ⟨a, rfl, ?_⟩
    show (W1.r ++ [a])[h1.length]? = some a
    rw [List.getElem?_append_right (by rw [S1.hs.len]; exact Nat.le_refl _), S1.hs.len, Nat.sub_self]
    rfl
theorem c_new (h : PE X ex (RO c m)) : PE X ex (RE c (eNew m)) := pe_imp h fun s H Q q => new_use q
end

/-! ### a list's items are set -/
def putAt (l : List DV) (d : DV) : DV → Option (List DV)
  | .int k => (match ixN l.length k with
    | some j => some (l.set j d)
    | none => none)
  | _ => none
def hSet (h : HP) (o i d : DV) : Option HP := match o with
  | .ref p => (match h[p]? with
    | some (.lst l) => (match putAt l d i with
      | some l2 => some (h.set p (.lst l2))
      | none => none)
    | _ => none)
  | _ => none
def hNx (o : Option HP) (e : En) : SRes := match o with
  | some h => .nx e h
  | none => .bad
def sSetH (mv mo mi : En → M DV) : Stm := sBind mv fun d => sBind mo fun o => sBind mi fun i e h => hNx (hSet h o i d) e
def sPut (s : Nat) (d i : DV) : Stm := fun e h => match e[s]? with
  | some (.own l) => (match putAt l d i with
    | some l2 => .nx (e.set s (.own l2)) h
    | none => .bad)
  | _ => .bad
def ownAt (o : Option Slot) : Bool := match o with
  | some (.own _) => true
  | _ => false
def sSetI (s : Nat) (mv mi : En → M DV) : Stm := fun e h => if ownAt e[s]? then sBind mv (fun d => sBind mi fun i => sPut s d i) e h else .bad
theorem putAt_ok {l l2 : List DV} {d i : DV} (h : putAt l d i = some l2) : ∃ k j, i = .int k ∧ ixN l.length k = some j ∧ l2 = l.set j d := by
  unfold putAt at h
  split at h
  · rename_i k
    split at h
    · rename_i j e
      cases h
      exact ⟨k, j, rfl, e, rfl⟩
    · cases h
  · cases h
section
variable {X : Cx} {c : Cn} {pos p1 : Pos} {ex o i : Expr} {mv mo mi : En → M DV}
theorem s_setH (hv : PE X ex (RE c mv)) (ho : PE X o (RE c mo)) (hi : PE X i (RE c mi)) (hs : swapsWithSole [.Subscript o i p1] ex pos.line X.env = pure false := by rfl) (hw : swappedStores [.Subscript o i p1] ex X.env = pure none := by rfl)
    (h1 : (assignEach [.Subscript o i p1] X.env).map (·.2) = [assign (.Subscript o i p1) X.env] := by rfl)
    (ha : ∀ v, assign (.Subscript o i p1) X.env v = (do
      let ov ← holding [v] (eval o X.env)
      let iv ← holding [v, ov] (eval i X.env)
      standAt p1
      holding [v, ov, iv] (setItem ov iv v)
      release [v, ov, iv] []) := by intro _; rfl) : PS X (.Assign [.Subscript o i p1] ex pos) (RS c (sSetH mv mo mi)) :=
  ps_imp (ps_asg hv (pg_sub ho hi set_list ha) hs hw h1) fun D s H q => by
    unfold sSetH at q
    refine sb_use q fun W e W1 H1 d v h1 t1 S1 r1 q1 => ⟨W1, e, h1, S1, sb_at S1 q1 fun W2 H2 o w h2 t2 S2 r2 q2 => ⟨W2, e, h2, S2, sb_at S2 q2 fun W3 H3 i u h3 t3 S3 r3 q3 => ?_⟩⟩
    have rd := stays_V.go S2.hs t3 (stays_V.go S1.hs t2 r1)
    have ro := stays_V.go S2.hs t3 r2
    have q4 : PostS c W3 H3 (hNx (hSet h3 o i d) e) D := q3
    unfold hSet at q4
    cases o with
    | ref p =>
      simp only [] at q4
      cases z : h3[p]? with
      | none =>
        rw [z] at q4
        exact q4.elim
      | some ob =>
        rw [z] at q4
        cases ob with
        | obj k l => exact q4.elim
        | lst l =>
          simp only [] at q4
          cases z2 : putAt l d i with
          | none =>
            rw [z2] at q4
            exact q4.elim
          | some l2 =>
            rw [z2] at q4
            have q5 : PostS c W3 H3 (.nx e (h3.set p (.lst l2))) D := q4
            obtain ⟨k, j, ei, ej, el⟩ := putAt_ok z2
            subst ei el
            simp only [Rep] at ro r3
            obtain ⟨a, ew, ea⟩ := ro
            subst ew r3
            obtain ⟨⟨vs, e4, rs⟩, nF⟩ := S3.hs.o p _ a z ea
            obtain ⟨st, hs⟩ := S3.hs.write (o' := .lst (l.set j d)) (u' := .lst (vs.set j v)) z ea e4 fun pr => ⟨_, upd_same, (rs.per pr _ _).set (Rep.per pr _ _ rd) j⟩
            exact ⟨a, vs, k, j, rfl, rfl, e4, by rw [← rs.len]; exact ej, (q5.later (st.per S3.hs)).nx (S3.step st hs)⟩
    | _ => exact q4.elim
theorem s_setI {s0 : Nat} {x : Str} {p2 : Pos} (hN : X.N[s0]? = some x) (hvis : Vis X.env.scope x) (hv : PE X ex (RE c mv)) (hi : PE X i (RE c mi)) (hd : (x == ("__debug__" : Str)) = false := by decide) (hcd : (x == ("__classdict__" : Str)) = false := by decide)
    (hs : swapsWithSole [.Subscript (.Name x p2) i p1] ex pos.line X.env = pure false := by rfl) (hw : swappedStores [.Subscript (.Name x p2) i p1] ex X.env = pure none := by rfl)
    (h1 : (assignEach [.Subscript (.Name x p2) i p1] X.env).map (·.2) = [assign (.Subscript (.Name x p2) i p1) X.env] := by rfl)
    (ha : ∀ v, assign (.Subscript (.Name x p2) i p1) X.env v = (do
      let ov ← holding [v] (eval (.Name x p2) X.env)
      let iv ← holding [v, ov] (eval i X.env)
      standAt p1
      holding [v, ov, iv] (setItem ov iv v)
      release [v, ov, iv] []) := by intro _; rfl) : PS X (.Assign [.Subscript (.Name x p2) i p1] ex pos) (RS c (sSetI s0 mv mi)) :=
  ps_imp (ps_asg hv (pg_sub (pe_var hN hvis hd hcd) hi set_list ha) hs hw h1) fun D s H q => by
    obtain ⟨W, e, h, S0, q⟩ := q
    unfold sSetI at q
    by_cases z0 : ownAt e[s0]? = true
    · rw [if_pos z0] at q
      obtain ⟨l, z⟩ : ∃ l, e[s0]? = some (.own l) := by
        unfold ownAt at z0
        split at z0
        · rename_i l y
          exact ⟨l, y⟩
        · cases z0
      refine ⟨W, e, h, S0, sb_at S0 q fun W1 H1 d v h1 t1 S1 r1 q1 => ?_⟩
      obtain ⟨a, vs, e2, e3, rs, nn⟩ := S1.own s0 l z
      refine ⟨.ref a, e2, W1, e, h1, S1, sb_at S1 q1 fun W3 H3 i u h3 t3 S3 r3 q3 => ?_⟩
      have rd := stays_V.go S1.hs t3 r1
      have q4 : PostS c W3 H3 (sPut s0 d i e h3) D := q3
      unfold sPut at q4
      rw [z] at q4
      simp only [] at q4
      cases z2 : putAt l d i with
      | none =>
        rw [z2] at q4
        exact q4.elim
      | some l2 =>
        rw [z2] at q4
        have q5 : PostS c W3 H3 (.nx (e.set s0 (.own l2)) h3) D := q4
        obtain ⟨k, j, ei, ej, el⟩ := putAt_ok z2
        subst ei el
        simp only [Rep] at r3
        subst r3
        obtain ⟨a1, vs1, f2, f3, rr, n1⟩ := S3.own s0 l z
        rw [e2] at f2
        have ea : a = a1 := V.ref.inj (Option.some.inj (Option.some.inj f2))
        subst ea
        obtain ⟨S4, p4⟩ := S3.chgOwn (y := .own (l.set j d)) (o' := .lst (vs1.set j v)) z rfl e2 f3 (fun _ w => by cases w) (fun _ _ w => by cases w) n1 rfl fun p => ⟨⟨_, upd_same, (rr.per p _ _).set (Rep.per p _ _ rd) j⟩, n1⟩
        exact ⟨a, vs1, k, j, rfl, rfl, f3, by rw [← rr.len]; exact ej, (q5.later p4).nx S4⟩
    · rw [if_neg z0] at q
      exact q.elim
end
section
variable {T : Tp} {X : Cx} {c : Cn} {N : List Str} {k : Nat} {sc : Scope} {x : Str} {pos p1 p2 : Pos} {ex i : Expr} {mv mi : En → M DV}
theorem k_setI {s0 : Nat} (h : XSt T X c N k sc) (hN : N[s0]? = some x) (hvis : Vis sc x) (hv : PE X ex (RE c mv)) (hi : PE X i (RE c mi)) (hd : (x == ("__debug__" : Str)) = false := by decide) (hcd : (x == ("__classdict__" : Str)) = false := by decide)
    (hs : swapsWithSole [.Subscript (.Name x p2) i p1] ex pos.line X.env = pure false := by rfl) (hw : swappedStores [.Subscript (.Name x p2) i p1] ex X.env = pure none := by rfl)
    (h1 : (assignEach [.Subscript (.Name x p2) i p1] X.env).map (·.2) = [assign (.Subscript (.Name x p2) i p1) X.env] := by rfl)
    (ha : ∀ v, assign (.Subscript (.Name x p2) i p1) X.env v = (do
      let ov ← holding [v] (eval (.Name x p2) X.env)
      let iv ← holding [v, ov] (eval i X.env)
      standAt p1
      holding [v, ov, iv] (setItem ov iv v)
      release [v, ov, iv] []) := by intro _; rfl) : PS X (.Assign [.Subscript (.Name x p2) i p1] ex pos) (RS c (sSetI s0 mv mi)) :=
  s_setI (h.e.at hN) (h.e.vis hvis) hv hi hd hcd hs hw h1 ha
end
/-! ### what these answer -/
@[simp] theorem eNew_app (m : En → M (List DV)) (e : En) (h : HP) : eNew m e h = bR (m e h) fun l h1 => .ok (.ref h1.length) (h1 ++ [.lst l]) := by
  unfold eNew
  cases m e h <;> rfl
@[simp] theorem sSetH_app (mv mo mi : En → M DV) (e : En) (h : HP) : sSetH mv mo mi e h = uR (mv e h) e fun d e h => uR (mo e h) e fun o e h => uR (mi e h) e fun i e h => hNx (hSet h o i d) e := rfl
@[simp] theorem hNx_some (h : HP) (e : En) : hNx (some h) e = .nx e h := rfl
def putR (o : Option (List DV)) (s : Nat) (e : En) (h : HP) : SRes := match o with
  | some l => .nx (e.set s (.own l)) h
  | none => .bad
@[simp] theorem putR_some (l : List DV) (s : Nat) (e : En) (h : HP) : putR (some l) s e h = .nx (e.set s (.own l)) h := rfl
@[simp] theorem sPut_app (s : Nat) (d i : DV) (e : En) (h : HP) : sPut s d i e h = slO e[s]? fun l => putR (putAt l d i) s e h := by
  unfold sPut
  cases e[s]? with
  | none => rfl
  | some x =>
    cases x with
    | own l =>
      simp only [slO_own]
      cases putAt l d i <;> rfl
    | _ => rfl
@[simp] theorem ownAt_own (l : List DV) : ownAt (some (.own l)) = true := rfl
@[simp] theorem sSetI_app (s : Nat) (mv mi : En → M DV) (e : En) (h : HP) : sSetI s mv mi e h = if ownAt e[s]? then uR (mv e h) e fun d e h => uR (mi e h) e fun i e h => sPut s d i e h else .bad := rfl
theorem putAt_nat (l : List DV) (d : DV) (k : Nat) (hk : k < l.length) : putAt l d (.int (k : Int)) = some (l.set k d) := by
  have e : ixN l.length (k : Int) = some k := by
    unfold ixN
    rw [if_pos (Int.natCast_nonneg k), if_pos (by omega)]
    rfl
  show (match ixN l.length (k : Int) with
    | some j => some (l.set j d)
    | none => none) = _
  rw [e]
end LM

/-! zip and enumerate over lists and tuples in any mix. -/
namespace LM
open PySem L2

/-- a list (false) or a tuple (true) -/
def SqB (b : Bool) (K : PySem.W.Frag) (H : Hp) (a : Addr) (xs : List V) : Prop := match b with
  | true => SqT K H a xs
  | false => SqL K H a xs
def IsB (b : Bool) (h : Heap) (a : Addr) (items : Array Value) : Prop := match b with
  | true => h.IsTuple a items
  | false => h.IsList a items
def ItB (b : Bool) (h : Heap) (it a : Addr) (i : Nat) : Prop := match b with
  | true => h.IsTupleIter it a i
  | false => h.IsListIter it a i
theorem ItB.obj {b : Bool} {h : Heap} {it a : Addr} {i : Nat} (x : ItB b h it a i) : ∃ o vs, h.get? it = some o ∧ o.data = .fields vs := by
  cases b with
  | true =>
    obtain ⟨o, e, _, d⟩ := x
    exact ⟨o, _, e, d⟩
  | false =>
    obtain ⟨o, e, _, d⟩ := x
    exact ⟨o, _, e, d⟩
theorem ItB.keep {b : Bool} {h h' : Heap} {it a : Addr} {i : Nat} (x : ItB b h it a i) (k : ∀ o, h.get? it = some o → h'.get? it = some o) : ItB b h' it a i := by
  cases b with
  | true => exact Heap.IsTupleIter.at x k
  | false => exact Heap.IsListIter.at x k
theorem IsB.lt {b : Bool} {h : Heap} {a : Addr} {items : Array Value} (x : IsB b h a items) : a < h.objs.size := by
  cases b with
  | true =>
    obtain ⟨o, e, _⟩ := x
    exact Heap.lt_size e
  | false =>
    obtain ⟨o, e, _⟩ := x
    exact Heap.lt_size e
theorem sqB_is {X : Cx} {pins : List (Addr × Obj)} {σ : L2.St} {H : Hp} {s : Shared} {b : Bool} {a : Addr} {xs : List V} (I : Inv X pins σ H s) (q : SqB b X.K H a xs) : ∃ its : List Value, Vals xs its ∧ IsB b s.heap a its.toArray := by
  cases b with
  | true =>
    obtain ⟨its, rv, p, _⟩ := I.tuple q
    exact ⟨its, rv, p⟩
  | false =>
    obtain ⟨its, rv, p, _⟩ := I.list q
    exact ⟨its, rv, p.isList⟩
theorem sqB_inj {X : Cx} {pins : List (Addr × Obj)} {σ : L2.St} {H : Hp} {s : Shared} {b : Bool} {a : Addr} {xs ys : List V} (I : Inv X pins σ H s) (q : SqB b X.K H a xs) (r : SqB b X.K H a ys) : xs = ys := by
  cases b with
  | true => exact I.tuple_inj q r
  | false => exact I.list_inj q r
theorem drawsB {prog : Program} {w : World} {A : Around} (hh : A.handled = none) (b : Bool) (it a : Addr) (hne : a ≠ it) (items : Array Value) :
    Draws prog w A it [it, a] items.size (fun i v => items[i]? = some v) (fun i h => ItB b h it a i ∧ IsB b h a items) := by
  cases b with
  | true => exact Draws.tuple hh it a hne items
  | false => exact Draws.list hh it a hne items
def iterObj (b : Bool) (a : Addr) : Obj := match b with
  | true => { cls := .type "tuple_iterator", data := .fields #[.ref a, .int 0 0] }
  | false => { cls := .type "list_iterator", data := .fields #[.ref a, .int 0 0] }
theorem beginsB (b : Bool) (a : Addr) (items : Array Value) : Begins (.ref a) (iterObj b a) fun h => IsB b h a items := by
  cases b with
  | true => exact begins_tuple a items
  | false => exact begins_list a items
theorem itB_new {b : Bool} {h : Heap} {it a : Addr} (e : h.get? it = some (iterObj b a)) : ItB b h it a 0 := by
  cases b with
  | true => exact ⟨_, e, rfl, rfl⟩
  | false => exact ⟨_, e, rfl, rfl⟩

theorem isB_ne {b : Bool} {h : Heap} {a it : Addr} {i : Nat} {items : Array Value} (p : IsB b h a items) (x : ItB b h it a i) : a ≠ it := fun q => by
  obtain ⟨o, v, e, d⟩ := x.obj
  cases b with
  | true =>
    obtain ⟨o', e', _, n, d'⟩ := p
    rw [q, e] at e'
    cases e'
    rw [d] at d'
    cases d'
  | false =>
    obtain ⟨o', e', _, n, d'⟩ := p
    rw [q, e] at e'
    cases e'
    rw [d] at d'
    cases d'
/-! ### zip -/
def ItzB (b1 b2 : Bool) (K : PySem.W.Frag) (a b : Addr) : It :=
  ⟨fun i H => ∃ (xs ys : List V) (x y : V), SqB b1 K H a xs ∧ SqB b2 K H b ys ∧ xs[i]? = some x ∧ ys[i]? = some y,
    fun i H v H' => ∃ T x y, v = .ref T ∧ H T = none ∧ H' = upd H T (.tup [x, y]) ∧ (∀ xs, SqB b1 K H a xs → xs[i]? = some x) ∧ (∀ ys, SqB b2 K H b ys → ys[i]? = some y),
    fun i H => ∃ xs ys : List V, SqB b1 K H a xs ∧ SqB b2 K H b ys ∧ i ≤ xs.length ∧ i ≤ ys.length ∧ (i = xs.length ∨ i = ys.length)⟩
theorem five {c z TI TO i1 i2 : Addr} : c ∈ [z, TI, TO, i1, i2] ↔ c = z ∨ c = TI ∨ c = TO ∨ c = i1 ∨ c = i2 := by simp
theorem turn_zipB {P : Program} {w : World} {K : PySem.W.Frag} {elts : List Expr} {kk : Nat} {tpos : Pos} (b1 b2 : Bool) {a b z TI TO i1 i2 : Addr} (D : ZipSep2 z TI TO i1 i2 [i1, a] [i2, b]) :
    Turn P w K (.Tuple elts kk tpos) (ItzB b1 b2 K a b) [z, TI, TO, i1, i2] z
      (fun i h => IsZip h z TI TO .none ∧ IsTupOf2 h TI (.ref i1) (.ref i2) ∧ (∃ x y, IsTupOf2 h TO x y) ∧ ItB b1 h i1 a i ∧ ItB b2 h i2 b i) where
  mem := five.mpr (.inl rfl)
  obj := fun i h st c hc => by
    obtain ⟨hz, hTI, ⟨x, y, hTO⟩, h1, h2⟩ := st
    obtain ⟨o1, v1, e1, d1⟩ := h1.obj
    obtain ⟨o2, v2, e2, d2⟩ := h2.obj
    rcases five.mp hc with q | q | q | q | q <;> subst q
    · exact ⟨_, hz, fun v q => by cases q⟩
    · exact ⟨_, hTI, fun v q => by cases q⟩
    · exact ⟨_, hTO, fun v q => by cases q⟩
    · exact ⟨_, e1, fun v q => by rw [d1] at q; cases q⟩
    · exact ⟨_, e2, fun v q => by rw [d2] at q; cases q⟩
  keep := fun i h h' st k => by
    obtain ⟨hz, hTI, ⟨x, y, hTO⟩, h1, h2⟩ := st
    have kk := fun c (m : c = z ∨ c = TI ∨ c = TO ∨ c = i1 ∨ c = i2) => k c (five.mpr m)
    exact ⟨kk z (.inl rfl) _ hz, kk TI (.inr (.inl rfl)) _ hTI, ⟨x, y, kk TO (.inr (.inr (.inl rfl))) _ hTO⟩, h1.keep (kk i1 (.inr (.inr (.inr (.inl rfl))))), h2.keep (kk i2 (.inr (.inr (.inr (.inr rfl)))))⟩
  item := by
    intro X hP hw hK hc i pins s σ H E I hf st hg
    subst hP hw hK
    obtain ⟨hz, hTI, ⟨x0, y0, hTO⟩, h1, h2⟩ := st
    obtain ⟨xs, ys, x, y, qx, qy, ex, ey⟩ := hg
    obtain ⟨its, rv, p⟩ := sqB_is I qx
    obtain ⟨its2, rv2, p2⟩ := sqB_is I qy
    obtain ⟨u, hu, ru⟩ := rv.get ex
    obtain ⟨u2, hu2, ru2⟩ := rv2.get ey
    have lz : z < s.heap.objs.size := Heap.lt_size hz
    have lt1 : i < its.toArray.size := by
      have q := (List.getElem?_eq_some_iff.mp hu).1
      simpa using q
    have lt2 : i < its2.toArray.size := by
      have q := (List.getElem?_eq_some_iff.mp hu2).1
      simpa using q
    have na : a ≠ i1 := isB_ne p h1
    have nb : b ≠ i2 := isB_ne p2 h2
    have hh : X.A.in1.handled = none := I.ok.hd hc
    refine wpAny_pyNext_zipD2_item D (drawsB hh b1 i1 a na its.toArray) (drawsB hh b2 i2 b nb its2.toArray) hz hTI hTO ⟨h1, p⟩ ⟨h2, p2⟩ lt1 lt2 fun x1 x2 h' tk P1 P2 z' TO' s1' s2' hT sz k => ?_
    have e1 : x1 = u := by
      have q : its[i]? = some x1 := by simpa using P1
      exact Option.some.inj (q.symm.trans hu)
    have e2 : x2 = u2 := by
      have q : its2[i]? = some x2 := by simpa using P2
      exact Option.some.inj (q.symm.trans hu2)
    subst e1 e2
    refine ⟨_, rfl, wpAny_letOwnedTupleGo_zip (s := { s with heap := h', toks := tk }) z' fun h'' z'' sb => ?_⟩
    have hT2 : h''.get? s.heap.objs.size = some { cls := .type "tuple", data := .seq #[x1, x2] } := (sb.2 _ (Nat.ne_of_gt lz)).trans hT
    have new : ObjOk X.prog X.w (upd H s.heap.objs.size (.tup [x, y])) h'' s.heap.objs.size (.tup [x, y]) := ⟨by show 2 ≤ sizeLine; decide +kernel, [x1, x2], .cons ru (.cons ru2 .nil), ⟨_, hT2, rfl, _, rfl⟩⟩
    have I1 : Inv X pins σ (upd H s.heap.objs.size (.tup [x, y])) { s with heap := h'', toks := tk } := I.turnedNew (ch := [z, TI, TO, i1, i2]) (fun c o hb q => by
      have hb : ¬ (c = z ∨ c = TI ∨ c = TO ∨ c = i1 ∨ c = i2) := fun w => hb (five.mpr w)
      exact (sb.2 c fun w => hb (.inl w)).trans (k c o (fun w => hb (.inl w)) (fun w => hb (.inr (.inr (.inl w)))) (fun w => hb (.inr (.inr (.inr (.inl w))))) (fun w => hb (.inr (.inr (.inr (.inr w))))) q)) hf (Nat.le_refl _) new
    refine ⟨.ref s.heap.objs.size, _, I1, rfl, ⟨_, x, y, rfl, I.hok.fresh (Nat.le_refl _), rfl, fun l q => by rw [sqB_inj I q qx]; exact ex, fun l q => by rw [sqB_inj I q qy]; exact ey⟩, ⟨z'', ?_, ⟨x1, x2, ?_⟩, ?_, ?_⟩, fun c hcm => ?_⟩
    · exact (sb.2 _ D.TIz).trans (k _ _ D.TIz D.TITO D.TIi1 D.TIi2 hTI)
    · exact (sb.2 _ D.TOz).trans TO'
    · exact s1'.1.keep fun o q => (sb.2 _ (Ne.symm D.zi1)).trans q
    · exact s2'.1.keep fun o q => (sb.2 _ (Ne.symm D.zi2)).trans q
    · obtain ⟨o1, v1, g1, _⟩ := h1.obj
      obtain ⟨o2, v2, g2, _⟩ := h2.obj
      have lt : c < s.heap.objs.size := by
        rcases five.mp hcm with q | q | q | q | q <;> subst q
        · exact lz
        · exact Heap.lt_size hTI
        · exact Heap.lt_size hTO
        · exact Heap.lt_size g1
        · exact Heap.lt_size g2
      rw [upd_ne (Nat.ne_of_lt lt)]
      exact (hf c hcm).1
  done := by
    intro X hP hw hK hc i pins s σ H E I hf st hg
    subst hP hw hK
    obtain ⟨hz, hTI, ⟨x0, y0, hTO⟩, h1, h2⟩ := st
    obtain ⟨xs, ys, qx, qy, l1, l2, hend⟩ := hg
    obtain ⟨its, rv, p⟩ := sqB_is I qx
    obtain ⟨its2, rv2, p2⟩ := sqB_is I qy
    have m1 := rv.length
    have m2 := rv2.length
    have hh : X.A.in1.handled = none := I.ok.hd hc
    exact wpAny_pyNext_zipD2_end D (drawsB hh b1 i1 a (isB_ne p h1) its.toArray) (drawsB hh b2 i2 b (isB_ne p2 h2) its2.toArray) hz hTI hTO ⟨h1, p⟩ ⟨h2, p2⟩ (by simp; omega) (by simp; omega) (by
      rcases hend with q | q
      · left
        simp
        omega
      · right
        simp
        omega) fun h' tk k => ⟨rfl, I.turnedL (t' := tk) (ch := [z, TI, TO, i1, i2]) (fun c o hb q => by
      have hb : ¬ (c = z ∨ c = TI ∨ c = TO ∨ c = i1 ∨ c = i2) := fun w => hb (five.mpr w)
      exact k c o (fun w => hb (.inl w)) (fun w => hb (.inr (.inr (.inl w)))) (fun w => hb (.inr (.inr (.inr (.inl w))))) (fun w => hb (.inr (.inr (.inr (.inr w))))) q) hf⟩
  self := fun A i s Q E st h => wpAny_pyIter_zip st.1 h
theorem pairE {b e it : Addr} : b ∈ [e, it] ↔ b = e ∨ b = it := by simp
theorem sep_new (n a b : Nat) (la : a < n) (lb : b < n) : ZipSep2 (n + 4) (n + 2) (n + 3) n (n + 1) [n, a] [n + 1, b] := by
  have two : ∀ {x y z : Nat}, x ≠ y → x ≠ z → x ∉ [y, z] := fun h1 h2 m => (pairE.mp m).elim h1 h2
  have one : ∀ {x y : Nat}, x ≠ y → x ≠ y := id
  exact ⟨one (by omega), one (by omega), one (by omega), one (by omega), by simp, two (by omega) (by omega), two (by omega) (by omega), one (by omega), by simp, two (by omega) (by omega), two (by omega) (by omega), two (by omega) (by omega), two (by omega) (by omega)⟩
def iZipB (K : PySem.W.Frag) (ta : TA) : TI := fun σ H R => ta σ H fun vs H1 => ∃ b1 b2 a b xs ys, vs = [.ref a, .ref b] ∧ SqB b1 K H1 a xs ∧ SqB b2 K H1 b ys ∧ R (ItzB b1 b2 K a b) H1
theorem pi_zipB {X : Cx} {e e2 : Expr} {ta : TA} {p pos tpos : Pos} {elts : List Expr} {kk : Nat} (hg : Gl X "zip") (hm : X.mg "zip" = none) (ha : PA X [e, e2] ta)
    (hs : starEach [e, e2] X.env = (false, eval e X.env) :: starEach [e2] X.env := by rfl) (hpl : (backTo pos (starEach [e2] X.env)).any (·.1) = false := by rfl) : PI X (.Tuple elts kk tpos) (.Call (.Name "zip" p) [e, e2] [] pos) (iZipB X.K ta) := by
  refine ⟨fun pins s σ H R I h => ?_⟩
  refine PyProof.Rows.Call_ (ld_blt I hg hm PyProof.Rows.boot_zip (PyProof.Rows.callWith_type1 (thn (ha.run pos pins s σ H _ I h) fun us s1 ⟨vs, H1, I1, r1, q1⟩ => ?_) hs hpl))
  obtain ⟨b1, b2, a, b, xs, ys, ev, qx, qy, q⟩ := q1
  subst ev
  cases r1 with
  | cons r rr =>
    cases rr with
    | cons r' rr =>
      cases rr
      cases r
      cases r'
      obtain ⟨its, rv, p1⟩ := sqB_is I1 qx
      obtain ⟨its2, rv2, p2⟩ := sqB_is I1 qy
      have la := p1.lt
      have lb := p2.lt
      refine zip_begins2 (beginsB b1 a its.toArray) (beginsB b2 b its2.toArray) p1 p2 fun h' hz hTI hTO h1 h2 hsz hk => wpAny_pyIter_zip hz ?_
      have I2 : Inv X pins σ H1 { s1 with heap := h' } := I1.kept (t' := s1.toks) hk
      refine ⟨s1.heap.objs.size + 4, [s1.heap.objs.size + 4, s1.heap.objs.size + 2, s1.heap.objs.size + 3, s1.heap.objs.size, s1.heap.objs.size + 1], _, _, H1, rfl, I2, turn_zipB b1 b2 (a := a) (b := b) ?_, ⟨hz, hTI, ⟨_, _, hTO⟩, itB_new h1, itB_new h2⟩, fun c hcm => ?_, q⟩
      · exact sep_new _ _ _ la lb
      · have hle : s1.heap.objs.size ≤ c := by
          rcases five.mp hcm with w | w | w | w | w <;> rw [w] <;> first
            | exact Nat.le_add_right _ _
            | exact Nat.le_refl _
        exact I1.fpOk hle (I1.hok.fresh hle)
/-- zip of two sequences -/
def itZM (x y : DV) : M (List DV) := itS x >>= fun l => itS y >>= fun m => pure (zipD l m)
theorem LsF.per {K : PySem.W.Frag} {W W2 : Wd} {H H2 : Hp} {a : Addr} {xs : List V} (p : Per W H W2 H2) (f : LsF K W H a xs) : SqL K H2 a xs := p.sqL f
/-- .. of whatever kind, behind a step -/
def SB (K : PySem.W.Frag) (W : Wd) (H : Hp) (b : Bool) (a : Addr) (vs : List V) : Prop := match b with
  | true => SqT K H a vs
  | false => LsF K W H a vs
theorem SB.per {K : PySem.W.Frag} {W W2 : Wd} {H H2 : Hp} {b : Bool} {a : Addr} {xs : List V} (p : Per W H W2 H2) (f : SB K W H b a xs) : SqB b K H2 a xs := by
  cases b with
  | true => exact p.sqT f
  | false => exact p.sqL f
theorem SB.now {K : PySem.W.Frag} {W : Wd} {H : Hp} {b : Bool} {a : Addr} {xs : List V} (f : SB K W H b a xs) : SqB b K H a xs := SB.per (Per.refl _ _) f
section
variable {X : Cx} {c : Cn} {pos p1 : Pos} {a b tg : Expr} {ma mb : En → M DV}
theorem wk_zipB {W : Wd} {H : Hp} {b1 b2 : Bool} {p q : Addr} {vs ws : List V} {ds es : List DV} (f : SB c.g.K W H b1 p vs) (f2 : SB c.g.K W H b2 q ws) (r : Reps c.g W H ds vs) (r2 : Reps c.g W H es ws) : Wk c W H (ItzB b1 b2 c.g.K p q) (zipD ds es) where
  go := fun W2 H2 pr i d e => by
    have sq := f.per pr
    have sq2 := f2.per pr
    obtain ⟨x, y, e1, e2, e3⟩ := zipD_get e
    obtain ⟨v, g1, rv⟩ := (r.per pr _ _).get e1
    obtain ⟨w, g2, rw'⟩ := (r2.per pr _ _).get e2
    refine ⟨⟨vs, ws, v, w, sq, sq2, g1, g2⟩, fun z H3 yl => ?_⟩
    obtain ⟨T, x', y', h1, h2, h3, h4, h5⟩ := yl
    have q1 : v = x' := some_inj2 g1 (h4 vs sq)
    have q2 : w = y' := some_inj2 g2 (h5 ws sq2)
    subst q1 q2
    exact .inr ⟨T, _, _, e3, h1, h2, h3, .cons rv (.cons rw' .nil)⟩
  st := fun W2 H2 pr => by
    refine ⟨vs, ws, f.per pr, f2.per pr, ?_⟩
    rw [zipD_len, r.len, r2.len]
    omega
/-- what an iterable is -/
theorem itS_src {W : Wd} {e : En} {h h' : HP} {s : L2.St} {H : Hp} {d : DV} {v : V} {l : List DV} (S : Sim c W e h s H) (r : Rep c.g W H d v) (z : itS d h = .ok l h') : h' = h ∧ ∃ b p vs, v = .ref p ∧ Reps c.g W H l vs ∧ SB c.g.K W H b p vs := by
  cases d with
  | tup l2 =>
    simp only [Rep] at r
    obtain ⟨p, vs, e1, sq, rs⟩ := r
    cases z
    exact ⟨rfl, true, p, vs, e1, rs, sq⟩
  | lst l2 =>
    simp only [Rep] at r
    obtain ⟨p, vs, e1, f, sq, rs⟩ := r
    cases z
    exact ⟨rfl, false, p, vs, e1, rs, .inl ⟨f, sq⟩⟩
  | scr l2 =>
    simp only [Rep] at r
    obtain ⟨p, e1, sq⟩ := r
    cases z
    exact ⟨rfl, false, p, _, e1, reps_ints l2, .inr sq⟩
  | _ => cases z
theorem itS_exc {d : DV} {h h' : HP} {x : Ex} (z : itS d h = .exc x h') : False := by
  unfold itS at z
  split at z <;> cases z
theorem i_zipM (hk : X.K = c.g.K) (hg : Gl X "zip") (hm : X.mg "zip" = none) {elts : List Expr} {kk : Nat} {tpos : Pos} (ha : PE X a (RE c ma)) (hb : PE X b (RE c mb)) (he : starEach [a, b] X.env = (false, eval a X.env) :: starEach [b] X.env := by rfl) (he2 : starEach [b] X.env = (false, eval b X.env) :: starEach [] X.env := by rfl)
    (hpl : (backTo pos (starEach [b] X.env)).any (·.1) = false := by rfl) : PI X (.Tuple elts kk tpos) (.Call (.Name "zip" p1) [a, b] [] pos) (RI c (iB2 ma mb itZM)) :=
  pi_imp (pi_zipB hg hm (pa_cons ha (pa_cons hb pa_nil he2) he) he hpl) fun s H R q => by
    unfold iB2 at q
    exact RX.bind q fun W e W1 H1 x v h1 t S rx q2 => ⟨W1, e, h1, S, q2.bind fun W2 H2 y w h2 t2 S2 ry q3 => by
      have rx2 := stays_V.go S.hs t2 rx
      unfold itZM at q3
      cases zx : itS x h2 with
      | bad =>
        rw [M.bind_def, zx] at q3
        exact q3.elim
      | exc z h3 => exact (itS_exc zx).elim
      | ok l h3 =>
        rw [M.bind_def, zx] at q3
        obtain ⟨eh, b1, p, vs, e1, rs, cx⟩ := itS_src S2 rx2 zx
        subst eh
        have q4 : Post c (fun W H ds J => Wk c W H J ds) e s W2 H2 ((itS y >>= fun m => pure (zipD l m)) h3) R := q3
        cases zy : itS y h3 with
        | bad =>
          rw [M.bind_def, zy] at q4
          exact q4.elim
        | exc z h4 => exact (itS_exc zy).elim
        | ok m h4 =>
          rw [M.bind_def, zy] at q4
          obtain ⟨eh, b2, p2, ws, e2, rs2, cy⟩ := itS_src S2 ry zy
          subst eh e1 e2
          refine ⟨b1, b2, p, p2, vs, ws, rfl, by rw [hk]; exact cx.now, by rw [hk]; exact cy.now, ?_⟩
          rw [hk]
          exact q4.ret S2 (wk_zipB cx cy rs rs2)⟩
end
@[simp] theorem itZM_app (x y : DV) (h : HP) : itZM x y h = bR (itS x h) fun l h => bR (itS y h) fun m h => .ok (zipD l m) h := rfl
/-! ### enumerate -/
theorem meets_enumT (l : Addr) (items : Array Value) (n : Nat) (dct : Option Addr) (sl : Array (Option Value)) :
    Meets (Builtin.«enumerate.__new__» ⟨[.type "enumerate", .ref l], []⟩) (fun _ R s => s.heap.get? l = some { cls := .type "tuple", dict := dct, data := .seq items n, slots := sl } ∧
      R (.ok (.ret (.ref (s.heap.push { cls := .type "tuple_iterator", data := .fields #[.ref l, .int 0 0] }).objs.size)))
        { s with heap := (s.heap.push { cls := .type "tuple_iterator", data := .fields #[.ref l, .int 0 0] }).push { cls := .type "enumerate", data := .fields #[.none, .bool false, .ref s.heap.objs.size, rawInt 0, .none, .none] } }) :=
  .of_wp fun prog w A R s h => by
    obtain ⟨hp, g, d, tk, os⟩ := s
    obtain ⟨hl, h⟩ := h
    have hsub := sub_enumerate
    have hT : Heap.IsTuple (Shared.heap ⟨hp, g, d, tk, os⟩) l items := ⟨_, hl, rfl, n, rfl⟩
    wp_walk using AutoSeq1.wpAny_loadPart' hl
    refine wpAny_stack_any fun st => wpAny_pure ?_
    split
    · rename_i cc _ _ _ _ _
      cases (cc == Value.type "enumerate")
      · wp_walk using AutoSeq1.wpAny_loadPart' hl, wpAny_pyIter_tuple hT
        exact ⟨_, rfl, h⟩
      · wp_walk using AutoSeq1.wpAny_loadPart' hl, wpAny_pyIter_tuple hT
        exact ⟨_, rfl, h⟩
    · wp_walk using AutoSeq1.wpAny_loadPart' hl, wpAny_pyIter_tuple hT
      exact ⟨_, rfl, h⟩
theorem call_enumT {prog : Program} {w : World} {A : Around} {E : Value → Shared → Prop} {s : Shared} {l : Addr} {items : Array Value} {Q : Value → Shared → Prop} (hL : s.heap.IsTuple l items)
    (h : ∀ h', IsEnum h' (s.heap.objs.size + 1) s.heap.objs.size 0 .none → h'.IsTupleIter s.heap.objs.size l 0 → h'.objs.size = s.heap.objs.size + 2 → (∀ b o, s.heap.get? b = some o → h'.get? b = some o) → Q (.ref (s.heap.objs.size + 1)) { s with heap := h' }) :
    wpAny (model prog w) A (call (.type "enumerate") [.ref l]) Q E s := by
  obtain ⟨⟨cc, dct, dt, sl⟩, hl, hc, n, hd⟩ := hL
  have hc : cc = .type "tuple" := hc
  have hd : dt = .seq items n := hd
  subst hc hd
  refine callType_new F.called_enumerate (by decide) (F.typeCall_enumerate_1 _) (F.newCall_enumerate_1 _) (fun obj => F.args_object_init_2 obj _) F.entry_enumerate_new (meets_enumT l items n dct sl) ⟨hl, ?_⟩
  have hz : (s.heap.push { cls := .type "tuple_iterator", data := .fields #[.ref l, .int 0 0] }).objs.size = s.heap.objs.size + 1 := Heap.size_push ..
  show _ ∧ _
  rw [hz]
  have he := Heap.get?_push_size (s.heap.push { cls := .type "tuple_iterator", data := .fields #[.ref l, .int 0 0] }) (o := { cls := .type "enumerate", data := .fields #[.none, .bool false, .ref s.heap.objs.size, rawInt 0, .none, .none] }) rfl
  rw [hz] at he
  exact ⟨⟨_, he, rfl⟩, h _ he ⟨_, Heap.get?_push_of_some _ (Heap.get?_push_size _ rfl), rfl, rfl⟩ (by rw [Heap.size_push, hz]) fun b o x => Heap.get?_push_of_some _ (Heap.get?_push_of_some _ x)⟩
theorem call_enumB {prog : Program} {w : World} {A : Around} {E : Value → Shared → Prop} {s : Shared} {b : Bool} {l : Addr} {items : Array Value} {Q : Value → Shared → Prop} (hL : IsB b s.heap l items)
    (h : ∀ h', IsEnum h' (s.heap.objs.size + 1) s.heap.objs.size 0 .none → ItB b h' s.heap.objs.size l 0 → h'.objs.size = s.heap.objs.size + 2 → (∀ b o, s.heap.get? b = some o → h'.get? b = some o) → Q (.ref (s.heap.objs.size + 1)) { s with heap := h' }) :
    wpAny (model prog w) A (call (.type "enumerate") [.ref l]) Q E s := by
  cases b with
  | true => exact call_enumT hL h
  | false => exact call_enumerate_list hL h
def IteB (b : Bool) (K : PySem.W.Frag) (a : Addr) : It :=
  ⟨fun i H => ∃ (xs : List V) (x : V), SqB b K H a xs ∧ xs[i]? = some x, fun i H v H' => ∃ T x, v = .ref T ∧ H T = none ∧ H' = upd H T (.tup [.int (i : Nat), x]) ∧ (∀ xs, SqB b K H a xs → xs[i]? = some x), fun i H => ∃ xs : List V, SqB b K H a xs ∧ xs.length = i⟩
theorem turn_enumB {P : Program} {w : World} {K : PySem.W.Frag} {elts : List Expr} {kk : Nat} {tpos : Pos} (b : Bool) (a e it : Addr) :
    Turn P w K (.Tuple elts kk tpos) (IteB b K a) [e, it] e (fun i h => (∃ old, IsEnum h e it ((i : Nat) : Int) old) ∧ ItB b h it a i ∧ e ≠ it ∧ e ≠ a) where
  mem := pairE.mpr (.inl rfl)
  obj := fun i h st c hc => by
    obtain ⟨⟨old, he⟩, hi, _⟩ := st
    obtain ⟨o, v, g, d⟩ := hi.obj
    rcases pairE.mp hc with q | q <;> subst q
    · exact ⟨_, he, fun v q => by cases q⟩
    · exact ⟨_, g, fun v q => by rw [d] at q; cases q⟩
  keep := fun i h h' st k => by
    obtain ⟨⟨old, he⟩, hi, ne⟩ := st
    exact ⟨⟨old, k e (pairE.mpr (.inl rfl)) _ he⟩, hi.keep (k it (pairE.mpr (.inr rfl))), ne⟩
  item := by
    intro X hP hw hK hc i pins s σ H E I hf st hg
    subst hP hw hK
    obtain ⟨⟨old, he⟩, hit, hne, hna⟩ := st
    obtain ⟨xs, x, hq, hx⟩ := hg
    obtain ⟨its, rv, p⟩ := sqB_is I hq
    obtain ⟨u, hu, ru⟩ := rv.get hx
    have lt1 : i < its.toArray.size := by
      have q := (List.getElem?_eq_some_iff.mp hu).1
      simpa using q
    have hel : e < s.heap.objs.size := Heap.lt_size he
    have hh : X.A.in1.handled = none := I.ok.hd hc
    refine wpAny_pyNext_enum_itemD (drawsB hh b it a (isB_ne p hit) its.toArray) he ⟨hit, p⟩ lt1 hne (by simp [hne, hna]) fun x1 h' tk P1 ho st' hT hsz hk => ?_
    have e1 : x1 = u := by
      have q : its[i]? = some x1 := by simpa using P1
      exact Option.some.inj (q.symm.trans hu)
    subst e1
    refine ⟨_, rfl, wpAny_letOwnedTupleGo_enum (s := { s with heap := h', toks := tk + 1 }) ho fun h'' he' sb => ?_⟩
    have hT2 : h''.get? s.heap.objs.size = some { cls := .type "tuple", data := .seq #[.int i tk, x1] } := (sb.2 _ (Nat.ne_of_gt hel)).trans hT
    have new : ObjOk X.prog X.w (upd H s.heap.objs.size (.tup [.int (i : Nat), x])) h'' s.heap.objs.size (.tup [.int (i : Nat), x]) := ⟨by show 2 ≤ sizeLine; decide +kernel, [.int i tk, x1], .cons ⟨_, rfl⟩ (.cons ru .nil), ⟨_, hT2, rfl, _, rfl⟩⟩
    have I1 : Inv X pins σ (upd H s.heap.objs.size (.tup [.int (i : Nat), x])) { s with heap := h'', toks := tk + 1 } := I.turnedNew (ch := [e, it]) (fun c ob hb q => by
      have hb : ¬ (c = e ∨ c = it) := fun w => hb (pairE.mpr w)
      exact (sb.2 c fun w => hb (.inl w)).trans (hk c ob (fun w => hb (.inl w)) (fun w => hb (.inr w)) q)) hf (Nat.le_refl _) new
    refine ⟨.ref s.heap.objs.size, _, I1, rfl, ⟨_, x, rfl, I.hok.fresh (Nat.le_refl _), rfl, fun l q => by rw [sqB_inj I q hq]; exact hx⟩, ⟨⟨x1, ?_⟩, st'.1.keep fun o q => (sb.2 it (Ne.symm hne)).trans q, hne, hna⟩, fun c hcm => ?_⟩
    · have e1 : ((i + 1 : Nat) : Int) = (i : Int) + 1 := by omega
      rw [e1]
      exact he'
    · obtain ⟨o, v, g, _⟩ := hit.obj
      have lt : c < s.heap.objs.size := by
        rcases pairE.mp hcm with q | q <;> subst q
        · exact hel
        · exact Heap.lt_size g
      rw [upd_ne (Nat.ne_of_lt lt)]
      exact (hf c hcm).1
  done := by
    intro X hP hw hK hc i pins s σ H E I hf st hg
    subst hP hw hK
    obtain ⟨⟨old, he⟩, hit, hne, hna⟩ := st
    obtain ⟨xs, hq, hl⟩ := hg
    obtain ⟨its, rv, p⟩ := sqB_is I hq
    have m := rv.length
    have hh : X.A.in1.handled = none := I.ok.hd hc
    have ei : its.toArray.size = i := by
      simp
      omega
    refine wpAny_pyNext_enum_endD (drawsB hh b it a (isB_ne p hit) its.toArray) he (by rw [ei]; exact ⟨hit, p⟩) fun h' k => ⟨rfl, I.turnedL (t' := s.toks) (ch := [e, it]) (fun c o hb q => ?_) hf⟩
    exact k c o (fun w => hb (pairE.mpr (.inr w))) q
  self := fun A i s Q E st h => by
    obtain ⟨⟨_, he⟩, _⟩ := st
    exact wpAny_pyIter_enum he h
def iEnumB (K : PySem.W.Frag) (ta : TA) : TI := fun σ H R => ta σ H fun vs H1 => ∃ b a xs, vs = [.ref a] ∧ SqB b K H1 a xs ∧ R (IteB b K a) H1
theorem pi_enumB {X : Cx} {e : Expr} {ta : TA} {p pos tpos : Pos} {elts : List Expr} {kk : Nat} (hg : Gl X "enumerate") (hm : X.mg "enumerate" = none) (ha : PA X [e] ta) (hs : starEach [e] X.env = [(false, eval e X.env)] := by rfl) :
    PI X (.Tuple elts kk tpos) (.Call (.Name "enumerate" p) [e] [] pos) (iEnumB X.K ta) := by
  refine ⟨fun pins s σ H R I h => ?_⟩
  refine PyProof.Rows.Call_ (ld_blt I hg hm PyProof.Rows.boot_enumerate (PyProof.Rows.callWith_type1 (thn (ha.run pos pins s σ H _ I h) fun us s1 ⟨vs, H1, I1, r1, q1⟩ => ?_) hs rfl))
  obtain ⟨b, a, xs, ev, hq, q⟩ := q1
  subst ev
  cases r1 with
  | cons r rr =>
    cases rr
    cases r
    obtain ⟨its, rv, p'⟩ := sqB_is I1 hq
    have la := p'.lt
    refine call_enumB p' fun h' he hit hsz hk => wpAny_pyIter_enum he ?_
    have I2 : Inv X pins σ H1 { s1 with heap := h' } := I1.kept (t' := s1.toks) hk
    refine ⟨s1.heap.objs.size + 1, [s1.heap.objs.size + 1, s1.heap.objs.size], _, _, H1, rfl, I2, turn_enumB b a (s1.heap.objs.size + 1) s1.heap.objs.size, ⟨⟨.none, he⟩, hit, Nat.succ_ne_self _, Nat.ne_of_gt (Nat.lt_succ_of_lt la)⟩, fun c hc => ?_, q⟩
    have hle : s1.heap.objs.size ≤ c := by
      rcases pairE.mp hc with w | w <;> rw [w] <;> first
        | exact Nat.le_add_right _ _
        | exact Nat.le_refl _
    exact I1.fpOk hle (I1.hok.fresh hle)
/-- the items with their places -/
def enD : Nat → List DV → List DV
  | _, [] => []
  | k, d :: ds => .tup [.int (k : Nat), d] :: enD (k + 1) ds
theorem enD_len (l : List DV) (k : Nat) : (enD k l).length = l.length := by
  induction l generalizing k with
  | nil => rfl
  | cons d ds ih => simp [enD, ih]
theorem enD_get {l : List DV} {k i : Nat} {d : DV} (h : (enD k l)[i]? = some d) : ∃ x, l[i]? = some x ∧ d = .tup [.int ((k + i : Nat) : Int), x] := by
  induction l generalizing k i with
  | nil => cases h
  | cons x r ih =>
    cases i with
    | zero =>
      have h : some (DV.tup [.int (k : Nat), x]) = some d := h
      cases h
      exact ⟨x, rfl, rfl⟩
    | succ i =>
      have h : (enD (k + 1) r)[i]? = some d := h
      obtain ⟨y, e1, e2⟩ := ih h
      refine ⟨y, e1, ?_⟩
      rw [e2, show k + 1 + i = k + (i + 1) by omega]
def itE (x : DV) : M (List DV) := itS x >>= fun l => pure (enD 0 l)
section
variable {X : Cx} {c : Cn} {pos p1 : Pos} {a tg : Expr} {ma : En → M DV}
theorem wk_enumB {W : Wd} {H : Hp} {b : Bool} {p : Addr} {vs : List V} {ds : List DV} (f : SB c.g.K W H b p vs) (r : Reps c.g W H ds vs) : Wk c W H (IteB b c.g.K p) (enD 0 ds) where
  go := fun W2 H2 pr i d e => by
    have sq := f.per pr
    obtain ⟨x, e1, e3⟩ := enD_get e
    obtain ⟨v, g1, rv⟩ := (r.per pr _ _).get e1
    refine ⟨⟨vs, v, sq, g1⟩, fun z H3 yl => ?_⟩
    obtain ⟨T, x', h1, h2, h3, h4⟩ := yl
    have q1 : v = x' := some_inj2 g1 (h4 vs sq)
    subst q1
    rw [Nat.zero_add] at e3
    exact .inr ⟨T, _, _, e3, h1, h2, h3, .cons (by simp only [Rep]) (.cons rv .nil)⟩
  st := fun W2 H2 pr => ⟨vs, f.per pr, by rw [enD_len, r.len]⟩
theorem i_enum (hk : X.K = c.g.K) (hg : Gl X "enumerate") (hm : X.mg "enumerate" = none) {elts : List Expr} {kk : Nat} {tpos : Pos} (ha : PE X a (RE c ma)) (he : starEach [a] X.env = (false, eval a X.env) :: starEach [] X.env := by rfl) (hs : starEach [a] X.env = [(false, eval a X.env)] := by rfl) :
    PI X (.Tuple elts kk tpos) (.Call (.Name "enumerate" p1) [a] [] pos) (RI c (iB ma itE)) :=
  pi_imp (pi_enumB hg hm (pa_cons ha pa_nil he) hs) fun s H R q => by
    unfold iB at q
    exact RX.bind (K := fun v H1 => ∃ b a xs, [v] = [V.ref a] ∧ SqB b X.K H1 a xs ∧ R (IteB b X.K a) H1) q fun W e W1 H1 x v h1 t S rx q2 => by
      unfold itE at q2
      cases zx : itS x h1 with
      | bad =>
        rw [M.bind_def, zx] at q2
        exact q2.elim
      | exc z h3 => exact (itS_exc zx).elim
      | ok l h3 =>
        rw [M.bind_def, zx] at q2
        obtain ⟨eh, b1, p, vs, e1, rs, cx⟩ := itS_src S rx zx
        subst eh e1
        refine ⟨b1, p, vs, rfl, by rw [hk]; exact cx.now, ?_⟩
        rw [hk]
        exact q2.ret S (wk_enumB cx rs)
end
@[simp] theorem itE_app (x : DV) (h : HP) : itE x h = bR (itS x h) fun l h => .ok (enD 0 l) h := rfl
end LM

/-! More plain laws of the mirror. -/
namespace LM
open PySem L2

/-! ### what may be compared -/
def okd (n : Nat) (d : DV) : Prop := ∃ x, toPD d = some x ∧ x.canLay0 = true ∧ x.depth ≤ n
theorem okd_int {n : Nat} (i : Int) : okd n (.int i) := ⟨.int i, rfl, rfl, Nat.zero_le _⟩
theorem okd_bl {n : Nat} (b : Bool) : okd n (.bl b) := ⟨.bool b, rfl, rfl, Nat.zero_le _⟩
theorem okd_non {n : Nat} : okd n .non := ⟨.none, rfl, rfl, Nat.zero_le _⟩
theorem okd_str {n : Nat} (s : Str) (h : (PyData.str s).canLay0 = true) : okd n (.str s) := ⟨.str s, rfl, h, Nat.zero_le _⟩
theorem okd_all {n : Nat} : ∀ {l : List DV}, (∀ d ∈ l, okd n d) → ∃ r, toPDs l = some r ∧ PyData.canLayAll0 r = true ∧ PyData.depthAll r ≤ n
  | [], _ => ⟨[], rfl, rfl, Nat.zero_le _⟩
  | d :: ds, h => by
    obtain ⟨x, e1, c1, n1⟩ := h d List.mem_cons_self
    obtain ⟨r, e2, c2, n2⟩ := okd_all fun y hy => h y (List.mem_cons_of_mem _ hy)
    refine ⟨x :: r, ?_, ?_, ?_⟩
    · show (match toPD d, toPDs ds with
        | some x, some r => some (x :: r)
        | _, _ => none) = _
      rw [e1, e2]
    · unfold PyData.canLayAll0
      rw [c1, c2]
      rfl
    · unfold PyData.depthAll
      exact Nat.max_le.mpr ⟨n1, n2⟩
theorem okd_tup {n : Nat} {l : List DV} (h : ∀ d ∈ l, okd n d) : okd (n + 1) (.tup l) := by
  obtain ⟨r, e, c, d⟩ := okd_all h
  refine ⟨.tuple r, ?_, ?_, ?_⟩
  · show (match toPDs l with
      | some r => some (PyData.tuple r)
      | none => none) = _
    rw [e]
  · unfold PyData.canLay0
    exact c
  · unfold PyData.depth
    omega
theorem okd_lst {n : Nat} {l : List DV} (h : ∀ d ∈ l, okd n d) : okd (n + 1) (.lst l) := by
  obtain ⟨r, e, c, d⟩ := okd_all h
  refine ⟨.list r, ?_, ?_, ?_⟩
  · show (match toPDs l with
      | some r => some (PyData.list r)
      | none => none) = _
    rw [e]
  · unfold PyData.canLay0
    exact c
  · unfold PyData.depth
    omega
theorem okd_ok {d : DV} (h : okd 64 d) : okD d = true := by
  obtain ⟨x, e, c, n⟩ := h
  unfold okD
  rw [e]
  show SeqAt.shaped x = true
  unfold SeqAt.shaped
  rw [c, decide_eq_true n]
  rfl
theorem okd_mono {m n : Nat} {d : DV} (h : okd m d) (q : m ≤ n) : okd n d := by
  obtain ⟨x, e, c, k⟩ := h
  exact ⟨x, e, c, Nat.le_trans k q⟩
theorem okd_nums {n : Nat} (l : List Int) : ∀ d ∈ nums l, okd n d := fun d hd => by
  obtain ⟨i, _, e⟩ := List.mem_map.mp hd
  rw [← e]
  exact okd_int i

/-! ### walks that are told by what stays -/
theorem forL_inv {A : Type} (g : A → DV) {t : DV → En → Option En} {b : Stm} {fg : List Nat} (I : List A → En → HP → Prop) : ∀ (l : List A) (e : En) (h : HP), I l e h → (∀ x r e h, I (x :: r) e h → ∃ e' h', turn t b fg (g x) e h = .nx e' h' ∧ I r e' h') →
    ∃ e' h', forL t b fg (l.map g) e h = .nx e' h' ∧ I [] e' h'
  | [], e, h, i, _ => ⟨e, h, rfl, i⟩
  | x :: r, e, h, i, q => by
    obtain ⟨e1, h1, a, i1⟩ := q x r e h i
    obtain ⟨e2, h2, b2, i2⟩ := forL_inv g I r e1 h1 i1 q
    exact ⟨e2, h2, by rw [List.map_cons, forL_cons, a, lR_nx, b2], i2⟩
theorem lcL_some {A B : Type} (g : A → DV) (f : B → DV) {t : DV → En → Option En} {me : En → M DV} {e : En} (R : HP → Prop) (P : A → B → Prop) : ∀ (l : List A) (h : HP), R h → (∀ x ∈ l, ∀ h, R h → ∃ (e1 : En) (v : B) (h' : HP), t (g x) e = some e1 ∧ me e1 h = .ok (f v) h' ∧ P x v ∧ R h') →
    ∃ (vs : List B) (h' : HP), lcL t mYes me e (l.map g) h = .ok (vs.map f) h' ∧ vs.length = l.length ∧ (∀ v ∈ vs, ∃ x ∈ l, P x v) ∧ R h'
  | [], h, r, _ => ⟨[], h, rfl, rfl, (fun v (m : v ∈ []) => nomatch m), r⟩
  | x :: l, h, r, q => by
    obtain ⟨e1, v, h1, a, b, p, r1⟩ := q x List.mem_cons_self h r
    obtain ⟨vs, h2, c, d, p2, r2⟩ := lcL_some g f R P l h1 r1 fun y hy => q y (List.mem_cons_of_mem _ hy)
    refine ⟨v :: vs, h2, ?_, by rw [List.length_cons, List.length_cons, d], fun w hw => ?_, r2⟩
    · rw [List.map_cons, lcL_is]
      unfold lcOne
      rw [a]
      show bR (bR (me e1 h) _) _ = _
      rw [b, bR_ok, bR_ok, c, bR_ok]
      rfl
    · rcases List.mem_cons.mp hw with z | z
      · rw [z]
        exact ⟨x, List.mem_cons_self, p⟩
      · obtain ⟨y, hy, py⟩ := p2 w z
        exact ⟨y, List.mem_cons_of_mem _ hy, py⟩
theorem mLc_some {A B : Type} (g : A → DV) (f : B → DV) {vs : List Nat} {mi : En → M (List DV)} {t : DV → En → Option En} {me : En → M DV} {e : En} {h h1 : HP} {l : List A} (R : HP → Prop) (P : A → B → Prop) (hi : mi e h = .ok (l.map g) h1) (hl : l.length ≤ 16777216) (r : R h1)
    (q : ∀ x ∈ l, ∀ h, R h → ∃ (e1 : En) (v : B) (h' : HP), t (g x) (wipeE e vs) = some e1 ∧ me e1 h = .ok (f v) h' ∧ P x v ∧ R h') : ∃ (ws : List B) (h' : HP), mLc vs mi t mYes me e h = .ok (ws.map f) h' ∧ ws.length = l.length ∧ (∀ v ∈ ws, ∃ x ∈ l, P x v) ∧ R h' := by
  obtain ⟨ws, h2, a, b, c, d⟩ := lcL_some g f R P l h1 r q
  refine ⟨ws, h2, ?_, b, c, d⟩
  unfold mLc
  rw [bind_app, hi, bR_ok, if_pos (by rw [List.length_map]; exact hl)]
  unfold noX
  rw [a]
@[simp] theorem tTup_app3 (i j k : Nat) (a b c : DV) (e : En) : tTup [i, j, k] (.tup [a, b, c]) e = some (((e.set i (.val a)).set j (.val b)).set k (.val c)) := rfl
theorem getI0 (a : DV) (l : List DV) (h : HP) : getI (a :: l) 0 h = .ok a h := by
  exact getI_nat h _ 0 rfl
theorem getI1 (a b : DV) (l : List DV) (h : HP) : getI (a :: b :: l) 1 h = .ok b h := by
  exact getI_nat h _ 1 rfl
theorem getI2 (a b c : DV) (l : List DV) (h : HP) : getI (a :: b :: c :: l) 2 h = .ok c h := by
  exact getI_nat h _ 2 rfl
theorem getI3 (a b c d : DV) (l : List DV) (h : HP) : getI (a :: b :: c :: d :: l) 3 h = .ok d h := by
  exact getI_nat h _ 3 rfl
/-! ### the drawn numbers: a row of a script and a place -/
def Row (ns : List Int) (h : HP) : Prop := ∃ (k : Nat) (r : List HObj), h = .lst [.scr ns, .int (k : Int)] :: r
theorem vIdx_ref (p : Nat) (i : Int) (h : HP) (l : List DV) (e : h[p]? = some (.lst l)) : vIdx (.ref p) (.int i) h = getI l i h := by
  show (match asL h (.ref p) with
    | some l => getI l i h
    | none => .bad) = _
  have q : asL h (.ref p) = some l := by
    show (match h[p]? with
      | some (.lst l) => some l
      | _ => none) = _
    rw [e]
  rw [q]
theorem zipD_map {A B : Type} (f : A → DV) (g : B → DV) (l : List A) (m : List B) : zipD (l.map f) (m.map g) = (l.zip m).map fun q => .tup [f q.1, g q.2] := by
  induction l generalizing m with
  | nil => rfl
  | cons x r ih =>
    cases m with
    | nil => rfl
    | cons y t =>
      simp [zipD_cons, ih]
theorem zipD_nums {A : Type} (f : A → DV) (l : List A) (m : List Int) : zipD (l.map f) (nums m) = (l.zip m).map fun q => .tup [f q.1, .int q.2] := zipD_map f DV.int l m
theorem zipD_nums2 (l m : List Int) : zipD (nums l) (nums m) = (l.zip m).map fun q => .tup [.int q.1, .int q.2] := zipD_map DV.int DV.int l m
theorem lMul_one (d : DV) (n : Nat) (hn : n ≤ 16777216) (h : HP) : lMul (.lst [d]) (.int (n : Int)) h = .ok (List.replicate n d) h := by
  have e : (List.replicate n [d]).flatten = List.replicate n d := by
    induction n with
    | zero => rfl
    | succ k ih => simp [List.replicate_succ, ih (by omega)]
  show (if (Nat.ble n 16777216 && Nat.ble ([d].length * n) 16777216) = true then (pure (List.replicate n [d]).flatten : M (List DV)) else M.bad) h = _
  rw [if_pos (by
    rw [Bool.and_eq_true, Nat.ble_eq, Nat.ble_eq]
    exact ⟨hn, by simpa using hn⟩), e]
  rfl
theorem lMulE (a b : En → M DV) (e : En) (h : HP) (d : DV) (n : Nat) (ha : a e h = .ok (.lst [d]) h) (hb : b e h = .ok (.int (n : Int)) h) (hn : n ≤ 16777216) : iB2 a b lMul e h = .ok (List.replicate n d) h := by
  unfold iB2
  rw [bind_app, ha, bR_ok, bind_app, hb, bR_ok, lMul_one d n hn]
theorem nums_rep (n : Nat) (i : Int) : List.replicate n (DV.int i) = nums (List.replicate n i) := by
  unfold nums
  rw [List.map_replicate]
theorem nums_set (l : List Int) (k : Nat) (i : Int) : (nums l).set k (.int i) = nums (l.set k i) := by
  unfold nums
  rw [List.map_set]
/-- a list as data, each a number -/
theorem mLc_nums {A : Type} (g : A → DV) {vs : List Nat} {mi : En → M (List DV)} {t : DV → En → Option En} {me : En → M DV} {e : En} {h h1 : HP} {l : List A} (R : HP → Prop) (P : A → Int → Prop) (hi : mi e h = .ok (l.map g) h1) (hl : l.length ≤ 16777216) (r : R h1)
    (q : ∀ x ∈ l, ∀ h, R h → ∃ (e1 : En) (v : Int) (h' : HP), t (g x) (wipeE e vs) = some e1 ∧ me e1 h = .ok (.int v) h' ∧ P x v ∧ R h') : ∃ (ws : List Int) (h' : HP), mLc vs mi t mYes me e h = .ok (nums ws) h' ∧ ws.length = l.length ∧ (∀ v ∈ ws, ∃ x ∈ l, P x v) ∧ R h' :=
  mLc_some g DV.int R P hi hl r q
/-- the sum of products -/
def dot (l m : List Int) : Int := (List.zipWith (· * ·) l m).sum
@[simp] theorem dot_nil (m : List Int) : dot [] m = 0 := rfl
@[simp] theorem dot_cons (x y : Int) (l m : List Int) : dot (x :: l) (y :: m) = x * y + dot l m := rfl
theorem dot_set : ∀ (l s : List Int) (k : Nat) (v : Int), k < l.length → k < s.length → dot l (s.set k v) = dot l s + l.getD k 0 * (v - s.getD k 0)
  | [], _, _, _, h, _ => by cases h
  | _ :: _, [], _, _, _, h => by cases h
  | x :: l, y :: s, 0, v, _, _ => by
    simp [Int.mul_sub]
    omega
  | x :: l, y :: s, k + 1, v, h1, h2 => by
    have e := dot_set l s k v (by simpa using h1) (by simpa using h2)
    rw [List.set_cons_succ, dot_cons, dot_cons, e, List.getD_cons_succ, List.getD_cons_succ]
    omega
theorem dot_zero (l : List Int) (n : Nat) : dot l (List.replicate n 0) = 0 := by
  induction l generalizing n with
  | nil => rfl
  | cons x r ih =>
    cases n with
    | zero => rfl
    | succ k => simp [List.replicate_succ, ih]
/-- products of two rows, as a comprehension makes them -/
theorem mLc_dot {vs : List Nat} {mi : En → M (List DV)} {t : DV → En → Option En} {me : En → M DV} {e : En} {h : HP} (l m : List Int) (hi : mi e h = .ok (zipD (nums l) (nums m)) h) (hl : l.length ≤ 16777216)
    (q : ∀ a b, a ∈ l → b ∈ m → ∃ e1, t (.tup [.int a, .int b]) (wipeE e vs) = some e1 ∧ me e1 h = .ok (.int (a * b)) h) : mLc vs mi t mYes me e h = .ok (nums (List.zipWith (· * ·) l m)) h := by
  rw [zipD_nums2] at hi
  rw [mLc_ints (A := Int × Int) (l := l.zip m) (fun q => .tup [.int q.1, .int q.2]) (fun q => .int (q.1 * q.2)) hi (by rw [List.length_zip]; omega) fun p hp => q p.1 p.2 (List.of_mem_zip hp).1 (List.of_mem_zip hp).2]
  rw [← nums_map (fun q : Int × Int => q.1 * q.2), List.zip, List.map_zipWith]
theorem foldl_app2 {A B : Type} (f : A → B) (l : List A) (s : List B) : l.foldl (fun s k => s ++ [f k]) s = s ++ l.map f := by
  induction l generalizing s with
  | nil => simp
  | cons x r ih => simp [ih]
end LM

/-! list(reversed(a list)). -/
namespace LM
open PySem L2
section
variable {prog : Program} {w : World} {A : Around} {E : Value → Shared → Prop} {s : Shared}
theorem list_init_rev {R : Result → Shared → Prop} {it l : Addr} {items : Array Value} (hh : A.handled = none) (hit : s.heap.IsRevIter it l ((items.size : Int) - 1)) (hl : s.heap.IsList l items) (hne : l ≠ it) (hn : items.size ≤ sizeLine) (S : Addr) (hS : s.heap.get? S = some { cls := .type "list", data := .seq #[] }) (n1 : S ≠ it) (n2 : S ≠ l)
    (hR : ∀ (h' : Heap) (tk : Nat) (acc : Array Value) (c : Nat), (∀ b o, b ≠ S → b ≠ it → s.heap.get? b = some o → h'.get? b = some o) → h'.get? S = some { cls := .type "list", dict := none, data := .seq acc c, slots := #[] } → ItemsOf (fun i v => items[items.size - 1 - i]? = some v) acc items.size → R (.ok (.ret .none)) { s with heap := h', toks := tk }) :
    wpAny (model prog w) A.in1 (Builtin.«list.__init__» ⟨[.ref S, .ref it], []⟩)
      (fun fin s' => match fin with | .done f => R (.ok f) s' | .again c' => c'.quiet = true ∧ codeAny (model prog w) A c' R s') (fun e s' => R (.error e) s') s := by
  have W := (Walks.listRev (prog := prog) (w := w) (A := A.in1) hh it l hne items).toS
  have hSf : S ∉ [it, l] := fun m => (pairE.mp m).elim n1 n2
  show wpAny _ _ (do
    let old ← Builtin.List.listItems (.ref S)
    Builtin.List.listUpdate (.ref S) (fun _ => #[])
    letGo old.toList.reverse
    Builtin.List.listExtendWith (.ref S) (.ref it) .none) _ _ s
  refine wpAny_bind ?_
  unfold Builtin.List.listItems
  refine wpAny_bind (wpAny_seqItems hS rfl (wpAny_pure ?_))
  show wpAny _ _ (updateSeq S (fun _ => #[]) >>= fun _ => letGo (#[] : Array Value).toList.reverse >>= fun _ => Builtin.List.listExtendWith (.ref S) (.ref it) .none) _ _ s
  refine wpAny_bind (wpAny_updateSeq hS rfl ?_)
  have hS2 := Heap.get?_update_self (Obj.mapSeq (fun _ => (#[] : Array Value))) hS rfl
  have oth : ∀ b o, b ≠ S → s.heap.get? b = some o → (s.heap.update S (Obj.mapSeq (fun _ => (#[] : Array Value)))).get? b = some o := fun b o hb e => (Heap.get?_update_other _ _ (Ne.symm hb)).trans e
  refine wpAny_bind (wpAny_letGo ?_)
  have hit1 := hit.at fun o e => oth it o (Ne.symm n1) e
  have hl1 := hl.at fun o e => oth l o (Ne.symm n2) e
  have hT : ({ s with heap := s.heap.update S (Obj.mapSeq (fun _ => (#[] : Array Value))) } : Shared).TypeIs (.ref it) "list_reverseiterator" := Heap.IsRevIter.typeIs (s := { s with heap := s.heap.update S (Obj.mapSeq (fun _ => (#[] : Array Value))) }) hit1
  have h1 : Builtin.List.listSameRef (.ref S) (.ref it) = false := by simp [Builtin.List.listSameRef, n1]
  unfold Builtin.List.listExtendWith
  refine wpAny_bind (wpAny_typeOf hT ?_)
  rw [if_neg (by rw [h1]; decide)]
  refine wpAny_bind (wpAny_pyIter_revIter (s := { s with heap := s.heap.update S (Obj.mapSeq (fun _ => (#[] : Array Value))) }) hit1 ?_)
  refine wpAny_bind (wpAny_holding ?_)
  unfold Builtin.List.listLengthHint
  refine wpAny_bind (wpAny_specialOf hT RT.nolen_lri ?_)
  show wpAny _ A.in1 (specialOf (Value.ref it) (Str.ofString "__length_hint__") >>= _) _ _ _
  refine wpAny_bind (wpAny_specialOf hT RT.hint_lri ?_)
  generalize hid : ("list_reverseiterator.__length_hint__" : String) = id0
  wp_delta
  rw [show splitId id0 = some ("list_reverseiterator", "__length_hint__") from by subst hid; decide +kernel]
  subst hid
  refine wpAny_bind (wpAny_isInstance (b := true) hT (by rw [isSubtype_type]; kernel_rfl) ?_)
  refine wpAny_pure ?_
  rw [if_neg (by decide)]
  have e0 : ((items.size : Nat) : Int) - 1 - ((0 : Nat) : Int) = (items.size : Int) - 1 := by omega
  refine wpAny_pure ⟨plainId_quiet F.plain_extend_loop _, codeAny_extend_loopS W hn _ hSf _ items.size 0 _ _ _ rfl (Nat.zero_le _) ⟨Nat.zero_le _, by rw [e0]; exact hit1, hl1⟩ hS2 (ItemsOf.nil _) fun s' acc' c' hm hS' hacc => ?_⟩
  rw [Moved.eq_with hm]
  refine hR s'.heap s'.toks acc' c' (fun b o hb hbi e => hm.heap b o (fun hmem => ?_) (oth b o hb e)) hS' hacc
  rcases List.mem_cons.mp hmem with e' | hmem
  · exact hb e'
  · exact hbi (List.mem_singleton.mp hmem)
theorem call_list_rev {Q : Value → Shared → Prop} {it l : Addr} {items : Array Value} (hh : A.handled = none) (hit : s.heap.IsRevIter it l ((items.size : Int) - 1)) (hl : s.heap.IsList l items) (hne : l ≠ it) (hn : items.size ≤ sizeLine)
    (hQ : ∀ (h' : Heap) (tk : Nat) (acc : Array Value) (c : Nat), (∀ b o, b ≠ it → s.heap.get? b = some o → h'.get? b = some o) → h'.get? s.heap.objs.size = some { cls := .type "list", dict := none, data := .seq acc c, slots := #[] } → ItemsOf (fun i v => items[items.size - 1 - i]? = some v) acc items.size → Q (.ref s.heap.objs.size) { s with heap := h', toks := tk }) :
    wpAny (model prog w) A (call (.type "list") [.ref it]) Q E s := by
  refine callType_codes (Q₁ := fun obj s₁ => obj = .ref s.heap.objs.size ∧ s₁ = { s with heap := s.heap.push { cls := .type "list", data := .seq #[] } }) F.called_list (F.typeCall_list_1 _) F.entry_list_init (code_list_new _ ⟨rfl, rfl⟩) fun obj s₁ h₁ => ?_
  obtain ⟨e1, e2⟩ := h₁
  subst e1 e2
  have hS : (s.heap.push { cls := .type "list", data := .seq #[] }).get? s.heap.objs.size = some { cls := .type "list", data := .seq #[] } := Heap.get?_push_size _ rfl
  obtain ⟨oi, hoi, _⟩ := id hit
  obtain ⟨ol, hol, _⟩ := id hl
  refine ⟨⟨_, hS, rfl⟩, F.args_list_init_2 _ _, list_init_rev (A := A.in1) (s := { s with heap := s.heap.push { cls := .type "list", data := .seq #[] } }) hh (hit.at fun o e => Heap.get?_push_of_some _ e) (hl.push _) hne hn _ hS (Nat.ne_of_gt (Heap.lt_size hoi)) (Nat.ne_of_gt (Heap.lt_size hol)) fun h' tk acc c hk hS' hacc => ?_⟩
  exact ⟨rfl, hQ h' tk acc c (fun b o hb e => hk b o (Nat.ne_of_lt (Heap.lt_size e)) hb (Heap.get?_push_of_some _ e)) hS' hacc⟩
end
section
variable {X : Cx}
def tLstRev (K : PySem.W.Frag) (te : TE) : TE := fun σ H Q => te σ H fun v H1 => ∃ (a : Addr) (xs : List V), v = .ref a ∧ SqL K H1 a xs ∧ ∀ q, H1 q = none → Q (.ref q) (upd H1 q (.lst xs.reverse))
theorem pe_listRev {e : Expr} {te : TE} {p p2 pos pos2 : Pos} (hc : X.calm = true) (hg : Gl X "list") (hm : X.mg "list" = none) (hg2 : Gl X "reversed") (hm2 : X.mg "reversed" = none) (he : PE X e te) (hs : starEach [e] X.env = (false, eval e X.env) :: starEach [] X.env := by rfl)
    (hs2 : starEach [.Call (.Name "reversed" p2) [e] [] pos2] X.env = (false, eval (.Call (.Name "reversed" p2) [e] [] pos2) X.env) :: starEach [] X.env := by rfl) : PE X (.Call (.Name "list" p) [.Call (.Name "reversed" p2) [e] [] pos2] [] pos) (tLstRev X.K te) := by
  refine ⟨fun pins s σ H Q I h => ?_⟩
  refine PyProof.Rows.Call_ (ld_blt I hg hm PyProof.Rows.boot_list (PyProof.Rows.callWith_type1 (PyProof.Rows.args_cons (PyProof.Rows.Call_ (ld_blt I hg2 hm2 PyProof.Rows.boot_reversed (PyProof.Rows.callWith_type1 (PyProof.Rows.args_cons (thn (he.run pins s σ H _ I h) fun u s1 ⟨v, H1, I1, r1, q1⟩ => PyProof.Rows.args_nil ?_) hs) hs rfl))) hs2) hs2 rfl))
  obtain ⟨a, xs, ev, hq, q⟩ := q1
  subst ev
  obtain rfl : u = Value.ref a := r1
  obtain ⟨its, rv, p', hz⟩ := I1.list hq
  refine call_reversed_list p'.isList (PyProof.Rows.args_nil ?_)
  have k0 : ∀ b o, s1.heap.get? b = some o → (s1.heap.push (revObj a ((its.toArray.size : Int) - 1))).get? b = some o := fun b o e => Heap.get?_push_of_some _ e
  have I2 : Inv X pins σ H1 { s1 with heap := s1.heap.push (revObj a ((its.toArray.size : Int) - 1)) } := I1.kept (t' := s1.toks) k0
  obtain ⟨f0, f1, f2, f3, f4, f5⟩ := I1.fpOk (H' := H1) (b := s1.heap.objs.size) (Nat.le_refl _) (I1.hok.fresh (Nat.le_refl _))
  have hl := p'.isList
  obtain ⟨ol, hol, _⟩ := id hl
  have hne : a ≠ s1.heap.objs.size := Nat.ne_of_lt (Heap.lt_size hol)
  have hn : its.toArray.size ≤ sizeLine := by rw [List.size_toArray, ← rv.length]; exact hz
  refine call_list_rev (s := { s1 with heap := s1.heap.push (revObj a ((its.toArray.size : Int) - 1)) }) (I1.ok.hd hc) ⟨_, Heap.get?_push_size _ rfl, rfl, rfl⟩ (hl.push _) hne hn fun h' tk acc c hk hS' hi => ?_
  have hz1 : (s1.heap.push (revObj a ((its.toArray.size : Int) - 1))).objs.size = s1.heap.objs.size + 1 := Heap.size_push ..
  have new : ObjOk X.prog X.w (upd H1 (s1.heap.push (revObj a ((its.toArray.size : Int) - 1))).objs.size (.lst xs.reverse)) h' (s1.heap.push (revObj a ((its.toArray.size : Int) - 1))).objs.size (.lst xs.reverse) := ⟨by rw [List.length_reverse]; exact hz, acc.toList, c, RT.vals_rev rv hi, by rw [Array.toArray_toList]; exact hS'⟩
  have I3 := I2.turnedNew (t' := tk) (ch := [s1.heap.objs.size]) (fun b o hb e => hk b o (fun z => hb (List.mem_singleton.mpr z)) e) (fun b hb => by
    rw [List.mem_singleton.mp hb]
    exact ⟨f0, f1, f2, f3, f4, f5⟩) (Nat.le_refl _) new
  exact ⟨.ref (s1.heap.push (revObj a ((its.toArray.size : Int) - 1))).objs.size, _, I3, rfl, q _ (I2.hok.fresh (Nat.le_refl _))⟩
/-- list(reversed(a list)) -/
def lLstRev (x : DV) : M (List DV) := fun h => match asL h x with
  | some l => .ok l.reverse h
  | none => .bad
theorem c_listRev {c : Cn} {a : Expr} {ma : En → M DV} {p1 p2 pos pos2 : Pos} (hk : X.K = c.g.K) (hc : X.calm = true) (hg : Gl X "list") (hm : X.mg "list" = none) (hg2 : Gl X "reversed") (hm2 : X.mg "reversed" = none) (ha : PE X a (RB c ma)) (hs : starEach [a] X.env = (false, eval a X.env) :: starEach [] X.env := by rfl)
    (hs2 : starEach [.Call (.Name "reversed" p2) [a] [] pos2] X.env = (false, eval (.Call (.Name "reversed" p2) [a] [] pos2) X.env) :: starEach [] X.env := by rfl) :
    PE X (.Call (.Name "list" p1) [.Call (.Name "reversed" p2) [a] [] pos2] [] pos) (RO c (iB ma lLstRev)) := pe_imp (pe_listRev hc hg hm hg2 hm2 ha hs hs2) fun s H Q q => by
  unfold iB at q
  obtain ⟨W, e, h, S0, q⟩ := q
  refine ⟨W, e, h, S0, ?_⟩
  have q : Post c (rO c H) e s W H ((ma e >>= lLstRev) h) Q := q
  rw [bind_app] at q
  cases z0 : ma e h with
  | bad =>
    rw [z0] at q
    exact q.elim
  | exc x h1 =>
    rw [z0] at q
    exact q
  | ok x h1 =>
    rw [z0] at q
    intro W1 H1 v t S rx
    have q2 : Post c (rO c H) e s W H (lLstRev x h1) Q := q
    unfold lLstRev at q2
    cases z : asL h1 x with
    | none =>
      rw [z] at q2
      exact q2.elim
    | some l =>
      rw [z] at q2
      obtain ⟨p, vs, e1, sq, r⟩ := asL_ok S rx z
      refine ⟨p, vs, e1, hk ▸ sq, fun d hd => ?_⟩
      exact post_own (q2.later t) S r.rev hd (t.th d hd)
end
@[simp] theorem lLstRev_lst (l : List DV) (h : HP) : lLstRev (.lst l) h = .ok l.reverse h := rfl
end LM

/-! Tables of the module, calls of what they hold; a wider look at the top. -/
namespace LM
open PySem L2

/-! ### the hook -/
section
variable {fa : List He.Fa} {fn : List He.DefD} {ts : List He.Tab} {ck : PySem.W.Frag → Bool} {w : World} {K : PySem.W.Frag}
theorem SaysL.t (c : SaysL fa fn ts ck w K) : He.SaysT fa fn ts w K := congrArg (fun z : AlL => z.1) c
theorem SaysL.d (c : SaysL fa fn ts ck w K) : He.SaysD fa fn K := c.t.d
theorem SaysL.c (c : SaysL fa fn ts ck w K) : ck K = true := congrArg (fun z : AlL => z.2) c
end
theorem end_ofL {l : PySem.W.OpenLaw} {k : Nat} {q : Program} {loose : List Str} {XP : (Str → Option Value) → Heap → Prop} {d : DefRec} {x : Str} {fa : List He.Fa} {fn : List He.DefD} {ts : List He.Tab} {ck : PySem.W.Frag → Bool} {nb : Nat} {gl : PySem.W.Frag → Glue} {m : List DV → M DV}
    (hn : l.most = some 63) (hdf : d.params.defaults = []) (hd : d.name = ("law" : Str)) (hr : Room k callerA) (hK : ∀ K, (gl K).K = K)
    (hF : ∀ (w : World) (mg : Str → Option Value) (h : Heap) (K : PySem.W.Frag), K.In h → h.Ns mainGlobals mg → SaysL fa fn ts ck w K → mg "law" = some (.ref (He.ga K "law")) ∧
      ∃ fd, (∀ (s : Shared) (u : Value), BindsTo s fd ⟨[u], []⟩ [(x, u)]) ∧ ∀ base : Heap, K.In base → base.Ns mainGlobals mg → FnOk l.prog w K mg base (L2N.CX l.prog w) k (He.ga K "law") fd [x] (spF (gl K) 1 m))
    (good : ∀ ns : List Int, ns.length ≤ 63 → (∀ k ∈ ns, Builtin.Int.intBits k ≤ 1048576) → ∃ h', m [.scr ns] [] = .ok (.bl true) h') :
    PySem.W.WalkO q loose XP (hookL nb fa fn ts ck).says l.row.toRowW d [] (fun f vs => PySem.call f vs) := by
  refine Att.attach_callB hn hdf fun w s₀ s₁ mg mb f o pm cd doc a vs ns G Y ho hd2 hcd hmg hobj hints hlen hbits hg => ?_
  obtain ⟨K, KX, c⟩ := Y
  rw [hd] at hmg
  obtain ⟨e, fd, hb, hf⟩ := hF w mg _ K KX G.T.g c
  rw [e] at hmg
  cases hmg
  refine law_call KX G.T.g G.T.b G.T.builtins G.T.nolimit hg hobj hints (Nat.le_trans hlen (by decide +kernel)) hr (fun base h1 h2 => hf base h1 h2) hb (fun H hO hS => ?_) fun H e2 s2 z => cx_no z
  exact sp_good hO (by rw [hK]; exact hS) (good ns hlen hbits)

/-! ### tables -/
/-- what a table's entry holds: a def, by name and number; a tuple of numbers -/
def Te.dv : Te → DV
  | .fn _ id => .fn id
  | .tup l => .tup (nums l)
  | .int i => .int i
theorem isInts_ok : ∀ {l : List Int} {vs : List Value}, isInts l vs = true → Vals (l.map V.int) vs
  | [], [], _ => .nil
  | [], _ :: _, h => by cases h
  | i :: r, v :: s, h => by
    cases v with
    | int j t =>
      obtain ⟨a, b⟩ := He.ba (show (decide (i = j) && isInts r s) = true from h)
      have e : i = j := of_decide_eq_true a
      subst e
      exact .cons ⟨t, rfl⟩ (isInts_ok b)
    | _ => cases h
  | _ :: _, [], h => by cases h
/-- the table at a -/
theorem reps_nums {g : Glue} {W : Wd} {H : Hp} (l : List Int) : Reps g W H (nums l) (l.map V.int) := reps_ints l
theorem Te.rep {g : Glue} {t : Te} {u : Value} (hf : ∀ x id, t = .fn x id → He.ga g.K x = g.fA id) (h : t.is g.K u = true) : ∃ v, RelV v u ∧ ∀ W H, Rep g W H t.dv v := by
  cases t with
  | fn x id =>
    cases u with
    | ref a =>
      have e : a = He.ga g.K x := of_decide_eq_true h
      refine ⟨.ref a, rfl, fun W H => ?_⟩
      simp only [Te.dv, Rep]
      rw [e, hf x id rfl]
    | _ => cases h
  | int i =>
    cases u with
    | int j t =>
      have e : i = j := of_decide_eq_true h
      subst e
      refine ⟨.int i, ⟨t, rfl⟩, fun W H => ?_⟩
      simp only [Te.dv, Rep]
    | _ => cases h
  | tup l =>
    cases u with
    | ref a =>
      have h1 : (match g.K.lookup a with
        | some ⟨.type c, _, .seq its _, _⟩ => decide (c = "tuple") && (Nat.ble its.size 1000 && isInts l its.toList)
        | _ => false) = true := h
      cases q : g.K.lookup a with
      | none =>
        rw [q] at h1
        cases h1
      | some o =>
        obtain ⟨oc, od, dt, osl⟩ := o
        rw [q] at h1
        cases oc with
        | type c =>
          cases dt with
          | seq its n =>
            obtain ⟨h2, h3⟩ := He.ba (show (decide (c = "tuple") && (Nat.ble its.size 1000 && isInts l its.toList)) = true from h1)
            obtain ⟨h4, h5⟩ := He.ba h3
            have ec : c = "tuple" := of_decide_eq_true h2
            have sz : its.size ≤ 1000 := Nat.le_of_ble_eq_true h4
            refine ⟨.ref a, rfl, fun W H => ?_⟩
            simp only [Te.dv, Rep]
            refine ⟨a, l.map V.int, rfl, .inr ⟨_, its, n, q, by rw [ec], rfl, ?_, isInts_ok h5⟩, reps_nums l⟩
            rw [line_LN]
            show its.size ≤ 16777216
            omega
          | _ => cases h1
        | _ => cases dt <;> cases h1
    | _ => cases h
/-- the module's name x is such a table -/
structure TabOk (T : Tp) (x : Str) (es : List (Str × Te)) : Prop where
  ex : ∃ d, T.mg x = some (.ref d) ∧ ∀ z t, es.lookup z = some t → ∃ v, KDct T.g.K T.w d z v ∧ ∀ W H, Rep T.g W H t.dv v
theorem mem_of_lookup {A : Type} : ∀ {es : List (Str × A)} {z : Str} {t : A}, es.lookup z = some t → (z, t) ∈ es
  | [], _, _, h => by cases h
  | (y, u) :: r, z, t, h => by
    rw [List.lookup_cons] at h
    cases q : (z == y) with
    | true =>
      rw [q] at h
      have e1 : z = y := eq_of_beq q
      have e2 : u = t := Option.some.inj h
      subst e1 e2
      exact List.mem_cons_self
    | false =>
      rw [q] at h
      exact List.mem_cons_of_mem _ (mem_of_lookup h)
theorem tab_of {T : Tp} {x : Str} {es : List (Str × Te)} {d : Addr} {en : Array DictEntry} {n : Nat} (hm : T.mg x = some (.ref d)) (D : KDict T.g.K T.w d en n) (b : tabB T.g.K d es = true) (hf : ∀ q ∈ es, ∀ x id, q.2 = .fn x id → He.ga T.g.K x = T.g.fA id) : TabOk T x es := by
  refine ⟨d, hm, fun z t e => ?_⟩
  have m := mem_of_lookup e
  have b1 := List.all_eq_true.mp b (z, t) m
  cases q : PySem.W.nsIn T.g.K d z with
  | none =>
    simp only [q] at b1
    cases b1
  | some r =>
    cases r with
    | none =>
      simp only [q] at b1
      cases b1
    | some u =>
      simp only [q] at b1
      obtain ⟨v, rv, rp⟩ := Te.rep (hf (z, t) m) b1
      exact ⟨v, ⟨en, n, u, D.at_, D.lit, q, rv⟩, rp⟩
def vTab (es : List (Str × Te)) (x : DV) : M DV := match x with
  | .str z => (match es.lookup z with
    | some t => pure t.dv
    | none => M.bad)
  | _ => M.bad
section
variable {T : Tp} {X : Cx} {c : Cn} {N : List Str} {k : Nat} {sc : Scope} {x : Str} {pos p1 : Pos} {b : Expr} {mb : En → M DV}
theorem k_tab {es : List (Str × Te)} (hX : XEx T X c N k sc) (t : TabOk T x es) (hg : Gl X x) (hb : PE X b (RE c mb)) (hs : PlainIx b := by intro _ _; rfl) (hd : (x == ("__debug__" : Str)) = false := by decide) : PE X (.Subscript (.Name x p1) b pos) (RE c (e1 (vTab es) mb)) := by
  obtain ⟨d, hm, H⟩ := t.ex
  refine pe_imp (pe_ix ix_kdict (pe_glob (v := .ref d) hg (by rw [hX.pm]; exact hm) rfl hd) hb hs) fun s Hh Q q => ?_
  show RE c mb s Hh fun v H1 => rIxD X.K X.w (.ref d) v H1 Q
  refine RX.bind (K := fun v H1 => ∃ p z v2, V.ref d = .ref p ∧ v = V.str z ∧ KDct X.K X.w p z v2 ∧ Q v2 H1) q fun W e W1 H1 y v h1 t S r q2 => ?_
  unfold vTab at q2
  cases y with
  | str z =>
    simp only [] at q2
    cases z2 : es.lookup z with
    | none =>
      rw [z2] at q2
      exact q2.elim
    | some t =>
      rw [z2] at q2
      obtain ⟨v2, kd, rp⟩ := H z t z2
      simp only [Rep] at r
      subst r
      refine ⟨d, z, v2, rfl, rfl, by rw [hX.pk, hX.pw]; exact kd, q2.ret S ?_⟩
      show Rep c.g _ _ _ _
      rw [hX.pg]
      exact rp _ _
  | _ => exact q2.elim
end
@[simp] theorem vTab_app (es : List (Str × Te)) (z : Str) (h : HP) {t : Te} (q : es.lookup z = some t) : vTab es (.str z) h = .ok t.dv h := by
  unfold vTab
  simp only [q]
  rfl

/-! ### calls of what an expression gives -/
/-- the defs that may be called -/
abbrev Fns := List (Nat × (List DV → M DV))
def fnOf (fs : Fns) (f : DV) : Option (List DV → M DV) := match f with
  | .fn i => fs.lookup i
  | _ => none
def orBad (o : Option (List DV → M DV)) (ms : M (List DV)) : M DV := match o with
  | some m => ms >>= m
  | none => M.bad
def eCallF (fs : Fns) (mf : En → M DV) (ms : En → M (List DV)) : En → M DV := fun e => mf e >>= fun f => orBad (fnOf fs f) (ms e)
/-- what is known of each -/
structure FoL (T : Tp) (k n : Nat) (fs : Fns) : Prop where
  at_ : ∀ (i : Nat) (m : List DV → M DV), (i, m) ∈ fs → ∃ x, Fo T x i k n m
theorem FoL.nil {T : Tp} {k n : Nat} : FoL T k n [] := ⟨fun _ _ h => by cases h⟩
theorem FoL.cons {T : Tp} {x : Str} {j k n i : Nat} {m : List DV → M DV} {fs : Fns} (F : Fo T x i j n m) (hj : j ≤ k) (L : FoL T k n fs) : FoL T k n ((i, m) :: fs) := ⟨fun i2 m2 h => by
  rcases List.mem_cons.mp h with e | e
  · cases e
    exact ⟨x, F.mono hj⟩
  · exact L.at_ i2 m2 e⟩
theorem mem_of_lookupN {A : Type} : ∀ {es : List (Nat × A)} {z : Nat} {t : A}, es.lookup z = some t → (z, t) ∈ es
  | [], _, _, h => by cases h
  | (y, u) :: r, z, t, h => by
    rw [List.lookup_cons] at h
    cases q : (z == y) with
    | true =>
      rw [q] at h
      have e1 : z = y := eq_of_beq q
      have e2 : u = t := Option.some.inj h
      subst e1 e2
      exact List.mem_cons_self
    | false =>
      rw [q] at h
      exact List.mem_cons_of_mem _ (mem_of_lookupN h)
section
variable {T : Tp} {X : Cx} {c : Cn} {N : List Str} {k n : Nat} {sc : Scope} {pos : Pos} {fe ex : Expr} {es : List Expr} {mf : En → M DV} {ms : En → M (List DV)} {fs : Fns}
theorem c_callF (hX : XEx T X c N k sc) (L : FoL T k n fs) (hf : PE X fe (RE c mf)) (ha : PA X (ex :: es) (RA c n ms))
    (ht : eval (.Call fe (ex :: es) [] pos) X.env = (do callWith pos (← eval fe X.env) [] (backTo pos (starEach (ex :: es) X.env)) (backToKw pos (keywordEach [] X.env))) := by rfl)
    (he : starEach (ex :: es) X.env = (false, eval ex X.env) :: starEach es X.env := by rfl) (hpl : (backTo pos (starEach es X.env)).any (·.1) = false := by rfl) :
    PE X (.Call fe (ex :: es) [] pos) (RE c (eCallF fs mf ms)) := by
  refine ⟨fun pins s σ H Q I q => ?_⟩
  have q1 : RX c (rV c) mf σ H fun y H1 => ∃ f id m, y = V.ref f ∧ f = c.g.fA id ∧ (id, m) ∈ fs ∧ RX c (rVs c n) ms σ H1 fun vs H2 => spF c.g n m (vs ++ []) H2 Q (WE c.x σ) := by
    refine RX.bind (k := fun e f => orBad (fnOf fs f) (ms e)) q fun W e W1 H1 f v h1 t S r q2 => ?_
    cases z : fnOf fs f with
    | none =>
      rw [z] at q2
      exact q2.elim
    | some m =>
      rw [z] at q2
      unfold fnOf at z
      cases f with
      | fn id =>
        simp only [Rep] at r
        exact ⟨_, id, m, r, rfl, mem_of_lookupN z, call_use (m := m) ⟨W1, e, h1, S, q2⟩⟩
      | _ => cases z
  refine PyProof.Rows.Call_ (thn (hf.run pins s σ H _ I q1) fun u s1 ⟨y, H1, I1, ry, f, id, m, ey, ef, mem, q2⟩ => ?_) ht
  subst ey ef
  obtain rfl : u = Value.ref (c.g.fA id) := ry
  obtain ⟨x, F⟩ := L.at_ id m mem
  obtain ⟨gl, kp, fd, ps, b, fo⟩ := F.at hX
  refine PySem.W.callWith_K (h₀ := X.base) I1.ok.mod.kin kp (thn (ha.run pos pins s1 σ H1 _ I1 q2) fun us s2 ⟨vs, H2, I2, r, q3⟩ => ⟨I2.kIn, ?_⟩) he hpl
  exact run_fnSD fo hX.room b .nil (L2N.passAt hX.tk σ) I2 r q3
theorem c_callFN {x : Str} {p1 : Pos} (hX : XEx T X c N k sc) (L : FoL T k n fs) (hf : PE X (.Name x p1) (RE c mf)) (ha : PA X (ex :: es) (RA c n ms))
    (he : starEach (ex :: es) X.env = (false, eval ex X.env) :: starEach es X.env := by rfl) (hpl : (backTo pos (starEach es X.env)).any (·.1) = false := by rfl) :
    PE X (.Call (.Name x p1) (ex :: es) [] pos) (RE c (eCallF fs mf ms)) := by
  refine ⟨fun pins s σ H Q I q => ?_⟩
  have q1 : RX c (rV c) mf σ H fun y H1 => ∃ f id m, y = V.ref f ∧ f = c.g.fA id ∧ (id, m) ∈ fs ∧ RX c (rVs c n) ms σ H1 fun vs H2 => spF c.g n m (vs ++ []) H2 Q (WE c.x σ) := by
    refine RX.bind (k := fun e f => orBad (fnOf fs f) (ms e)) q fun W e W1 H1 f v h1 t S r q2 => ?_
    cases z : fnOf fs f with
    | none =>
      rw [z] at q2
      exact q2.elim
    | some m =>
      rw [z] at q2
      unfold fnOf at z
      cases f with
      | fn id =>
        simp only [Rep] at r
        exact ⟨_, id, m, r, rfl, mem_of_lookupN z, call_use (m := m) ⟨W1, e, h1, S, q2⟩⟩
      | _ => cases z
  refine wpAny_Call_Name_kw (thn (hf.run pins s σ H _ I q1) fun u s1 ⟨y, H1, I1, ry, f, id, m, ey, ef, mem, q2⟩ => ?_)
  subst ey ef
  obtain rfl : u = Value.ref (c.g.fA id) := ry
  obtain ⟨xf, F⟩ := L.at_ id m mem
  obtain ⟨gl, kp, fd, ps, b, fo⟩ := F.at hX
  refine PySem.W.callWith_K (h₀ := X.base) I1.ok.mod.kin kp (thn (ha.run pos pins s1 σ H1 _ I1 q2) fun us s2 ⟨vs, H2, I2, r, q3⟩ => ⟨I2.kIn, ?_⟩) he hpl
  exact run_fnSD fo hX.room b .nil (L2N.passAt hX.tk σ) I2 r q3
end
@[simp] theorem eCallF_app (fs : Fns) (mf : En → M DV) (ms : En → M (List DV)) (e : En) (h : HP) : eCallF fs mf ms e h = bR (mf e h) fun f h => orBad (fnOf fs f) (ms e) h := rfl
theorem orBad_some (m : List DV → M DV) (ms : M (List DV)) (h : HP) : orBad (some m) ms h = bR (ms h) fun l h => m l h := rfl
/-! ### texts -/
@[simp] theorem vEq_str (h : HP) (a b : Str) (ha : (PyData.str a).canLay0 = true) (hb : (PyData.str b).canLay0 = true) : vEq (.str a) (.str b) h = .ok (.bl (decide (a = b))) h := by
  have sh : ∀ a : Str, (PyData.str a).canLay0 = true → SeqAt.shaped (.str a) = true := fun a h => by
    unfold SeqAt.shaped
    rw [h]
    rfl
  have e : eqD (.str a) (.str b) = some (decide (a = b)) := by
    show (if (SeqAt.shaped (.str a) && SeqAt.shaped (.str b)) = true then some (PyData.eqv (.str a) (.str b)) else none) = _
    rw [sh a ha, sh b hb, if_pos (by rfl)]
    show some (a == b) = _
    congr 1
  unfold vEq
  rw [e]
  rfl
theorem k_cint {T : Tp} {X : Cx} {c : Cn} {N : List Str} {k : Nat} {sc : Scope} {x : Str} {pos : Pos} {i : Int} (h : XEx T X c N k sc) (hg : Gl X x) (hm : ∃ t, T.mg x = some (.int i t)) (hd : (x == ("__debug__" : Str)) = false := by decide) : PE X (.Name x pos) (RE c (eC (.int i))) := by
  obtain ⟨t, e⟩ := hm
  exact c_glob hg ⟨_, .int i, by rw [h.pm]; exact e, ⟨t, rfl⟩, fun W H => by simp only [Rep]⟩ hd
end LM

/-! A list of one's own is lent to a call that does not keep it. -/
namespace LM
open PySem L2

mutual
/-- names no list, dict or object -/
def flatR : DV → Bool
  | .non => true
  | .bl _ => true
  | .int _ => true
  | .str _ => true
  | .tup l => flatRs l
  | .scr _ => true
  | .fn _ => true
  | .ref _ => true
  | _ => false
def flatRs : List DV → Bool
  | [] => true
  | d :: ds => flatR d && flatRs ds
end
def flatO : HObj → Bool
  | .lst l => flatRs l
  | .obj _ l => flatRs l
mutual
theorem Rep.flat {g : Glue} {W W' : Wd} {H : Hp} (hr : W'.r = W.r) : ∀ (d : DV) (v : V), flatR d = true → Rep g W H d v → Rep g W' H d v
  | .non, v, _, r => by simpa only [Rep] using r
  | .bl b, v, _, r => by simpa only [Rep] using r
  | .int i, v, _, r => by simpa only [Rep] using r
  | .str s, v, _, r => by simpa only [Rep] using r
  | .tup l, v, q, r => by
    simp only [Rep] at r ⊢
    obtain ⟨a, vs, e, s, rs⟩ := r
    exact ⟨a, vs, e, s, Reps.flat hr l vs (by unfold flatR at q; exact q) rs⟩
  | .scr l, v, _, r => by simpa only [Rep] using r
  | .fn f, v, _, r => by simpa only [Rep] using r
  | .ref p, v, _, r => by
    simp only [Rep] at r ⊢
    rw [hr]
    exact r
  | .lst l, v, q, r => by
    unfold flatR at q
    cases q
  | .dct ks l, v, q, r => by
    unfold flatR at q
    cases q
  | .obj k l, v, q, r => by
    unfold flatR at q
    cases q
theorem Reps.flat {g : Glue} {W W' : Wd} {H : Hp} (hr : W'.r = W.r) : ∀ (l : List DV) (vs : List V), flatRs l = true → Reps g W H l vs → Reps g W' H l vs
  | [], vs, _, r => by simpa only [Reps] using r
  | d :: ds, vs, q, r => by
    simp only [Reps] at r ⊢
    obtain ⟨v, t, e, r1, r2⟩ := r
    unfold flatRs at q
    obtain ⟨q1, q2⟩ := Bool.and_eq_true_iff.mp q
    exact ⟨v, t, e, Rep.flat hr d v q1 r1, Reps.flat hr ds t q2 r2⟩
end
/-- the world in which these are frozen -/
def Wd.frzs (W : Wd) (A : List Addr) : Wd := ⟨fun b => W.F b ∨ b ∈ A, W.r⟩
def Wd.thaw (W' W : Wd) (A : List Addr) : Wd := ⟨fun b => W'.F b ∧ (W.F b ∨ b ∉ A), W'.r⟩
section
variable {g : Glue} {W W' : Wd} {h h' : HP} {H H' : Hp} {A : List Addr}
theorem frzs_per : Per W H (W.frzs A) H := ⟨fun _ f => .inl f, fun _ _ e => e, fun _ _ => rfl, fun _ _ e => e, fun _ _ _ e => e⟩
theorem HSim.frzs (S : HSim g W h H) (ha : ∀ a ∈ A, (∃ o, H a = some o) ∧ a ∉ W.r) : HSim g (W.frzs A) h H := by
  refine ⟨S.len, S.nd, fun p o a e1 e2 => ?_, fun a f => ?_⟩
  · obtain ⟨r, n⟩ := S.o p o a e1 e2
    refine ⟨?_, fun f => f.elim n fun m => (ha a m).2 (List.mem_of_getElem? e2)⟩
    cases o with
    | lst l =>
      obtain ⟨vs, e3, r3⟩ := r
      exact ⟨vs, e3, r3.per frzs_per _ _⟩
    | obj k l =>
      obtain ⟨dx, vs, e3, e4, r3⟩ := r
      exact ⟨dx, vs, e3, e4, r3.per frzs_per _ _⟩
  · rcases f with f | f
    · exact S.fs a f
    · exact (ha a f).1
theorem Step.thaw (t : Step (W.frzs A) H W' H') : Step W H (W'.thaw W A) H' :=
  ⟨fun a f => ⟨t.f a (.inl f), .inl f⟩, t.r, t.k, t.th, fun a f => by
    rcases t.nf a f.1 with q | q | q
    · rcases q with q | q
      · exact .inl q
      · rcases f.2 with f2 | f2
        · exact .inl f2
        · exact (f2 q).elim
    · exact .inr (.inl q)
    · exact .inr (.inr q), t.nr⟩
theorem HSim.thaw (S : HSim g W' h' H') (fl : h'.all flatO = true) : HSim g (W'.thaw W A) h' H' := by
  refine ⟨S.len, S.nd, fun p o a e1 e2 => ?_, fun a f => S.fs a f.1⟩
  obtain ⟨r, n⟩ := S.o p o a e1 e2
  refine ⟨?_, fun f => n f.1⟩
  have fo := List.all_eq_true.mp fl o (List.mem_of_getElem? e1)
  cases o with
  | lst l =>
    obtain ⟨vs, e3, r3⟩ := r
    exact ⟨vs, e3, Reps.flat (W := W') (W' := W'.thaw W A) rfl _ _ fo r3⟩
  | obj k l =>
    obtain ⟨dx, vs, e3, e4, r3⟩ := r
    exact ⟨dx, vs, e3, e4, Reps.flat (W := W') (W' := W'.thaw W A) rfl _ _ fo r3⟩
end
def RepsB (g : Glue) (W : Wd) (H : Hp) : List DV → List V → Prop
  | [], vs => vs = []
  | d :: ds, vs => ∃ v r, vs = v :: r ∧ RepB g W H d v ∧ RepsB g W H ds r
abbrev rVsB (c : Cn) (n : Nat) : Rl (List DV) (List V) := fun _ W H d v => RepsB c.g W H d v ∧ d.length = n
abbrev RAB (c : Cn) (n : Nat) (m : En → M (List DV)) : TA := RX c (rVsB c n) m
/-- the addresses that are lent -/
theorem RepsB.frz {g : Glue} {W : Wd} {H : Hp} : ∀ {ds : List DV} {vs : List V}, RepsB g W H ds vs → ∃ A : List Addr, (∀ a ∈ A, (∃ o, H a = some o) ∧ a ∉ W.r) ∧ ∀ B, (∀ a ∈ A, a ∈ B) → Reps g (W.frzs B) H ds vs
  | [], vs, r => by
    have e : vs = [] := r
    rw [e]
    exact ⟨[], (fun a (m : a ∈ []) => nomatch m), fun B _ => Reps.nil⟩
  | d :: ds, vs, r => by
    obtain ⟨v, t, e, r1, r2⟩ := r
    subst e
    obtain ⟨A, h1, h2⟩ := RepsB.frz r2
    rcases r1 with r1 | ⟨l, a, us, e1, e2, e3, r3, n⟩ | ⟨ks, l, a, us, e1, e2, e3, e4, r3, n⟩
    · exact ⟨A, h1, fun B hB => .cons (r1.per frzs_per _ _) (h2 B hB)⟩
    · subst e1 e2
      refine ⟨a :: A, fun b hb => ?_, fun B hB => .cons ?_ (h2 B fun b hb => hB b (List.mem_cons_of_mem _ hb))⟩
      · rcases List.mem_cons.mp hb with z | z
        · rw [z]
          exact ⟨⟨_, e3⟩, n⟩
        · exact h1 b z
      · simp only [Rep]
        exact ⟨a, us, rfl, .inr (hB a List.mem_cons_self), e3, r3.per frzs_per _ _⟩
    · subst e1 e2
      refine ⟨a :: A, fun b hb => ?_, fun B hB => .cons ?_ (h2 B fun b hb => hB b (List.mem_cons_of_mem _ hb))⟩
      · rcases List.mem_cons.mp hb with z | z
        · rw [z]
          exact ⟨⟨_, e3⟩, n⟩
        · exact h1 b z
      · simp only [Rep]
        exact ⟨a, us, rfl, .inr (hB a List.mem_cons_self), e3, e4, r3.per frzs_per _ _⟩
def flatM (m : M DV) : M DV := fun h => match m h with
  | .ok d h' => if flatR d && h'.all flatO then .ok d h' else .bad
  | .exc x h' => if flatRs x.l && h'.all flatO then .exc x h' else .bad
  | .bad => .bad
/-- f(e, ..), some of these lent -/
def eCallL (m : List DV → M DV) (ms : En → M (List DV)) : En → M DV := fun e => ms e >>= fun l => flatM (m l)
section
variable {T : Tp} {X : Cx} {c : Cn} {N : List Str} {k n : Nat} {sc : Scope} {pos p1 : Pos} {ex : Expr} {es : List Expr} {m1 : En → M DV} {ms : En → M (List DV)}
theorem stays_Bs {c : Cn} : Stays c (fun W H d v => RepsB c.g W H d v) := ⟨fun {W W' H H' h d v} S t r => by
  induction d generalizing v with
  | nil => exact r
  | cons x l ih =>
    obtain ⟨u, w, e, r1, r2⟩ := r
    exact ⟨u, w, e, stays_B.go S t r1, ih r2⟩⟩
theorem cb_nil : PA X [] (RAB c 0 aNil) := pa_imp pa_nil fun s H Q q => by
  obtain ⟨W, e, h, S, q⟩ := q
  exact q.ret S ⟨rfl, rfl⟩
theorem cb_cons (ha : PE X ex (RB c m1)) (hr : PA X es (RAB c n ms)) (hs : starEach (ex :: es) X.env = (false, eval ex X.env) :: starEach es X.env := by rfl) : PA X (ex :: es) (RAB c (n + 1) (aCons m1 ms)) :=
  pa_imp (pa_cons ha hr hs) fun s H Q q => RX.bind q fun W e W1 H1 x v h1 t S rx q2 => ⟨W1, e, h1, S, q2.bind fun W2 H2 xs vs h2 t2 S2 rs q3 => by
    have r1 := stays_B.go S.hs t2 rx
    exact q3.ret S2 ⟨⟨v, vs, rfl, r1, rs.1⟩, by rw [List.length_cons, rs.2]⟩⟩
theorem callL_use {m : List DV → M DV} {s : L2.St} {H : Hp} {Q : VK} (q : RE c (eCallL m ms) s H Q) : RX c (rVsB c n) ms s H fun vs H1 => spF c.g n m (vs ++ []) H1 Q (WE c.x s) := RX.bind (k := fun _ l => flatM (m l)) q fun W e W1 H1 ds vs h1 t S r q2 => by
  rw [List.append_nil]
  obtain ⟨A, hA, rA⟩ := r.1.frz
  refine ⟨W1.frzs A, h1, ds, S.hs.frzs hA, rA A fun _ h => h, r.2, ?_⟩
  unfold flatM at q2
  generalize m ds h1 = z at q2 ⊢
  cases z with
  | ok d h' =>
    intro W' H' v t' hs' r'
    by_cases fl : (flatR d && h'.all flatO) = true
    · have q3 : Post c (rV c H1) e s W1 H1 (if (flatR d && h'.all flatO) = true then .ok d h' else .bad) Q := q2
      rw [if_pos fl] at q3
      obtain ⟨f1, f2⟩ := Bool.and_eq_true_iff.mp fl
      exact q3 _ H' v t'.thaw (S.step t'.thaw (hs'.thaw f2)) (Rep.flat (W := W') (W' := W'.thaw W1 A) rfl d v f1 r')
    · have q3 : Post c (rV c H1) e s W1 H1 (if (flatR d && h'.all flatO) = true then .ok d h' else .bad) Q := q2
      rw [if_neg fl] at q3
      exact q3.elim
  | exc x h' =>
    intro W' H' cls dd t' hs' r'
    by_cases fl : (flatRs x.l && h'.all flatO) = true
    · have q3 : Post c (rV c H1) e s W1 H1 (if (flatRs x.l && h'.all flatO) = true then .exc x h' else .bad) Q := q2
      rw [if_pos fl] at q3
      obtain ⟨f1, f2⟩ := Bool.and_eq_true_iff.mp fl
      refine q3 _ H' cls dd t'.thaw (S.step t'.thaw (hs'.thaw f2)) ?_
      obtain ⟨ec, r2⟩ := r'
      refine ⟨ec, ?_⟩
      rcases r2 with r2 | ⟨d, us, e1, e2, e3, e4, e5⟩
      · exact .inl r2
      · exact .inr ⟨d, us, e1, e2, e3, Reps.flat (W := W') (W' := W'.thaw W1 A) rfl _ _ f1 e4, e5⟩
    · have q3 : Post c (rV c H1) e s W1 H1 (if (flatRs x.l && h'.all flatO) = true then .exc x h' else .bad) Q := q2
      rw [if_neg fl] at q3
      exact q3.elim
  | bad => exact q2
theorem c_callL {x : Str} {id j : Nat} {m : List DV → M DV} (hX : XEx T X c N k sc) (F : Fo T x id j n m) (hj : j ≤ k) (hg : Gl X x) (ha : PA X (ex :: es) (RAB c n ms))
    (hdb : (x == ("__debug__" : Str)) = false := by decide) (he : starEach (ex :: es) X.env = (false, eval ex X.env) :: starEach es X.env := by rfl) (hpl : (backTo pos (starEach es X.env)).any (·.1) = false := by rfl) :
    PE X (.Call (.Name x p1) (ex :: es) [] pos) (RE c (eCallL m ms)) := by
  obtain ⟨gl, kp, fd, ps, b, f⟩ := F.at hX
  exact pe_imp (pe_callSD f (hX.room.mono hj) hg gl kp b .nil (fun s => L2N.passAt hX.tk s) ha hdb he hpl) fun s H Q q => callL_use q
end
def flR (r : Res DV) : Res DV := match r with
  | .ok d h' => if flatR d && h'.all flatO then .ok d h' else .bad
  | .exc x h' => if flatRs x.l && h'.all flatO then .exc x h' else .bad
  | .bad => .bad
@[simp] theorem eCallL_app (m : List DV → M DV) (ms : En → M (List DV)) (e : En) (h : HP) : eCallL m ms e h = bR (ms e h) fun l h => flR (m l h) := rfl
theorem flR_ok {d : DV} {h : HP} (q : (flatR d && h.all flatO) = true) : flR (.ok d h) = .ok d h := by
  unfold flR
  simp only []
  rw [if_pos q]
theorem flR_exc {x : Ex} {h : HP} (q : (flatRs x.l && h.all flatO) = true) : flR (.exc x h) = .exc x h := by
  unfold flR
  simp only []
  rw [if_pos q]
end LM

/-! raise of own exceptions. -/
namespace LM
open PySem L2

/-- what __init__(self, x, y): self.f = x; self.g = y keeps -/
def spI2 (K : PySem.W.Frag) (f1 f2 : Str) : Sp := fun vs H Q E => ∃ (a C : Addr) (y1 y2 : V), vs = [.ref a, y1, y2] ∧ OexC K C ∧ PySem.W.findIn K (.ref C) f1 = some none ∧ PySem.W.findIn K (.ref C) f2 = some none ∧ H a = some (exo a C none) ∧
  ∀ dx, H dx = none → dx ≠ a → Q .non (upd (upd (upd H dx (exd dx [(f1, y1)])) a (exo a C (some dx))) dx (exd dx [(f2, y2), (f1, y1)]))
def spI1 (K : PySem.W.Frag) (f1 : Str) : Sp := fun vs H Q E => ∃ (a C : Addr) (y1 : V), vs = [.ref a, y1] ∧ OexC K C ∧ PySem.W.findIn K (.ref C) f1 = some none ∧ H a = some (exo a C none) ∧
  ∀ dx, H dx = none → dx ≠ a → Q .non (upd (upd H dx (exd dx [(f1, y1)])) a (exo a C (some dx)))
theorem init2_ok {P : Program} {w : World} {K : PySem.W.Frag} {mg : Str → Option Value} {base : Heap} {CX : CXT} {qual : Str} {params : Arguments} {scope : Scope} {kws : List (Str × V)} {f : Addr} {fd : FuncData} {x1 x2 f1 f2 : Str} {a1 a2 a3 a4 b1 b2 b3 b4 : Pos}
    (F : FunD K "__init__" qual params [.Assign [.Attribute (.Name "self" a1) f1 a2] (.Name x1 a3) a4, .Assign [.Attribute (.Name "self" b1) f2 b2] (.Name x2 b3) b4] scope [] kws f fd) (S : FnScope ["self", x1, x2] ["self", x1, x2] scope)
    (v0 : Vis scope "self") (v1 : Vis scope x1) (v2 : Vis scope x2) (d1 : (x1 == ("__debug__" : Str)) = false) (d2 : (x2 == ("__debug__" : Str)) = false) (c1 : (x1 == ("__classdict__" : Str)) = false) (c2 : (x2 == ("__classdict__" : Str)) = false) :
    FnOk P w K mg base CX 1 f fd ["self", x1, x2] (spI2 K f1 f2) := by
  refine F.ok S (fun vs H Q E h => ?_) (fun cdv A outer s H vs Q E hr h => ⟨_, PSs.nox (pss_cons (ps_ost (pe_var (i := 0) rfl v0) (pe_var (i := 1) rfl v1 d1 c1)) (pss_one (ps_ost (pe_var (i := 0) rfl v0) (pe_var (i := 2) rfl v2 d2 c2)))), ?_⟩)
  · obtain ⟨a, C, y1, y2, rfl, _⟩ := h
    rfl
  · obtain ⟨a, C, y1, y2, rfl, T, n1, n2, ha, q⟩ := h
    refine ⟨y1, rfl, .ref a, rfl, a, C, rfl, T, n1, .inl ⟨ha, fun dx hd hne => ?_⟩⟩
    refine ⟨y2, rfl, .ref a, rfl, a, C, rfl, T, n2, .inr ⟨dx, [(f1, y1)], upd_same, ?_, (by show 1 ≤ 900; decide), q dx hd hne⟩⟩
    rw [upd_ne hne]
    exact upd_same
theorem init1_ok {P : Program} {w : World} {K : PySem.W.Frag} {mg : Str → Option Value} {base : Heap} {CX : CXT} {qual : Str} {params : Arguments} {scope : Scope} {kws : List (Str × V)} {f : Addr} {fd : FuncData} {x1 f1 : Str} {a1 a2 a3 a4 : Pos}
    (F : FunD K "__init__" qual params [.Assign [.Attribute (.Name "self" a1) f1 a2] (.Name x1 a3) a4] scope [] kws f fd) (S : FnScope ["self", x1] ["self", x1] scope)
    (v0 : Vis scope "self") (v1 : Vis scope x1) (d1 : (x1 == ("__debug__" : Str)) = false) (c1 : (x1 == ("__classdict__" : Str)) = false) : FnOk P w K mg base CX 1 f fd ["self", x1] (spI1 K f1) := by
  refine F.ok S (fun vs H Q E h => ?_) (fun cdv A outer s H vs Q E hr h => ⟨_, PSs.nox (pss_one (ps_ost (pe_var (i := 0) rfl v0) (pe_var (i := 1) rfl v1 d1 c1))), ?_⟩)
  · obtain ⟨a, C, y1, rfl, _⟩ := h
    rfl
  · obtain ⟨a, C, y1, rfl, T, n1, ha, q⟩ := h
    exact ⟨y1, rfl, .ref a, rfl, a, C, rfl, T, n1, .inl ⟨ha, fun dx hd hne => q dx hd hne⟩⟩

/-- what is known of an own exception's class, number cid; two fields -/
structure Eo2 (T : Tp) (x : Str) (cid : Nat) (f1 f2 : Str) : Prop where
  gl : T.mg x = some (.ref (T.g.cA cid))
  fl : T.g.flds cid = [f2, f1]
  oc : OexC T.g.K (T.g.cA cid)
  n1 : PySem.W.findIn T.g.K (.ref (T.g.cA cid)) f1 = some none
  n2 : PySem.W.findIn T.g.K (.ref (T.g.cA cid)) f2 = some none
  ini : ∃ fI fd ps, PySem.W.findIn T.g.K (.ref (T.g.cA cid)) "__init__" = some (some (.ref fI)) ∧ PySem.W.typeIn T.g.K (.ref fI) = some (.type "function") ∧ Binds T.g.K fd ps [] ∧ FnOk T.P T.w T.g.K T.mg T.base (L2N.CX T.P T.w) 1 fI fd ps (spI2 T.g.K f1 f2)
structure Eo1 (T : Tp) (x : Str) (cid : Nat) (f1 : Str) : Prop where
  gl : T.mg x = some (.ref (T.g.cA cid))
  fl : T.g.flds cid = [f1]
  oc : OexC T.g.K (T.g.cA cid)
  n1 : PySem.W.findIn T.g.K (.ref (T.g.cA cid)) f1 = some none
  ini : ∃ fI fd ps, PySem.W.findIn T.g.K (.ref (T.g.cA cid)) "__init__" = some (some (.ref fI)) ∧ PySem.W.typeIn T.g.K (.ref fI) = some (.type "function") ∧ Binds T.g.K fd ps [] ∧ FnOk T.P T.w T.g.K T.mg T.base (L2N.CX T.P T.w) 1 fI fd ps (spI1 T.g.K f1)
def sRaise (cid : Nat) (ms : En → M (List DV)) : Stm := sBind ms fun l e h => .exc ⟨cid, l.reverse⟩ e h
theorem no_pass {P : Program} {w : World} {X : Cx} : Passes (L2N.CX P w) X (fun _ _ _ => False) := fun _ _ _ _ _ _ _ h => by
  obtain ⟨_, _, _, _, _, _, _, _, _, _, _, _, z⟩ := h
  exact z.elim
/-- C(e, ..) of an own class whose __init__ keeps sp; its context is None -/
theorem pmkN_oex {Y : Cx} {CY : CXT} {xn : Str} {ce : Expr} {ces : List Expr} {np cp : Pos} {ta : TA} {C fI : Addr} {kk : Nat} {fd : FuncData} {qs : List Str} {sp : Sp} {us0 : List Value} {vs0 : List V} (T : OexC Y.K C) (iC : PySem.W.findIn Y.K (.ref C) "__init__" = some (some (.ref fI))) (tI : PySem.W.typeIn Y.K (.ref fI) = some (.type "function"))
    (F1 : FnOk Y.prog Y.w Y.K Y.mg Y.base CY kk fI fd qs sp) (rm : Room (kk + 1) Y.A) (bd : Binds Y.K fd qs us0) (vd : Vals vs0 us0) (px : Passes CY Y (fun _ _ _ => False)) (gx : Gl Y xn) (mx : Y.mg xn = some (.ref C)) (pa : PA Y (ce :: ces) ta)
    (nb : (xn == ("__debug__" : Str)) = false := by decide) (se : starEach (ce :: ces) Y.env = (false, eval ce Y.env) :: starEach ces Y.env := by rfl) (ns : (backTo cp (starEach ces Y.env)).any (·.1) = false := by rfl) :
    L2N.PMk Y (.Call (.Name xn np) (ce :: ces) [] cp) (tMkO C sp vs0 ta) := by
  intro pins s σ H Q I0 w0
  obtain ⟨nm, q, N, bs, bm, sn, sub, ab, col, dd, k0, k1, k2, k3, k5, cC, rbm⟩ := T.cls
  refine wpAny_Call_Name_kw (ld_glob I0 gx mx ?_ nb)
  refine PySem.W.callWith_K (h₀ := Y.base) I0.ok.mod.kin T.kC (thn (pa.run cp pins s σ H _ I0 w0) fun us s1 ⟨vs, H1, I1, r1, lz, w1⟩ => ⟨I1.kIn, ?_⟩) se ns
  show wpAny _ _ (call (.ref C) us) _ _ _
  obtain ⟨hh, gg, dr, tk, os⟩ := s1
  have up1 : hh.objs.size ≤ hh.objs.size + 1 := Nat.le_succ _
  have fr1 : H1 (hh.objs.size + 1) = none := I1.hok.fresh up1
  have w2 := w1 (hh.objs.size + 1) fr1
  have old : ∀ b o, hh.get? b = some o → ((hh.push (PySem.W.kdv_tup us)).push (PySem.HandSPX.excO C hh.objs.size)).get? b = some o := fun b o z => Heap.get?_push_of_some _ (Heap.get?_push_of_some _ z)
  have mine : ((hh.push (PySem.W.kdv_tup us)).push (PySem.HandSPX.excO C hh.objs.size)).get? (hh.objs.size + 1) = some (PySem.HandSPX.excO C hh.objs.size) := by heap_get
  have I2 : Inv Y pins σ (upd H1 (hh.objs.size + 1) (exo (hh.objs.size + 1) C none)) ⟨(hh.push (PySem.W.kdv_tup us)).push (PySem.HandSPX.excO C hh.objs.size), gg, dr, tk, os⟩ :=
    I1.laid (t' := tk) (a := hh.objs.size + 1) (o := exo (hh.objs.size + 1) C none) (h' := (hh.push (PySem.W.kdv_tup us)).push (PySem.HandSPX.excO C hh.objs.size)) old up1 (exo_ok mine)
  have r2 : Vals (V.ref (hh.objs.size + 1) :: (vs ++ vs0)) (Value.ref (hh.objs.size + 1) :: (us ++ us0)) := .cons rfl (r1.append vd)
  have len : (Value.ref (hh.objs.size + 1) :: us ++ us0).length = qs.length := by
    have z := r2.length
    rw [F1.len _ _ _ _ w2] at z
    exact z.symm
  have few : us.length ≤ sizeLine := by
    rw [← Paired.length r1, sizeLine_eq]
    omega
  refine wpAny_call (PySem.HandSPX.call_own F.excBase_ValueError (fun Z => PySem.HandSPX.refsVE_contains Z bm rbm) (I1.kIn _ _ cC) (PySem.W.looks_findIn I1.kIn iC) (fun me => PySem.W.bind_fn I1.kIn me tI) few
    (codeAny_mono (F1.run _ Y.stack _ _ ⟨Value.ref (hh.objs.size + 1) :: us, []⟩ (Value.ref (hh.objs.size + 1) :: (us ++ us0)) _ _ (fun _ _ _ => False) (rm.make C us []) (I2.env0.make C us []) (bd _ (Value.ref (hh.objs.size + 1) :: us) I2.kIn len) r2 w2) fun r s' w3 => ?_))
  cases r with
  | error er => exact px pins σ _ _ er s' I2 w3
  | ok fl =>
    cases fl with
    | ret u =>
      obtain ⟨v, H2, o2, b2, un2, ok2, rv, ev, d, fs, ea, ed, hd1, w4⟩ := w3
      subst ev
      obtain ⟨h2, g2, d2, t2, os'⟩ := s'
      obtain ⟨t0, G, J, kG, ge, me, na⟩ := mk_end0 (d2 := d2) (t2 := t2) I1 up1 old un2 ok2 o2 b2 ea ed hd1
      exact ⟨rv, hh.objs.size + 1, _, _, ⟨G, g2, d2, t2, os'⟩, _, .ref C, some d, rfl, J, kG, ge, me, ⟨rfl, rfl, fun vs z => by
        cases z
        rfl⟩, rfl, rfl, na, rfl, b2, raises_own T.exC T.tyC, w4⟩
    | next => exact w3.elim
    | brk => exact w3.elim
    | cont => exact w3.elim
section
variable {T : Tp} {X : Cx} {c : Cn} {N : List Str} {k : Nat} {sc : Scope} {x : Str} {pos p p1 : Pos} {e1 e2 : Expr} {ms : En → M (List DV)} {cid : Nat} {f1 f2 : Str}
/-- the exception's dict stands -/
theorem raise_end {C : Addr} {W1 : Wd} {e : En} {h1 : HP} {s : L2.St} {H1 H2 : Hp} {D : Ends} {l : List DV} {vs : List V} {dx : Addr} (S1 : Sim c W1 e h1 s H1) (q : PostS c W1 H1 (.exc ⟨cid, l⟩ e h1) D) (hC : C = c.g.cA cid) (hd : H1 dx = none)
    (eH : H2 = upd H1 dx (.xd ((c.g.flds cid).zip vs))) (hl : vs.length = (c.g.flds cid).length) (r : Reps c.g W1 H1 l vs) : c.x (.ref C) (some dx) s H2 := by
  subst eH
  obtain ⟨t, S2⟩ := S1.new (o := .xd ((c.g.flds cid).zip vs)) hd
  have pr := t.per S1.hs
  refine q W1 s _ (.ref C) (some dx) pr S2 ⟨by rw [hC], .inr ⟨dx, vs, rfl, upd_same, hl, r.per pr _ _, not_r S1.hs hd⟩⟩
theorem s_raise2 (hX : XSt T X c N k sc) (o : Eo2 T x cid f1 f2) (hk : 2 ≤ k) (hg : Gl X x) (ha : PA X [e1, e2] (RA c 2 ms)) (hdb : (x == ("__debug__" : Str)) = false := by decide) (he : starEach [e1, e2] X.env = (false, eval e1 X.env) :: starEach [e2] X.env := by rfl)
    (hpl : (backTo p (starEach [e2] X.env)).any (·.1) = false := by rfl) : PS X (.Raise (some (.Call (.Name x p1) [e1, e2] [] p)) none pos) (RS c (sRaise cid ms)) := by
  have eg := hX.e.pg
  obtain ⟨fI, fd, ps, i1, i2, b, fo⟩ := o.ini
  have room : Room 2 X.A := hX.e.room.mono hk
  refine ps_imp (L2N.ps_raise hX.e.calm hX.e.tk (pmkN_oex (Y := X) (C := T.g.cA cid) (fI := fI) (kk := 1) (sp := spI2 T.g.K f1 f2) (by rw [hX.e.pk]; exact o.oc) (by rw [hX.e.pk]; exact i1) (by rw [hX.e.pk]; exact i2) (by rw [hX.e.pp, hX.e.pw, hX.e.pk, hX.e.pm, hX.e.pb]; exact fo) room (by rw [hX.e.pk]; exact b) .nil no_pass hg (by rw [hX.e.pm]; exact o.gl) ha hdb he hpl)) fun D s H q => ?_
  refine sb_use q fun W e W1 H1 l vs h1 t S r q1 => ?_
  obtain ⟨r, rl⟩ := r
  obtain ⟨d1, d2, el⟩ : ∃ d1 d2, l = [d1, d2] := by
    match l, rl with
    | [a, b], _ => exact ⟨a, b, rfl⟩
  subst el
  obtain ⟨y1, t1, ev, r1, r2⟩ := (show ∃ v r, vs = v :: r ∧ Rep c.g W1 H1 d1 v ∧ Reps c.g W1 H1 [d2] r by simpa only [Reps] using r)
  obtain ⟨y2, t2, ev2, r3, r4⟩ := (show ∃ v r, t1 = v :: r ∧ Rep c.g W1 H1 d2 v ∧ Reps c.g W1 H1 [] r by simpa only [Reps] using r2)
  have et : t2 = [] := by simpa only [Reps] using r4
  subst ev ev2 et
  refine ⟨by simp, fun a hna => ⟨a, T.g.cA cid, y1, y2, rfl, o.oc, o.n1, o.n2, upd_same, fun dx hd hne => ⟨rfl, dx, [(f2, y2), (f1, y1)], ?_, upd_same, ?_, ?_⟩⟩⟩
  · rw [upd_ne (Ne.symm hne)]
    exact upd_same
  · rw [upd_ne hne] at hd
    exact hd
  · rw [upd_ne hne] at hd
    have q2 : PostS c W1 H1 (.exc ⟨cid, [d2, d1]⟩ e h1) D := q1
    refine raise_end (l := [d2, d1]) (vs := [y2, y1]) (dx := dx) S q2 (by rw [eg]) hd ?_ (by rw [eg, o.fl]; rfl) (.cons r3 (.cons r1 .nil))
    rw [eg, o.fl]
    funext z
    by_cases z1 : z = dx
    · rw [z1, upd_same, upd_same]
      rfl
    · rw [upd_ne z1, upd_ne z1]
      by_cases z2 : z = a
      · rw [z2, del_same, hna]
      · rw [del_ne z2, upd_ne z1, upd_ne z2, upd_ne z1, upd_ne z2]
theorem s_raise1 (hX : XSt T X c N k sc) (o : Eo1 T x cid f1) (hk : 2 ≤ k) (hg : Gl X x) (ha : PA X [e1] (RA c 1 ms)) (hdb : (x == ("__debug__" : Str)) = false := by decide) (he : starEach [e1] X.env = (false, eval e1 X.env) :: starEach [] X.env := by rfl)
    (hpl : (backTo p (starEach [] X.env)).any (·.1) = false := by rfl) : PS X (.Raise (some (.Call (.Name x p1) [e1] [] p)) none pos) (RS c (sRaise cid ms)) := by
  have eg := hX.e.pg
  obtain ⟨fI, fd, ps, i1, i2, b, fo⟩ := o.ini
  have room : Room 2 X.A := hX.e.room.mono hk
  refine ps_imp (L2N.ps_raise hX.e.calm hX.e.tk (pmkN_oex (Y := X) (C := T.g.cA cid) (fI := fI) (kk := 1) (sp := spI1 T.g.K f1) (by rw [hX.e.pk]; exact o.oc) (by rw [hX.e.pk]; exact i1) (by rw [hX.e.pk]; exact i2) (by rw [hX.e.pp, hX.e.pw, hX.e.pk, hX.e.pm, hX.e.pb]; exact fo) room (by rw [hX.e.pk]; exact b) .nil no_pass hg (by rw [hX.e.pm]; exact o.gl) ha hdb he hpl)) fun D s H q => ?_
  refine sb_use q fun W e W1 H1 l vs h1 t S r q1 => ?_
  obtain ⟨r, rl⟩ := r
  obtain ⟨d1, el⟩ : ∃ d1, l = [d1] := by
    match l, rl with
    | [a], _ => exact ⟨a, rfl⟩
  subst el
  obtain ⟨y1, t1, ev, r1, r2⟩ := (show ∃ v r, vs = v :: r ∧ Rep c.g W1 H1 d1 v ∧ Reps c.g W1 H1 [] r by simpa only [Reps] using r)
  have et : t1 = [] := by simpa only [Reps] using r2
  subst ev et
  refine ⟨by simp, fun a hna => ⟨a, T.g.cA cid, y1, rfl, o.oc, o.n1, upd_same, fun dx hd hne => ⟨rfl, dx, [(f1, y1)], upd_same, ?_, ?_, ?_⟩⟩⟩
  · rw [upd_ne hne]
    exact upd_same
  · rw [upd_ne hne] at hd
    exact hd
  · rw [upd_ne hne] at hd
    have q2 : PostS c W1 H1 (.exc ⟨cid, [d1]⟩ e h1) D := q1
    refine raise_end (l := [d1]) (vs := [y1]) (dx := dx) S q2 (by rw [eg]) hd ?_ (by rw [eg, o.fl]; rfl) (.cons r1 .nil)
    rw [eg, o.fl]
    funext z
    by_cases z1 : z = dx
    · rw [z1, upd_same, upd_same]
      rfl
    · rw [upd_ne z1, upd_ne z1]
      by_cases z2 : z = a
      · rw [z2, del_same, hna]
      · rw [del_ne z2, upd_ne z2, upd_ne z1, upd_ne z2]
end
@[simp] theorem sRaise_app (cid : Nat) (ms : En → M (List DV)) (e : En) (h : HP) : sRaise cid ms e h = uR (ms e h) e fun l e h => .exc ⟨cid, l.reverse⟩ e h := rfl
end LM

/-! try .. except X as n: .. -/
namespace LM
open PySem L2 L2H

/-! ### slots without exceptions -/
def unX : Slot → Slot
  | .exn _ => .none
  | x => x
def noExn (e : En) : En := e.map unX
theorem unX_val {x : Slot} {d : DV} (h : unX x = .val d) : x = .val d := by
  cases x <;> first | exact h | cases h
theorem unX_own {x : Slot} {l : List DV} (h : unX x = .own l) : x = .own l := by
  cases x <;> first | exact h | cases h
theorem unX_dic {x : Slot} {ks : List Int} {l : List DV} (h : unX x = .dic ks l) : x = .dic ks l := by
  cases x <;> first | exact h | cases h
theorem unX_isOwn (x : Slot) : (unX x).isOwn = x.isOwn := by cases x <;> rfl
theorem noExn_at {e : En} {i : Nat} {y : Slot} (h : (noExn e)[i]? = some y) : ∃ x, e[i]? = some x ∧ unX x = y := by
  unfold noExn at h
  rw [List.getElem?_map] at h
  cases z : e[i]? with
  | none =>
    rw [z] at h
    cases h
  | some x =>
    rw [z] at h
    exact ⟨x, rfl, Option.some.inj h⟩
theorem Sim.noExn {c c' : Cn} {W : Wd} {e : En} {h : HP} {s : L2.St} {H : Hp} (S : Sim c W e h s H) (eg : c'.g = c.g) (e0 : c'.W0 = c.W0) (e1 : c'.H0 = c.H0) : Sim c' W (noExn e) h s H := by
  refine ⟨by rw [eg]; exact S.hs, by rw [e0, e1]; exact S.st, by unfold LM.noExn; rw [List.length_map]; exact S.len, fun i d q => ?_, fun i l q => ?_, fun i ks l q => ?_, fun i j a x y q1 o1 q2 o2 q3 q4 => ?_, fun i x q => ?_⟩
  · obtain ⟨x, q1, q2⟩ := noExn_at q
    rw [unX_val q2] at q1
    rw [eg]
    exact S.val i d q1
  · obtain ⟨x, q1, q2⟩ := noExn_at q
    rw [unX_own q2] at q1
    rw [eg, e1]
    exact S.own i l q1
  · obtain ⟨x, q1, q2⟩ := noExn_at q
    rw [unX_dic q2] at q1
    rw [eg, e1]
    exact S.dic i ks l q1
  · obtain ⟨x1, r1, r2⟩ := noExn_at q1
    obtain ⟨y1, r3, r4⟩ := noExn_at q2
    refine S.ne i j a x1 y1 r1 ?_ r3 ?_ q3 q4
    · rw [← unX_isOwn, r2]
      exact o1
    · rw [← unX_isOwn, r4]
      exact o2
  · obtain ⟨y, q1, q2⟩ := noExn_at q
    cases y <;> cases q2
/-! ### the statement -/
def tryR (r : SRes) (i : Nat) : SRes := match r with
  | .nx e h => .nx ((noExn e).set i .none) h
  | .rt d h => .rt d h
  | _ => .bad
def sTry (ck : Nat → Option Bool) (i : Nat) (body hd : Stm) : Stm := fun e h => match body e h with
  | .exc x e' h' => (match ck x.c with
    | some true => tryR (hd ((noExn e').set i (.exn x)) h') i
    | some false => .exc x e' h'
    | none => .bad)
  | r => r
/-- where an except suite stands -/
structure XHo (T : Tp) (X : Cx) (c : Cn) (N : List Str) (k : Nat) (sc : Scope) : Prop where
  pp : X.prog = T.P
  pw : X.w = T.w
  pk : X.K = T.g.K
  pm : X.mg = T.mg
  pb : X.base = T.base
  pg : c.g = T.g
  nm : X.N = N
  nd : N.Nodup
  sc : X.env.scope = sc
  room : RoomH k X.A
  cx : c.x = fun _ _ _ _ => False
  cur : ∃ (X0 : Cx) (a : Addr) (oe : Obj) (cls : Value) (dd : Option Addr) (pn : List (Addr × Obj)), X = X0.suite a ((a, oe) :: pn) ∧ c.cur = some (a, cls, dd) ∧ L2N.Zn cls dd oe ∧ ∃ vs, oe.data = .fields vs
section
variable {T : Tp} {X : Cx} {c : Cn} {N : List Str} {k : Nat} {sc : Scope} {x : Str}
theorem XHo.kk (h : XHo T X c N k sc) : X.K = c.g.K := by rw [h.pk, h.pg]
theorem XHo.gl (h : XHo T X c N k sc) (v : sc.names.lookup x = some .globalImplicit) : Gl X x := by
  show X.env.scope.names.lookup x = _
  rw [h.sc]
  exact v
theorem XHo.no (h : XHo T X c N k sc) (q : T.mg x = none) : X.mg x = none := by
  rw [h.pm]
  exact q
theorem XHo.hot (h : XHo T X c N k sc) : HotC X := by
  obtain ⟨X0, a, oe, cls, dd, pn, e, _, z, vs, f⟩ := h.cur
  subst e
  exact ⟨(a, oe), ⟨rfl, vs, f, z.2.2 vs f⟩, List.mem_cons_self⟩
end
/-- the classes that a clause takes -/
structure CkOk (T : Tp) (cv : Value) (ck : Nat → Option Bool) : Prop where
  ok : ∀ (i : Nat) (b : Bool), ck i = some b → PySem.W.exmOne T.g.K (.ref (T.g.cA i)) cv = some b
section
variable {T : Tp} {X : Cx} {c : Cn} {N : List Str} {k : Nat} {sc : Scope} {x n : Str} {cv : Value} {ck : Nat → Option Bool} {i : Nat} {body suite : List Stmt} {b0 : Stmt} {np pos pos' : Pos} {mb mh : Stm}
theorem s_try (hX : XSt T X c N k sc) (hi : N[i]? = some n) (hln : sc.names.lookup n = some .local) (hg : Gl X x) (hm : T.mg x = some cv) (kc : CkOk T cv ck) (hb : ∀ (X' : Cx) (c' : Cn), XSt T X' c' N k sc → PSs X' body (RS c' mb)) (hh : ∀ (X' : Cx) (c' : Cn), XHo T X' c' N k sc → PSs X' (b0 :: suite) (RS c' mh))
    (hdb : (x == ("__debug__" : Str)) = false := by decide) : PS X (.Try body [.ExceptHandler (some (.Name x np)) (some n) (b0 :: suite) pos'] [] [] pos) (RS c (sTry ck i mb mh)) := by
  have eN : X.N[i]? = some n := hX.e.at hi
  let c' : Addr → Value → Option Addr → Cn := fun a cls dd => { c with x := fun _ _ _ _ => False, cur := some (a, cls, dd) }
  refine ps_imp (L2N.ps_try_as (tb := fun W => RS (c.wx W) mb) (ts := fun a cls d => RS (c' a cls d) mh) (Wout := c.x) hX.st hX.fr hX.e.ndX eN (by
    show X.env.scope.names.lookup n = _
    rw [hX.e.sc]
    exact hln) ⟨hg, hdb, .inl (by rw [hX.e.pm]; exact hm)⟩ hX.e.tk (fun W pn xe tk pa => hb _ _ ⟨⟨hX.e.pp, hX.e.pw, hX.e.pk, hX.e.pm, hX.e.pb, hX.e.pg, hX.e.nm, hX.e.nd, hX.e.sc, hX.e.calm, hX.e.room, tk⟩, pa, hX.fn, hX.st, hX.fr⟩)
    fun a oe cls d pn hz hf => hh _ _ ⟨hX.e.pp, hX.e.pw, hX.e.pk, hX.e.pm, hX.e.pb, hX.e.pg, hX.e.nm, hX.e.nd, hX.e.sc, roomH_mark hX.e.room _, rfl, X, a, oe, cls, d, pn, rfl, rfl, hz, hf⟩) fun D s H q => ?_
  obtain ⟨W, e, h, S, q⟩ := q
  refine ⟨W, e, h, S.wx, ?_⟩
  unfold sTry at q
  cases z : mb e h with
  | nx e' h' =>
    rw [z] at q
    exact fun W' s' H' p S' => q W' s' H' p S'.ofWx
  | bk e' h' =>
    rw [z] at q
    exact fun W' s' H' p S' => q W' s' H' p S'.ofWx
  | ct e' h' =>
    rw [z] at q
    exact fun W' s' H' p S' => q W' s' H' p S'.ofWx
  | rt d h' =>
    rw [z] at q
    exact q
  | bad =>
    rw [z] at q
    exact q.elim
  | exc y e' h' =>
    rw [z] at q
    simp only [] at q
    intro W' s' H' cls dd p S' r
    have S1 := S'.ofWx
    obtain ⟨ec, rr⟩ := r
    have ec : cls = .ref (c.g.cA y.c) := ec
    cases zc : ck y.c with
    | none =>
      rw [zc] at q
      exact q.elim
    | some b =>
      rw [zc] at q
      refine ⟨b, ?_, fun hb2 a na => ?_, fun hb2 => ?_⟩
      · rw [ec, hX.e.pk, hX.e.pg]
        exact kc.ok _ _ zc
      · subst hb2
        have q1 : PostS c W H (tryR (mh ((noExn e').set i (.exn y)) h') i) D := q
        -- the exception's dict is frozen
        obtain ⟨W2, p2, hs2, t2, rF⟩ : ∃ W2, Per W' H' W2 H' ∧ HSim c.g W2 h' H' ∧ Step W' H' W2 H' ∧ XRepF c.g W2 H' y cls dd := by
          rcases rr with ⟨r1, r2⟩ | ⟨d, vs, r1, r2, r3, r4, r5⟩
          · exact ⟨W', Per.refl _ _, S1.hs, Step.refl _ _, ec, .inl ⟨r1, r2⟩⟩
          · have t : Step W' H' (W'.frz d) H' := ⟨fun _ f => .inl f, fun _ _ z => z, fun _ _ z _ => z, fun _ z => z, fun b f => f.elim .inl fun z => .inr (.inr (by
              rw [z]
              exact ⟨r5, _, r2⟩)), fun _ m => .inl m⟩
            have pr := t.per S1.hs
            exact ⟨W'.frz d, pr, S1.hs.frz r2 r5, t, ec, .inr ⟨d, vs, r1, .inr rfl, r2, r3, r4.per pr _ _⟩⟩
        have S2 := S1.step t2 hs2
        have S3 : Sim (c' a cls dd) W2 ((noExn e').set i (.exn y)) h' (s'.set i (some (.ref a))) H' := (S2.noExn (c' := c' a cls dd) rfl rfl rfl).put rfl (fun z ez => by
          cases ez
          exact ⟨a, cls, dd, rfl, rfl, rF⟩) fun d z => by cases z
        refine ⟨W2, _, h', S3, ?_⟩
        have q2 := q1.later (p.trans p2)
        cases zr : mh ((noExn e').set i (.exn y)) h' with
        | nx e3 h3 =>
          rw [zr] at q2
          have q3 : PostS c W2 H' (.nx ((noExn e3).set i .none) h3) D := q2
          exact fun W3 s3 H3 p3 S4 => q3 W3 _ H3 p3 ((S4.noExn (c' := c) rfl rfl rfl).gone)
        | rt d h3 =>
          rw [zr] at q2
          exact q2
        | bk e3 h3 =>
          rw [zr] at q2
          exact q2.elim
        | ct e3 h3 =>
          rw [zr] at q2
          exact q2.elim
        | exc x3 e3 h3 =>
          rw [zr] at q2
          exact q2.elim
        | bad =>
          rw [zr] at q2
          exact q2.elim
      · subst hb2
        exact q W' s' H' cls dd p S1 ⟨ec, rr⟩
end
end LM

/-! What an except suite says. -/
namespace LM
open PySem L2 L2H

/-- the caught exception in slot i: its field -/
def exFld (o : Option Slot) (cid j : Nat) : Option DV := match o with
  | some (.exn x) => if x.c = cid then x.l[j]? else none
  | _ => none
def ofO (o : Option DV) : M DV := match o with
  | some d => pure d
  | none => M.bad
def eXf (i cid j : Nat) : En → M DV := fun e => ofO (exFld e[i]? cid j)
def exIs (o : Option Slot) (tab : List (Nat × Bool)) : Option DV := match o with
  | some (.exn x) => (match tab.lookup x.c with
    | some b => some (.bl b)
    | none => none)
  | _ => none
def eXis (i : Nat) (tab : List (Nat × Bool)) : En → M DV := fun e => ofO (exIs e[i]? tab)
/-- a class whose instances' field f is asked -/
structure Xf (T : Tp) (cid : Nat) (f : Str) (j : Nat) : Prop where
  xf : XfC T.g.K (T.g.cA cid)
  no : PySem.W.findIn T.g.K (.ref (T.g.cA cid)) f = some none
  lk : ∀ vs : List V, vs.length = (T.g.flds cid).length → ∃ v, vs[j]? = some v ∧ ((T.g.flds cid).zip vs).lookup f = some v
/-- a class as isinstance asks it -/
structure Xi (T : Tp) (cid : Nat) (cv : Value) (b : Bool) : Prop where
  cl : (PySem.W.clsIn T.g.K (T.g.cA cid)).isSome = true
  ga : PySem.W.findIn T.g.K (.ref (T.g.cA cid)) "__getattribute__" = some (some (.builtin "BaseException.__getattribute__"))
  gt : ∃ gt, PySem.W.findIn T.g.K (.ref (T.g.cA cid)) "__getattr__" = some gt
  su : PySem.W.subIn T.g.K (.ref (T.g.cA cid)) (.type "BaseException") = some true
  ha : PySem.W.findIn T.g.K (.ref (T.g.cA cid)) "__class__" = some (some (.builtin "object.__class__"))
  hn : PySem.W.specialIn T.g.K (.builtin "object.__class__") "__get__" = some (some (.builtin "getset_descriptor.__get__"))
  tk : PySem.W.takesIn T.g.K (.builtin "object.__class__") = some true
  mr : PySem.W.mroIn T.g.K (T.g.cA cid) (.type "object") = some true
  is : PySem.W.kitOne T.g.K (.ref (T.g.cA cid)) cv = some b
def XiL (T : Tp) (tab : List (Nat × Bool)) (cv : Value) : Prop := ∀ i b, (i, b) ∈ tab → Xi T i cv b
section
variable {T : Tp} {X : Cx} {c : Cn} {N : List Str} {k : Nat} {sc : Scope} {n f x : Str} {i j cid : Nat} {pos p1 p2 p3 : Pos}
theorem suite_cur {S : L2.St} {W : Wd} {e : En} {h : HP} {H : Hp} {y : Ex} {a : Addr} {cls : Value} {dd : Option Addr} (Sm : Sim c W e h S H) (hc : c.cur = some (a, cls, dd)) (z : e[i]? = some (.exn y)) : S[i]? = some (some (.ref a)) ∧ XRepF c.g W H y cls dd := by
  obtain ⟨a2, c2, d2, e1, e2, r⟩ := Sm.exn i y z
  rw [hc] at e1
  cases e1
  exact ⟨e2, r⟩
theorem k_xf (hX : XHo T X c N k sc) (i : Nat) (hi : N[i]? = some n) (hv : Vis sc n) (xf : Xf T cid f j) (hd : (n == ("__debug__" : Str)) = false := by decide) (hcd : (n == ("__classdict__" : Str)) = false := by decide)
    (hb : attributeBase (.Name n p1) f X.env (eval (.Name n p1) X.env) = eval (.Name n p1) X.env := by rfl) : PE X (.Attribute (.Name n p1) f pos) (RE c (eXf i cid j)) := by
  obtain ⟨X0, a, oe, cls, dd, pn, eX, hc, hz, hf⟩ := hX.cur
  have pg := hX.pg
  have pv : PE X (.Name n p1) (tVar i) := pe_var (by rw [hX.nm]; exact hi) (by rw [hX.sc]; exact hv) hd hcd
  have pk := hX.pk
  subst eX
  refine pe_imp (pe_xf (X := X0) (a := a) (C := T.g.cA cid) (oe := oe) (cls := cls) (d := dd) (pn := pn) (by
    have z : X0.K = T.g.K := pk
    rw [z]
    exact xf.xf) (by
    have z : X0.K = T.g.K := pk
    rw [z]
    exact xf.no) hz.zc hf pv hb) fun s H Q q => ?_
  obtain ⟨W, e, h, S, q⟩ := q
  unfold eXf exFld at q
  cases z : e[i]? with
  | none =>
    rw [z] at q
    exact q.elim
  | some sl =>
    rw [z] at q
    cases sl with
    | exn y =>
      simp only [] at q
      by_cases ec : y.c = cid
      rotate_left
      · rw [if_neg ec] at q
        exact q.elim
      rw [if_pos ec] at q
      obtain ⟨e1, rf⟩ := suite_cur S hc z
      obtain ⟨ecl, rf⟩ := rf
      cases zl : y.l[j]? with
      | none =>
        rw [zl] at q
        exact q.elim
      | some d =>
        rw [zl] at q
        rcases rf with ⟨r1, _⟩ | ⟨dx, vs, r1, r2, r3, r4, r5⟩
        · rw [r1] at zl
          cases zl
        · rw [ec, pg] at r3 r4
          obtain ⟨v, l1, l2⟩ := xf.lk vs r4
          obtain ⟨v2, l3, rv⟩ := r5.get zl
          rw [l1] at l3
          cases l3
          exact ⟨_, e1, rfl, by rw [ecl, ec, pg], dx, _, v, r1, r3, l2, q.ret S rv⟩
    | _ => exact q.elim
/-- isinstance of what the suite holds -/
theorem call_isX {Y : Cx} {a D : Addr} {oe : Obj} {d : Option Addr} {pn : List (Addr × Obj)} {gt : Option Value} (cl : (PySem.W.clsIn Y.K D).isSome = true) (ga : PySem.W.findIn Y.K (.ref D) "__getattribute__" = some (some (.builtin "BaseException.__getattribute__"))) (gg : PySem.W.findIn Y.K (.ref D) "__getattr__" = some gt)
    (su : PySem.W.subIn Y.K (.ref D) (.type "BaseException") = some true) (ha : PySem.W.findIn Y.K (.ref D) "__class__" = some (some (.builtin "object.__class__"))) (hn : PySem.W.specialIn Y.K (.builtin "object.__class__") "__get__" = some (some (.builtin "getset_descriptor.__get__"))) (tk : PySem.W.takesIn Y.K (.builtin "object.__class__") = some true)
    (mr : PySem.W.mroIn Y.K D (.type "object") = some true) (hz : L2N.Zn (.ref D) d oe) (hf : ∃ vs, oe.data = .fields vs) :
    CallR (Y.suite a ((a, oe) :: pn)) (.builtin "isinstance") (fun xs H Q => ∃ (c : V) (cv : Value) (b : Bool), xs = [.ref a, c] ∧ (∀ u, RelV c u → u = cv) ∧ PySem.W.kitOne Y.K (.ref D) cv = some b ∧ (d = none ∨ ∃ dd fs, d = some dd ∧ H dd = some (.xd fs)) ∧ Q (.bl b) H) := by
  intro pins s σ H xs us Q I r h
  obtain ⟨cc, cv, b, ex, hcv, e, hd, q⟩ := h
  subst ex
  obtain ⟨u1, u2, eu, r1, r2⟩ := vals2 r
  subst eu
  obtain rfl : u1 = Value.ref a := r1
  have ec := hcv _ r2
  subst ec
  obtain ⟨hget, _⟩ := I.pin (a, oe) (List.mem_append_left _ List.mem_cons_self)
  obtain ⟨vs, hv⟩ := hf
  have key : ∃ od, PySem.W.InstAt s.heap a oe D od := by
    rcases hd with hd | ⟨dd, fs, hd, hx⟩
    · refine ⟨none, hget, hz.1, ?_, ?_⟩
      · unfold PySem.W.notCls
        rw [hv]
      · rw [hz.2.1, hd]
        trivial
    · have hx2 : ObjOk Y.prog Y.w H s.heap dd (.xd fs) := I.hok dd _ hx
      obtain ⟨mA, hns, hr⟩ := hx2
      obtain ⟨od, ho, hl⟩ := lookIn_ns hns
      refine ⟨some od, hget, hz.1, ?_, ?_⟩
      · unfold PySem.W.notCls
        rw [hv]
      · rw [hz.2.1, hd]
        exact ho
  obtain ⟨od, J⟩ := key
  exact PySem.W.kia_one (PySem.W.kitx_exc (od := od) cl ga gg su ha hn tk mr) I.kIn J e (fun z => nomatch z) fun tk => ⟨.bl b, H, I.kept (t' := tk) fun _ _ z => z, rfl, q⟩
theorem k_xis {C : Str} {cv : Value} {cc : V} {tab : List (Nat × Bool)} (hX : XHo T X c N k sc) (i : Nat) (hi : N[i]? = some n) (hv : Vis sc n) (gi : Gl X "isinstance") (mi : X.mg "isinstance" = none) (hc : PE X (.Name C p3) (tC cc)) (rc : ∀ u, RelV cc u → u = cv) (L : XiL T tab cv)
    (hd : (n == ("__debug__" : Str)) = false := by decide) (hcd : (n == ("__classdict__" : Str)) = false := by decide)
    (s1 : starEach [.Name n p2, .Name C p3] X.env = (false, eval (.Name n p2) X.env) :: starEach [.Name C p3] X.env := by rfl) (s2 : starEach [.Name C p3] X.env = (false, eval (.Name C p3) X.env) :: starEach [] X.env := by rfl)
    (hpl : (backTo pos (starEach [.Name C p3] X.env)).any (·.1) = false := by rfl) : PE X (.Call (.Name "isinstance" p1) [.Name n p2, .Name C p3] [] pos) (RE c (eXis i tab)) := by
  obtain ⟨X0, a, oe, cls, dd, pn, eX, hcu, hz, hf⟩ := hX.cur
  have pg := hX.pg
  have pv : PE X (.Name n p2) (tVar i) := pe_var (by rw [hX.nm]; exact hi) (by rw [hX.sc]; exact hv) hd hcd
  have pk := hX.pk
  refine ⟨fun pins s σ H Q I q => ?_⟩
  obtain ⟨W, e, h, S, q⟩ := q
  unfold eXis exIs at q
  cases z : e[i]? with
  | none =>
    rw [z] at q
    exact q.elim
  | some sl =>
    rw [z] at q
    cases sl with
    | exn y =>
      simp only [] at q
      cases zt : tab.lookup y.c with
      | none =>
        rw [zt] at q
        exact q.elim
      | some b =>
        rw [zt] at q
        obtain ⟨e1, rf⟩ := suite_cur S hcu z
        obtain ⟨ecl, rf⟩ := rf
        have xi := L y.c b (mem_of_lookupN zt)
        obtain ⟨gt, hgt⟩ := xi.gt
        rw [ecl, pg] at hz
        subst eX
        have zk : X0.K = T.g.K := pk
        refine (pe_callB (call_isX (Y := X0) (a := a) (D := T.g.cA y.c) (oe := oe) (d := dd) (pn := pn) (gt := gt) (by rw [zk]; exact xi.cl) (by rw [zk]; exact xi.ga) (by rw [zk]; exact hgt) (by rw [zk]; exact xi.su) (by rw [zk]; exact xi.ha) (by rw [zk]; exact xi.hn) (by rw [zk]; exact xi.tk) (by rw [zk]; exact xi.mr) hz hf) gi mi (by first | exact PyProof.Rows.boot_isinstance | decide +kernel) (pa_cons pv (pa_cons hc pa_nil s2) s1)).run pins s σ H Q I ?_
        refine ⟨_, e1, cc, cv, b, rfl, rc, by rw [zk]; exact xi.is, ?_, q.ret S (by simp only [rV, Rep])⟩
        rcases rf with ⟨_, r2⟩ | ⟨dx, vs, r1, r2, r3, _⟩
        · exact .inl r2
        · exact .inr ⟨dx, _, r1, r3⟩
    | _ => exact q.elim
end
@[simp] theorem ofO_some (d : DV) (h : HP) : ofO (some d) h = .ok d h := rfl
@[simp] theorem eXf_app (i cid j : Nat) (e : En) (h : HP) : eXf i cid j e h = ofO (exFld e[i]? cid j) h := rfl
@[simp] theorem eXis_app (i : Nat) (tab : List (Nat × Bool)) (e : En) (h : HP) : eXis i tab e h = ofO (exIs e[i]? tab) h := rfl
end LM

/-! Defs called within an except suite. -/
namespace LM
open PySem L2 L2H

/-- where the body of such a def stands -/
structure XHb (T : Tp) (X : Cx) (c : Cn) (N : List Str) (k : Nat) (sc : Scope) : Prop where
  pk : X.K = T.g.K
  pm : X.mg = T.mg
  pg : c.g = T.g
  nm : X.N = N
  nd : N.Nodup
  sc : X.env.scope = sc
section
variable {T : Tp} {X : Cx} {c : Cn} {N : List Str} {k : Nat} {sc : Scope} {x : Str}
theorem XHb.kk (h : XHb T X c N k sc) : X.K = c.g.K := by rw [h.pk, h.pg]
theorem XHb.gl (h : XHb T X c N k sc) (v : sc.names.lookup x = some .globalImplicit) : Gl X x := by
  show X.env.scope.names.lookup x = _
  rw [h.sc]
  exact v
theorem XHb.no (h : XHb T X c N k sc) (q : T.mg x = none) : X.mg x = none := by
  rw [h.pm]
  exact q
theorem kh_var {pos : Pos} (h : XHb T X c N k sc) (i : Nat) (hi : N[i]? = some x) (hv : Vis sc x) (hd : (x == ("__debug__" : Str)) = false := by decide) (hcd : (x == ("__classdict__" : Str)) = false := by decide) : PE X (.Name x pos) (RE c (eVar i)) := c_var (by rw [h.nm]; exact hi) (by rw [h.sc]; exact hv) hd hcd
end
/-- a def's promise by its mirror, no exception among it -/
def spN (g : Glue) (n : Nat) (m : List DV → M DV) : Sp := fun vs H Q E => ∃ W h ds, HSim g W h H ∧ Reps g W H ds vs ∧ ds.length = n ∧ match m ds h with
  | .ok d h' => ∀ W' H' v, Step W H W' H' → HSim g W' h' H' → Rep g W' H' d v → Q v H'
  | _ => False
structure FoH (T : Tp) (x : Str) (id k n : Nat) (m : List DV → M DV) : Prop where
  gl : T.mg x = some (.ref (T.g.fA id))
  kp : PySem.W.keepIn T.g.K (.ref (T.g.fA id)) = true
  ex : ∃ fd ps, Binds T.g.K fd ps [] ∧ FnH T.P T.w T.g.K T.mg T.base (L2N.CX T.P T.w) k (T.g.fA id) fd ps (spN T.g n m)
theorem fn_ruleH {T : Tp} {x qual : Str} {params : Arguments} {body : List Stmt} {scope : Scope} {kws : List (Str × V)} {f : Addr} {fd : FuncData} {N ps : List Str} {k : Nat} {m : Stm} (F : FunD T.g.K x qual params body scope [] kws f fd) (S : FnScope N ps scope)
    (hb : ∀ (X : Cx) (c : Cn), XHb T X c N k scope → PSs X body (RS c m)) : FnH T.P T.w T.g.K T.mg T.base (L2N.CX T.P T.w) (k + 1) f fd ps (spN T.g ps.length (fnM N.length m)) := by
  obtain ⟨oc, od, dV, kV, doc, pm, an, cdv, ct, osl, rfl, lk, hcd, _, _⟩ := F.ex
  refine fn_ofH lk hcd S (fun vs H Q E h => ?_) fun A outer s H vs Q E p hot hr h => ?_
  · obtain ⟨W, hh, ds, _, r, e, _⟩ := h
    rw [← e, r.len]
  · obtain ⟨W, hh, ds, hs, r, e, q⟩ := h
    refine ⟨RS ⟨T.g, W, H, fun _ _ _ _ => False, none⟩ m, hb _ ⟨T.g, W, H, fun _ _ _ _ => False, none⟩ ⟨rfl, rfl, rfl, rfl, S.nd, rfl⟩, W, _, hh, sim_start hs r, ?_⟩
    unfold fnM at q
    generalize m (ds.map .val ++ List.replicate (N.length - ds.length) .none) hh = z at q ⊢
    cases z with
    | nx e' h' => exact fun W' s' H' _ S' => q W' H' .non S'.st S'.hs (by simp only [Rep])
    | rt d h' => exact q
    | bk e' h' => exact q.elim
    | ct e' h' => exact q.elim
    | exc x e' h' => exact q.elim
    | bad => exact q.elim
def eCallH (m : List DV → M DV) (ms : En → M (List DV)) : En → M DV := fun e => ms e >>= fun l => noX (m l)
section
variable {T : Tp} {X : Cx} {c : Cn} {N : List Str} {k n : Nat} {sc : Scope} {pos p1 : Pos} {ex : Expr} {es : List Expr} {ms : En → M (List DV)}
theorem callH_use {m : List DV → M DV} {s : L2.St} {H : Hp} {Q : VK} {E : XK} (q : RE c (eCallH m ms) s H Q) : RX c (rVs c n) ms s H fun vs H1 => spN c.g n m vs H1 Q E := RX.bind (k := fun _ l => noX (m l)) q fun W e W1 H1 ds vs h1 t S r q2 => by
  refine ⟨W1, h1, ds, S.hs, r.1, r.2, ?_⟩
  unfold noX at q2
  generalize m ds h1 = z at q2 ⊢
  cases z with
  | ok d h' => exact fun W' H' v t' hs' r' => q2 W' H' v t' (S.step t' hs') r'
  | exc x h' => exact q2.elim
  | bad => exact q2.elim
theorem c_callH {x : Str} {id j : Nat} {m : List DV → M DV} (hX : XHo T X c N k sc) (F : FoH T x id j n m) (hj : j ≤ k) (hg : Gl X x) (ha : PA X (ex :: es) (RA c n ms))
    (hdb : (x == ("__debug__" : Str)) = false := by decide) (he : starEach (ex :: es) X.env = (false, eval ex X.env) :: starEach es X.env := by rfl) (hpl : (backTo pos (starEach es X.env)).any (·.1) = false := by rfl) :
    PE X (.Call (.Name x p1) (ex :: es) [] pos) (RE c (eCallH m ms)) := by
  obtain ⟨fd, ps, b, f⟩ := F.ex
  have pg := hX.pg
  have f2 : FnH X.prog X.w X.K X.mg X.base (L2N.CX X.prog X.w) j (T.g.fA id) fd ps (spN c.g n m) := by
    rw [hX.pp, hX.pw, hX.pk, hX.pm, hX.pb, pg]
    exact f
  refine pe_imp (pe_callH (E := fun _ => fun _ _ _ => False) f2 (hX.room.mono hj) hX.hot hg (by rw [hX.pm]; exact F.gl) (by rw [hX.pk]; exact F.kp) (by rw [hX.pk]; exact b) (fun σ pins H s e s' I z => by
    obtain ⟨_, _, _, _, _, _, _, _, _, _, _, _, y⟩ := z
    exact y.elim) ha hdb he hpl) fun s H Q q => callH_use q
end
@[simp] theorem eCallH_app (m : List DV → M DV) (ms : En → M (List DV)) (e : En) (h : HP) : eCallH m ms e h = bR (ms e h) fun l h => noX (m l) h := rfl
theorem noX_ok {A : Type} {m : M A} {h h' : HP} {a : A} (q : m h = .ok a h') : noX m h = .ok a h' := by
  unfold noX
  rw [q]
/-! ### looks at classes -/
theorem oexB_ok {K : PySem.W.Frag} {C : Addr} (h : oexB K C = true) : OexC K C := by
  obtain ⟨h1, h2⟩ := He.ba h
  obtain ⟨h3, h4⟩ := He.ba h2
  obtain ⟨h5, h6⟩ := He.ba h4
  obtain ⟨h7, h8⟩ := He.ba h6
  refine ⟨?_, of_decide_eq_true h3, of_decide_eq_true h5, of_decide_eq_true h7, h8⟩
  cases q : K.lookup C with
  | none =>
    rw [q] at h1
    cases h1
  | some o =>
    obtain ⟨oc, od, dt, sl⟩ := o
    rw [q] at h1
    cases oc with
    | type t =>
      cases dt with
      | cls cd =>
        obtain ⟨a1, a2⟩ := He.ba (show (decide (t = "type") && (match cd.mro, sl.toList with
          | .ref C' :: bm, [_, _, _, _, some (.builtin n), _] => decide (C' = C) && (decide (n = "ValueError.__new__") && (!cd.hasDel && (cd.hasDict && PySem.HandSPX.refsVE bm)))
          | _, _ => false)) = true from h1)
        have et : t = "type" := of_decide_eq_true a1
        split at a2
        · rename_i C' bm k0 k1 k2 k3 n k5 hm hs
          obtain ⟨b1, b2⟩ := He.ba a2
          obtain ⟨b3, b4⟩ := He.ba b2
          obtain ⟨b5, b6⟩ := He.ba b4
          obtain ⟨b7, b8⟩ := He.ba b6
          have e1 : C' = C := of_decide_eq_true b1
          have e2 : n = "ValueError.__new__" := of_decide_eq_true b3
          obtain ⟨nm, bs, mro, ns, qn, hd, sn, sub, ab, col, del⟩ := cd
          simp only [Bool.not_eq_true'] at hm b5 b7
          have hsl : sl = #[k0, k1, k2, k3, some (.builtin n), k5] := by
            obtain ⟨l⟩ := sl
            have : l = _ := hs
            rw [this]
          subst et e1 e2 hm b5 b7 hsl
          exact ⟨nm, qn, ns, bs, bm, sn, sub, ab, col, od, k0, k1, k2, k3, k5, rfl, b8⟩
        · cases a2
      | _ => cases h1
    | _ => cases dt <;> cases h1
end LM

/-! What a law never comes to. -/
namespace LM
open PySem L2
def eBad : En → M DV := fun _ _ => .bad
/-- an expression that is never evaluated -/
theorem c_bad {X : Cx} {c : Cn} {e : Expr} : PE X e (RE c eBad) := ⟨fun _ _ _ _ _ _ q => by
  obtain ⟨_, _, _, _, q⟩ := q
  exact q.elim⟩
end LM

/-! Looks at the top of a law with own exceptions. -/
namespace LM
open PySem L2 L2H

theorem ckAll_at {l : CkL} {K : PySem.W.Frag} (h : ckAll l K = true) (i : Nat) {b : PySem.W.Frag → Bool} (e : l[i]? = some b) : b K = true := List.all_eq_true.mp h b (List.mem_of_getElem? e)
/-- such an exception's class at C; its fields -/
theorem eo2_of {T : Tp} {x : Str} {cid : Nat} {f1 f2 : Str} (hm : T.mg x = some (.ref (T.g.cA cid))) (fl : T.g.flds cid = [f2, f1]) (b : eoB [f1, f2] (T.g.cA cid) T.g.K = true)
    (hf : ∃ fd ps, Binds T.g.K fd ps [] ∧ FnOk T.P T.w T.g.K T.mg T.base (L2N.CX T.P T.w) 1 (He.ma T.g.K (T.g.cA cid) "__init__") fd ps (spI2 T.g.K f1 f2)) : Eo2 T x cid f1 f2 := by
  obtain ⟨b1, b2⟩ := He.ba b
  obtain ⟨b3, b4⟩ := He.ba b2
  obtain ⟨b5, b6⟩ := He.ba b4
  obtain ⟨fd, ps, h1, h2⟩ := hf
  exact ⟨hm, fl, oexB_ok b1, of_decide_eq_true (List.all_eq_true.mp b6 f1 (by simp)), of_decide_eq_true (List.all_eq_true.mp b6 f2 (by simp)), _, fd, ps, of_decide_eq_true b3, of_decide_eq_true b5, h1, h2⟩
theorem eo1_of {T : Tp} {x : Str} {cid : Nat} {f1 : Str} (hm : T.mg x = some (.ref (T.g.cA cid))) (fl : T.g.flds cid = [f1]) (b : eoB [f1] (T.g.cA cid) T.g.K = true)
    (hf : ∃ fd ps, Binds T.g.K fd ps [] ∧ FnOk T.P T.w T.g.K T.mg T.base (L2N.CX T.P T.w) 1 (He.ma T.g.K (T.g.cA cid) "__init__") fd ps (spI1 T.g.K f1)) : Eo1 T x cid f1 := by
  obtain ⟨b1, b2⟩ := He.ba b
  obtain ⟨b3, b4⟩ := He.ba b2
  obtain ⟨b5, b6⟩ := He.ba b4
  obtain ⟨fd, ps, h1, h2⟩ := hf
  exact ⟨hm, fl, oexB_ok b1, of_decide_eq_true (List.all_eq_true.mp b6 f1 (by simp)), _, fd, ps, of_decide_eq_true b3, of_decide_eq_true b5, h1, h2⟩
theorem xf_of {T : Tp} {cid j : Nat} {f : Str} (b : xfKB f (T.g.cA cid) T.g.K = true) (lk : ∀ vs : List V, vs.length = (T.g.flds cid).length → ∃ v, vs[j]? = some v ∧ ((T.g.flds cid).zip vs).lookup f = some v) : Xf T cid f j :=
  ⟨xfB_ok (He.ba b).1, of_decide_eq_true (He.ba b).2, lk⟩
theorem xi_of {T : Tp} {cid : Nat} {cv : Value} {r : Bool} (b : xiB (T.g.cA cid) cv r T.g.K = true) : Xi T cid cv r := by
  obtain ⟨a, b⟩ := He.ba b
  obtain ⟨a1, a⟩ := He.ba a
  obtain ⟨a2, a⟩ := He.ba a
  obtain ⟨a3, a4⟩ := He.ba a
  obtain ⟨b1, b2⟩ := He.ba b
  obtain ⟨b3, b4⟩ := He.ba b1
  obtain ⟨b5, b6⟩ := He.ba b4
  obtain ⟨b7, b8⟩ := He.ba b2
  exact ⟨a1, of_decide_eq_true a2, ⟨none, of_decide_eq_true a3⟩, of_decide_eq_true a4, of_decide_eq_true b3, of_decide_eq_true b5, of_decide_eq_true b6, of_decide_eq_true b7, of_decide_eq_true b8⟩
theorem xiL_nil {T : Tp} {cv : Value} : XiL T [] cv := fun _ _ h => by cases h
theorem xiL_cons {T : Tp} {cid : Nat} {r : Bool} {tab : List (Nat × Bool)} {cv : Value} (x : Xi T cid cv r) (L : XiL T tab cv) : XiL T ((cid, r) :: tab) cv := fun i b h => by
  rcases List.mem_cons.mp h with e | e
  · cases e
    exact x
  · exact L i b e
/-- a clause's classes -/
theorem ck_of {T : Tp} {cA : PySem.W.Frag → Nat → Addr} {cv : Nat} {tab : List (Nat × Bool)} (b : ckB cA cv tab T.g.K = true) (hc : ∀ i, T.g.cA i = cA T.g.K i) : CkOk T (.ref (T.g.cA cv)) fun i => tab.lookup i := ⟨fun i r h => by
  have m := mem_of_lookupN h
  rw [hc i, hc cv]
  exact of_decide_eq_true (List.all_eq_true.mp b (i, r) m)⟩
end LM

/-! A tuple, any number of times. -/
namespace LM
open PySem L2 PySem.Spec PyProof.Rows
/-- not at all -/
theorem mulT_none (l : Addr) (its : Array Value) (n : Nat) (dd : Option Addr) (sl : Array (Option Value)) (x : Int) (u : Tok) (c0 : (decide (x < -(2 ^ 63)) || decide (x ≥ 2 ^ 63)) = false) (c1 : (its.isEmpty || x == 1) = false) (c2 : (decide (x ≤ 0) || its.isEmpty) = true) :
    Meets (Builtin.«tuple.__mul__» ⟨[.ref l, .int x u], []⟩) (fun _ R s => s.heap.get? l = some { cls := .type "tuple", dict := dd, data := .seq its n, slots := sl } ∧
      R (.ok (.ret (Value.ref s.heap.objs.size))) { s with heap := s.heap.push { cls := Value.type "tuple", data := Data.seq #[] }, toks := s.toks }) :=
  .of_wp fun P v A R s q => by
    obtain ⟨hp, gg, dr, tk, os⟩ := s
    obtain ⟨hl, q⟩ := q
    have f1 := AutoSeq1.idx_int
    wp_walk using wpAny_loadPart' hl
    repeat (first
      | (refine wpAny_ite_false (decide_eq_false (by rw [c0]; exact Bool.false_ne_true)) ?_; wp_walk using wpAny_loadPart' hl)
      | (refine wpAny_ite_false (decide_eq_false (by rw [c1]; exact Bool.false_ne_true)) ?_; wp_walk using wpAny_loadPart' hl)
      | (refine wpAny_ite_true (decide_eq_true (by rw [c2])) ?_; wp_walk using wpAny_loadPart' hl))
    exact ⟨_, rfl, q⟩
/-- once -/
theorem mulT_once (l : Addr) (its : Array Value) (n : Nat) (dd : Option Addr) (sl : Array (Option Value)) (x : Int) (u : Tok) (c0 : (decide (x < -(2 ^ 63)) || decide (x ≥ 2 ^ 63)) = false) (c1 : (its.isEmpty || x == 1) = true) :
    Meets (Builtin.«tuple.__mul__» ⟨[.ref l, .int x u], []⟩) (fun _ R s => s.heap.get? l = some { cls := .type "tuple", dict := dd, data := .seq its n, slots := sl } ∧ R (.ok (.ret (Value.ref l))) s) :=
  .of_wp fun P v A R s q => by
    obtain ⟨hp, gg, dr, tk, os⟩ := s
    obtain ⟨hl, q⟩ := q
    have f1 := AutoSeq1.idx_int
    wp_walk using wpAny_loadPart' hl
    repeat (first
      | (refine wpAny_ite_false (decide_eq_false (by rw [c0]; exact Bool.false_ne_true)) ?_; wp_walk using wpAny_loadPart' hl)
      | (refine wpAny_ite_true (decide_eq_true (by rw [c1])) ?_; wp_walk using wpAny_loadPart' hl))
    exact ⟨_, rfl, q⟩
def rMulT (K : PySem.W.Frag) : R2 := fun x y H Q => ∃ l k xs, x = .ref l ∧ y = .int k ∧ SqT K H l xs ∧ xs ≠ [] ∧ -1000 ≤ k ∧ k ≤ 1000 ∧ xs.length ≤ 1000 ∧ (k = 1 → Q (.ref l) H) ∧ (k ≠ 1 → ∀ p, H p = none → Q (.ref p) (upd H p (.tup (List.replicate k.toNat xs).flatten)))
theorem op_mulT {X : Cx} : OpR X (binaryOp .Mult) (rMulT X.K) := by
  intro pins s σ H x y v u Q I rx ry h
  obtain ⟨l, k, xs, ex, ey, hT, hne, h1, h2, hz, q1, q2⟩ := h
  by_cases big : 2 ≤ k
  · exact op_repT pins s σ H x y v u Q I rx ry ⟨l, k, xs, ex, ey, hT, hne, big, h2, hz, q2 (by omega)⟩
  subst ex ey
  cases rx
  obtain ⟨t, rfl⟩ := ry
  obtain ⟨its, r, ⟨⟨cls, dd, data, sl⟩, ho, hc, n, hd⟩, hs⟩ := I.tuple hT
  simp only at hc hd
  subst hc hd
  have hn : its ≠ [] := fun e => hne (by
    have := r.length
    rw [e] at this
    exact List.eq_nil_of_length_eq_zero this)
  have hi : its.toArray.isEmpty = false := by
    cases its with
    | nil => exact absurd rfl hn
    | cons a b => rfl
  have c0 : (decide (k < -(2 ^ 63)) || decide (k ≥ 2 ^ 63)) = false := by
    rw [decide_eq_false (by omega), decide_eq_false (by omega)] <;> rfl
  by_cases one : k = 1
  · have c1 : (its.toArray.isEmpty || k == 1) = true := by
      rw [hi, Bool.false_or]
      exact beq_iff_eq.mpr one
    refine wpAny_binaryOp_repeat_ref (T := "tuple") (U := "int") (by decide) ⟨_, ho, rfl⟩ (fun s' => typeIs_int s' k t) noFill_tuple_mul F.fills_int_mul F.slot_int_rmul repeat_tuple F.slot_int_index.lookup
      (call_meets F.slot_int_rmul (typeIs_int s k t) F.entry_int_rmul (F.args_int_rmul_2 _ _) (int_rmul_tuple k t l its.toArray n dd sl)
        ⟨ho, rfl, ⟨_, ho, rfl⟩, call_meets F.slot_tuple_mul ⟨_, ho, rfl⟩ F.entry_tuple_mul (F.args_tuple_mul_2 _ _) (mulT_once l its.toArray n dd sl k t c0 c1) ⟨ho, ?_⟩⟩)
    exact ⟨.ref l, H, I, rfl, q1 one⟩
  · have c1 : (its.toArray.isEmpty || k == 1) = false := by
      rw [hi, Bool.false_or]
      exact beq_eq_false_iff_ne.mpr one
    have c2 : (decide (k ≤ 0) || its.toArray.isEmpty) = true := by
      rw [decide_eq_true (by omega)]
      rfl
    have e0 : (List.replicate k.toNat xs).flatten = [] := by
      rw [show k.toNat = 0 by omega]
      rfl
    have q3 := q2 one
    rw [e0] at q3
    refine wpAny_binaryOp_repeat_ref (T := "tuple") (U := "int") (by decide) ⟨_, ho, rfl⟩ (fun s' => typeIs_int s' k t) noFill_tuple_mul F.fills_int_mul F.slot_int_rmul repeat_tuple F.slot_int_index.lookup
      (call_meets F.slot_int_rmul (typeIs_int s k t) F.entry_int_rmul (F.args_int_rmul_2 _ _) (int_rmul_tuple k t l its.toArray n dd sl)
        ⟨ho, rfl, ⟨_, ho, rfl⟩, call_meets F.slot_tuple_mul ⟨_, ho, rfl⟩ F.entry_tuple_mul (F.args_tuple_mul_2 _ _) (mulT_none l its.toArray n dd sl k t c0 c1 c2) ⟨ho, ?_⟩⟩)
    refine ⟨.ref s.heap.objs.size, _, I.laid (t' := s.toks) (o := .tup []) (fun b ob z => Heap.get?_push_of_some _ z) (Nat.le_refl _) ?_, rfl, q3 _ (I.hok.fresh (Nat.le_refl _))⟩
    exact ⟨by rw [sizeLine_eq]; decide, [], .nil, IsTup.new _ _⟩
/-- a tuple, so many times -/
def vMulT (x y : DV) : M DV := match x, y with
  | .tup l, .int k => if Nat.ble 1 l.length && (Nat.ble l.length 1000 && (decide (-1000 ≤ k) && decide (k ≤ 1000))) then pure (.tup (List.replicate k.toNat l).flatten) else M.bad
  | _, _ => M.bad
section
variable {X : Cx} {c : Cn} {pos : Pos} {a b : Expr} {ma mb : En → M DV}
theorem prim_mulT {K : PySem.W.Frag} (hk : c.g.K = K) : Prim2 c (pB c) (pV c) (rV c) vMulT (rMulT K) := by
  subst hk
  refine ⟨fun {W e h s H Hs x y v w Q} S rx ry nw q => ?_⟩
  unfold vMulT at q
  split at q
  · obtain ⟨a, vs, e1, s1, r1⟩ := tup_ok rx
    simp only [pV, Rep] at ry
    split at q
    · rename_i l k hz
      simp only [Bool.and_eq_true, Nat.ble_eq, decide_eq_true_eq] at hz
      obtain ⟨z1, z2, z3, z4⟩ := hz
      refine ⟨a, k, vs, e1, ry, s1, fun z => ?_, z3, z4, by rw [← r1.len]; exact z2, fun one => ?_, fun _ p hp => post_tup q S (r1.rep _) hp⟩
      · subst z
        have := r1.len
        rw [List.length_nil] at this
        omega
      · subst one e1
        refine q.ret S ?_
        simp only [rV, Rep]
        exact ⟨a, vs, rfl, s1, by simpa using r1⟩
    · exact q.elim
  · exact q.elim
theorem c_mulT (hk : X.K = c.g.K) (ha : PE X a (RB c ma)) (hb : PE X b (RE c mb)) : PE X (.BinOp a .Mult b pos) (RE c (e2 vMulT ma mb)) := c_bin op_mulT stays_B (prim_mulT hk.symm) ha hb
end
@[simp] theorem vMulT_one (d : DV) (k : Nat) (h : HP) (hk : (k : Int) ≤ 1000) : vMulT (.tup [d]) (.int (k : Int)) h = .ok (.tup (List.replicate k d)) h := by
  have e : ∀ n : Nat, (List.replicate n [d]).flatten = List.replicate n d := by
    intro n
    induction n with
    | zero => rfl
    | succ k ih => simp [List.replicate_succ, ih]
  show (if (Nat.ble 1 [d].length && (Nat.ble [d].length 1000 && (decide (-1000 ≤ (k : Int)) && decide ((k : Int) ≤ 1000)))) = true then (pure (.tup (List.replicate (k : Int).toNat [d]).flatten) : M DV) else M.bad) h = _
  rw [if_pos (by simp; omega), Int.toNat_natCast, e]
  rfl
end LM

/-! A for in an except suite. -/
namespace LM
open PySem L2 L2H
section
open HotX PyProof.Rows PySem.Spec
variable {prog : Program} {w : World} {A : Around} {E : Value → Shared → Prop} {s : Shared}
theorem pyNext_list_end_hot {it l x1 : Addr} {i : Nat} {items : Array Value} {Q : Option Value → Shared → Prop} (hot : HotAt A x1 s.heap) (nx : x1 ≠ it)
    (hit : s.heap.IsListIter it l i) (hl : s.heap.IsList l items) (hx : items[i]? = none)
    (hQ : ∀ h', Heap.ExtBut it s.heap h' → Q none { s with heap := h' }) : wpAny (model prog w) A (pyNext (.ref it)) Q E s := by
  obtain ⟨o, ho, hc, hd⟩ := id hit
  obtain ⟨ol, hol, _, nl, hdl⟩ := hl
  obtain ⟨hh, o1, vs1, h1, d1, c1⟩ := hot
  unfold pyNext
  refine wpAny_bind (wpAny_attempt (wpAny_callSpecial?_slot (name := Str.ofString "__next__") hit.typeIs slot_listiter_next
    (wpAny_call_entry slot_listiter_next hit.typeIs entry_listiter_next ?_ (args_listiter_next _))))
  show wpAny _ _ (field (.ref it) 0 >>= _) _ _ s
  refine wpAny_bind (wpAny_field ho hd (x := .ref l) rfl ?_)
  show wpAny _ _ (if (Value.ref l == Value.none) = true then _ else _) _ _ s
  rw [if_neg (show ¬ ((Value.ref l == Value.none) = true) from Bool.false_ne_true)]
  show wpAny _ _ (field (.ref it) 1 >>= _) _ _ s
  refine wpAny_bind (wpAny_field ho hd (x := .int i 0) rfl ?_)
  show wpAny _ _ (seqItems? (.ref l) >>= _) _ _ s
  refine wpAny_bind (wpAny_seqItems hol hdl ?_)
  simp only [Int.toNat_natCast, hx]
  refine wpAny_bind (wpAny_rule (wpAny_bind (wpAny_setField ho hd (by simp) ?_)))
  have h2 : ∀ f : Obj → Obj, (s.heap.update it f).get? x1 = some o1 := fun f => by
    rw [Heap.get?_update_other _ _ (Ne.symm nx)]
    exact h1
  show wpAny _ _ (newExc (.type "StopIteration") [] >>= _) _ _ _
  refine wpAny_bind ?_
  simp only [newExc, newTuple]
  refine wpAny_bind (wpAny_newObj_type ?_ (by size_fits))
  refine wpAny_bind (m := firstArgMember _ _) (wpAny_of_eq (a := Value.none) (by first | rfl | (simp only [firstArgMember]; rfl)) ?_)
  refine wpAny_newObj_type ?_ (by size_fits)
  refine raiseNew_hot ⟨hh, o1, vs1, Heap.get?_push_of_some _ (Heap.get?_push_of_some _ (h2 _)), d1, c1⟩ (Nat.ne_of_lt (Heap.lt_size (Heap.get?_push_of_some _ (h2 _)))) (Heap.get?_push_size _ rfl) rfl (by first | (simp; done) | (simp; omega) | (simp only [Array.size_append]; simp; omega)) ?_
  refine wpAny_bind (wpAny_isInstance (T := "StopIteration") (b := true) ⟨_, Heap.get?_update_self _ (Heap.get?_push_size _ rfl) rfl, rfl⟩ isSubtype_stop ?_)
  refine wpAny_pure (hQ _ fun b o hb e => ?_)
  have e1 : (s.heap.update it (Obj.mapFields fun x => x.setIfInBounds 0 Value.none)).get? b = some o := (Heap.get?_update_other _ _ (Ne.symm hb)).trans e
  rw [Heap.get?_update_other _ _ (Nat.ne_of_gt (Heap.lt_size (Heap.get?_push_of_some _ e1)))]
  exact Heap.get?_push_of_some _ (Heap.get?_push_of_some _ e1)
end
theorem turn_listH {P : Program} {w : World} {K : PySem.W.Frag} {tg : Expr} (a it : Addr) : TurnH P w K tg (Itl K a) [it] it (fun i h => h.IsListIter it a i) where
  mem := by simp
  obj := (turn_list (P := P) (w := w) (K := K) (tg := tg) a it).obj
  keep := (turn_list (P := P) (w := w) (K := K) (tg := tg) a it).keep
  item := by
    intro X hP hw hK hc i pins s σ H E I hf st hg
    subst hP hw hK
    obtain ⟨xs, x, hq, hx⟩ := hg
    obtain ⟨its, rv, p, hz⟩ := I.list hq
    obtain ⟨u, hu, ru⟩ := rv.get hx
    obtain ⟨f0, f1, f2, f3, f4, f5⟩ := hf it (by simp)
    refine wpAny_pyNext_list_item st p.isList (x := u) (by simpa using hu) fun h' st' sb => ?_
    have I1 : Inv X pins σ H { s with heap := h' } := I.turned (t' := s.toks) (fun b o hb e => (sb.2 b hb).trans e) f0 f1 f3 f4 f5
    obtain ⟨o, e, c, d⟩ := id st'
    exact ⟨u, rfl, go_of (s := { s with heap := h' }) e c d (by decide) ⟨x, H, I1, ru, ⟨rfl, fun ys hy => by rw [I.list_inj hy hq]; exact hx⟩, st', fun b hb => (hf b hb).1⟩⟩
  done := by
    intro X hP hw hK hc i pins s σ H E I hf st hg
    subst hP hw hK
    obtain ⟨xs, hq, hx⟩ := hg
    obtain ⟨its, rv, p, hz⟩ := I.list hq
    obtain ⟨f0, f1, f2, f3, f4, f5⟩ := hf it (by simp)
    have hl := rv.length
    obtain ⟨x1, hot⟩ := hc.at I
    obtain ⟨oi, ei, ci, di⟩ := id st
    have nx : x1 ≠ it := fun z => by
      obtain ⟨_, o1, vs1, h1, d1, c1⟩ := hot
      rw [z, ei] at h1
      cases h1
      rw [di] at d1
      cases d1
      simp at c1
    exact pyNext_list_end_hot hot nx st p.isList (by simp; omega) fun h' eb => ⟨rfl, I.turned (t' := s.toks) (fun b o hb e => eb b o hb e) f0 f1 f3 f4 f5⟩
  self := fun _ _ _ _ _ st h => wpAny_pyIter_listiter st h
section
variable {X : Cx} {tg : Expr}
theorem pi_listH {l : Expr} {tl : TE} (hl : PE X l tl) : PIH X tg l (iList X.K tl) := by
  refine ⟨fun pins s σ H R I h => ?_⟩
  refine thn (hl.run pins s σ H _ I h) fun v s1 ⟨x, H1, I1, r1, q1⟩ => ?_
  obtain ⟨a, e, ⟨xs, hq⟩, q⟩ := q1
  subst e
  cases r1
  obtain ⟨its, rv, p, hz⟩ := I1.list hq
  refine wpAny_pyIter_list p.isList ?_
  refine ⟨s1.heap.objs.size, [s1.heap.objs.size], _, _, H1, rfl, I1.kept (t' := s1.toks) fun b o e => Heap.get?_push_of_some _ e, turn_listH a _, ⟨_, Heap.get?_push_size _ rfl, rfl, rfl⟩, fun b hb => ?_, q⟩
  have e : b = s1.heap.objs.size := by simpa using hb
  subst e
  exact I1.fpOk (Nat.le_refl _) (I1.hok.fresh (Nat.le_refl _))
end
/-- a list -/
def itL (x : DV) : M (List DV) := match x with
  | .lst l => pure l
  | _ => M.bad
section
variable {X : Cx} {c : Cn} {tg : Expr} {a : Expr} {ma : En → M DV}
theorem pih_imp {ex : Expr} {t t' : TI} (h : PIH X tg ex t) (f : ∀ s H Q, t' s H Q → t s H Q) : PIH X tg ex t' := ⟨fun pins s σ H R I q => h.run pins s σ H R I (f σ H R q)⟩
theorem i_lstH (hk : X.K = c.g.K) (ha : PE X a (RE c ma)) : PIH X tg a (RI c (iB ma itL)) := pih_imp (pi_listH ha) fun s H R q => by
  obtain ⟨W, e, h, S, q⟩ := q
  refine ⟨W, e, h, S, bind_at q fun W1 H1 d v h1 z t S1 r q2 => ?_⟩
  cases d with
  | lst l =>
    simp only [rV, Rep] at r
    obtain ⟨p, vs, e1, f, sq, rs⟩ := r
    refine ⟨p, e1, ⟨vs, .of sq⟩, ?_⟩
    rw [hk]
    exact q2.ret S1 (wk_list (.inl ⟨f, sq⟩) rs)
  | _ => exact q2.elim
theorem for_use {mi : En → M (List DV)} {t : DV → En → Option En} {sl fg : List Nat} {b : Stm} {D : Ends} {s : L2.St} {H : Hp} (q : RS c (sFor mi t fg b) D s H) : tFor (RI c mi) (RG c t sl) (RS c b) D s H := by
  obtain ⟨W, e, h, S0, q⟩ := q
  refine ⟨W, e, h, S0, sb_at (R := fun _ W H ds J => Wk c W H J ds) S0 q fun W1 H1 ds J h1 t1 S1 wk q2 => ?_⟩
  refine ⟨fun i m s' Hc => m = ds.length - i ∧ i ≤ ds.length ∧ ∃ Wc ec hc, Per W1 H1 Wc Hc ∧ Sim c Wc ec hc s' Hc ∧ PostS c Wc Hc (forL t b fg (ds.drop i) ec hc) D,
    ⟨ds.length, rfl, Nat.zero_le _, W1, _, h1, Per.refl _ _, S1.wipe' fg, by rw [List.drop_zero]; exact q2⟩, ?_⟩
  rintro i m s' Hc ⟨em, hi, Wc, ec, hc, pc, Sc, q3⟩
  by_cases hlt : i < ds.length
  rotate_left
  · have ei : i = ds.length := by omega
    subst ei
    rw [List.drop_length] at q3
    exact .inl ⟨wk.st Wc Hc pc, q3.nx Sc⟩
  · right
    obtain ⟨d, ed⟩ : ∃ d, ds[i]? = some d := ⟨_, List.getElem?_eq_getElem hlt⟩
    obtain ⟨g1, g2⟩ := wk.go Wc Hc pc i d ed
    have ed2 : ds.drop i = d :: ds.drop (i + 1) := by
      rw [List.drop_eq_getElem_cons hlt]
      congr 1
      rw [List.getElem?_eq_getElem hlt] at ed
      exact Option.some.inj ed
    rw [ed2] at q3
    refine ⟨g1, fun s2 H2 => ∃ Wc ec hc, Per W1 H1 Wc H2 ∧ Sim c Wc ec hc s2 H2 ∧ PostS c Wc H2 (forL t b fg (ds.drop (i + 1)) ec hc) D, fun s2 H2 z => ⟨_, by omega, rfl, hlt, z⟩, fun x H' y => ?_⟩
    have item : Step Wc Hc Wc H' ∧ HSim c.g Wc hc H' ∧ Rep c.g Wc H' d x := by
      rcases g2 x H' y with ⟨e1, r⟩ | ⟨T, us, l, e1, e2, hT, e3, r⟩
      · subst e1
        exact ⟨Step.refl _ _, Sc.hs, r⟩
      · subst e1 e2 e3
        have tn : Step Wc Hc Wc (upd Hc T (.tup us)) := Step.new hT
        have pn := tn.per Sc.hs
        refine ⟨tn, Sc.hs.new hT pn, ?_⟩
        simp only [Rep]
        exact ⟨T, us, rfl, .inl (.inl upd_same), r.per pn _ _⟩
    obtain ⟨t2, s2, rd⟩ := item
    have p2 := t2.per Sc.hs
    refine ⟨Wc, ec, hc, d, Sc.step t2 s2, rd, ?_⟩
    unfold forL at q3
    cases zt : t d ec with
    | none =>
      rw [zt] at q3
      exact q3.elim
    | some e1 =>
      rw [zt] at q3
      intro s3 S3 _ _
      refine ⟨Wc, e1, hc, S3, ?_⟩
      have q4 : PostS c Wc H' (match b e1 hc with
        | .nx e2 h2 => forL t b fg (ds.drop (i + 1)) (wipeE e2 fg) h2
        | .ct e2 h2 => forL t b fg (ds.drop (i + 1)) (wipeE e2 fg) h2
        | .bk e2 h2 => .nx (wipeE e2 fg) h2
        | .rt d h2 => .rt d h2
        | .exc x e2 h2 => .exc x e2 h2
        | .bad => .bad) D := q3.later p2
      cases zb : b e1 hc with
      | nx e2 h2 =>
        rw [zb] at q4
        exact fun W' s' H2 p S' => ⟨W', _, h2, (pc.trans p2).trans p, S'.wipe' fg, q4.later p⟩
      | ct e2 h2 =>
        rw [zb] at q4
        exact fun W' s' H2 p S' => ⟨W', _, h2, (pc.trans p2).trans p, S'.wipe' fg, q4.later p⟩
      | bk e2 h2 =>
        rw [zb] at q4
        exact fun W' s' H2 p S' => q4 W' s' H2 p (S'.wipe' fg)
      | rt d h2 =>
        rw [zb] at q4
        exact q4
      | exc x e2 h2 =>
        rw [zb] at q4
        exact q4
      | bad =>
        rw [zb] at q4
        exact q4
end
section
variable {T : Tp} {X : Cx} {c : Cn} {N : List Str} {k : Nat} {sc : Scope} {x : Str} {pos : Pos}
theorem ko_for {tg iter : Expr} {body : List Stmt} {mi : En → M (List DV)} {t : DV → En → Option En} {sl : List Nat} (fg : List Nat) {bo : Stm} (h : XHo T X c N k sc) (hi : PIH X tg iter (RI c mi)) (hg : PG X tg (RG c t sl)) (hb : PSs X body (RS c bo))
    (hs : ∀ x, foldedSetIterable iter X.env x = pure x := by intro _; rfl) : PS X (.For tg iter body [] pos) (RS c (sFor mi t fg bo)) := ps_imp (ps_forH (by
      obtain ⟨X0, a, oe, cls, dd, pn, e, _⟩ := h.cur
      subst e
      exact PassesOwn.never) h.hot hi hg hb hs) fun D s H q => for_use q
theorem ko_gn {i : Nat} (h : XHo T X c N k sc) (hi : N[i]? = some x) (hx : sc.names.lookup x = some .local) : PG X (.Name x pos) (RG c (tName i) [i]) := g_name (by rw [h.nm]; exact h.nd) (by rw [h.nm]; exact hi) (by rw [h.sc]; exact .inl hx) (.inr (by rw [h.sc]; exact hx))
theorem ko_var (h : XHo T X c N k sc) (i : Nat) (hi : N[i]? = some x) (hv : Vis sc x) (hd : (x == ("__debug__" : Str)) = false := by decide) (hcd : (x == ("__classdict__" : Str)) = false := by decide) : PE X (.Name x pos) (RE c (eVar i)) := c_var (by rw [h.nm]; exact hi) (by rw [h.sc]; exact hv) hd hcd
end
@[simp] theorem itL_lst (l : List DV) (h : HP) : itL (.lst l) h = .ok l h := rfl
end LM

/-! sorted, list(range), reversed(range), max of a list or a tuple. -/
namespace LM
open PySem L2

/-! ### sorted of a tuple, at the library's level -/
section
open PyProof.Rows SrtO Calls
variable {prog : Program} {w : World} {A : Around} {E : Value → Shared → Prop} {s : Shared}
theorem collect_tuple {l : Addr} {vs : List Value} {Q : List Value → Shared → Prop} (hl : s.heap.IsTuple l vs.toArray)
    (h : Q vs { s with heap := (s.heap.push (seqObj "list" #[] 0)).update s.heap.objs.size (Obj.mapSeq (· ++ vs.toArray)) }) (hsz : vs.length ≤ sizeLine := by size_fits) :
    wpAny (model prog w) A (collect (.ref l)) Q E s := by
  obtain ⟨o, ho, hc, n, hd⟩ := id hl
  unfold collect
  refine wpAny_bind (wpAny_runValue (codeAny_builtin entry_proto_collect' ?_))
  show wpAny _ _ (do again (.builtin "list.__iadd__" ⟨[← newList [], .ref l], []⟩)) _ _ s
  refine wpAny_bind (wpAny_newList (wpAny_pure ⟨Code.quiet_builtin _ (by decide +kernel), codeAny_builtin entry_list_iadd' ?_⟩))
  show wpAny _ _ (Builtin.List.listExtendWith (.ref s.heap.objs.size) (.ref l) (.ref s.heap.objs.size)) _ _ { s with heap := s.heap.push (seqObj "list" #[] 0) }
  unfold Builtin.List.listExtendWith
  have ho' : (s.heap.push (seqObj "list" #[] 0)).get? l = some o := Heap.get?_push_of_some _ ho
  refine wpAny_bind (wpAny_typeOf (T := "tuple") ⟨o, ho', hc⟩ ?_)
  have ht : (Value.type "tuple" == Value.type "tuple") = true := by rfl
  rw [if_pos (by rw [ht]; simp)]
  refine wpAny_bind (listItems_at ho' hd ?_)
  refine wpAny_bind (listItems_at (xs := #[]) (n := 0) (Heap.get?_push_size _ rfl) rfl ?_)
  rw [if_neg (by simp)]
  refine wpAny_bind (listUpdate_at (xs := #[]) (n := 0) (Heap.get?_push_size _ rfl) rfl ?_ (Nat.zero_le _) (by show (#[] ++ vs.toArray).size ≤ sizeLine + 1; simp only [Array.size_append, List.size_toArray, List.length_nil]; omega))
  refine wpAny_pure ?_
  show wpAny (model prog w) A (do
      let o ← load s.heap.objs.size
      match o.data with
      | .seq xs _ => pure xs.toList
      | _ => unsupported "internal:collect") Q E { s with heap := (s.heap.push (seqObj "list" #[] 0)).update s.heap.objs.size (Obj.mapSeq (· ++ vs.toArray)) }
  refine wpAny_bind (wpAny_load (get?_update_seq (Heap.get?_push_size _ rfl) _) ?_)
  show wpAny _ _ (pure ((#[] : Array Value) ++ vs.toArray).toList) Q E _
  rw [show ((#[] : Array Value) ++ vs.toArray).toList = vs by simp]
  exact wpAny_pure h
theorem sorted_ordT {l : Addr} {vs : List Value} {ltv : Value → Value → Bool} {Q : Value → Shared → Prop} (O : Swo ltv) (hl : s.heap.IsTuple l vs.toArray) (hz : vs.length ≤ sizeLine)
    (hS : 2 ≤ vs.length → ∀ (h₁ : Heap) (a : Addr), h₁.get? a = some (seqObj "list" vs.toArray 0) → (∀ b o, s.heap.get? b = some o → b ≠ a ∧ h₁.get? b = some o) → SortableO prog w A.in1.in1 { s with heap := h₁ } a vs ltv)
    (h : ∀ out : List Value, Srtd ltv out → Stb ltv out vs → Q (.ref (s.heap.objs.size + 1)) { s with heap := sortedAll s.heap vs out.toArray }) :
    wpAny (model prog w) A (call (.builtin "sorted") [.ref l]) Q E s := by
  refine Calls.call_function_entry kind_sorted plain_sorted entry_sorted (args_sorted1 _) ?_
  unfold Builtin.«sorted»
  refine wpAny_bind (m := checkCount "sorted" 1 1 _) (wpAny_pure ?_)
  refine wpAny_bind (collect_tuple hl ?_ hz)
  refine wpAny_bind (wpAny_newList ?_ hz)
  have hsz : ((s.heap.push (seqObj "list" #[] 0)).update s.heap.objs.size (Obj.mapSeq (· ++ vs.toArray))).objs.size = s.heap.objs.size + 1 := by
    rw [Heap.size_update, size_push']
  have hoL : (((s.heap.push (seqObj "list" #[] 0)).update s.heap.objs.size (Obj.mapSeq (· ++ vs.toArray))).push (seqObj "list" vs.toArray 0)).get? (s.heap.objs.size + 1) = some (seqObj "list" vs.toArray 0) := by
    rw [← hsz]; exact Heap.get?_push_size _ rfl
  have keep : ∀ b o, s.heap.get? b = some o → b ≠ s.heap.objs.size + 1 ∧ (((s.heap.push (seqObj "list" #[] 0)).update s.heap.objs.size (Obj.mapSeq (· ++ vs.toArray))).push (seqObj "list" vs.toArray 0)).get? b = some o := fun b o q => by
    have hlt : b < s.heap.objs.size := Heap.lt_size q
    refine ⟨Nat.ne_of_lt (Nat.lt_succ_of_lt hlt), Heap.get?_push_of_some _ ?_⟩
    rw [Heap.get?_update_ne _ _ _ _ (Nat.ne_of_lt hlt)]
    exact Heap.get?_push_of_some _ q
  show wpAny _ _ _ _ _ { s with heap := ((s.heap.push (seqObj "list" #[] 0)).update s.heap.objs.size (Obj.mapSeq (· ++ vs.toArray))).push (seqObj "list" vs.toArray 0) }
  rw [hsz]
  refine wpAny_bind (wpAny_holding (wpAny_call_entry slot_list_sort ⟨_, hoL, rfl⟩ entry_list_sort (list_sort_ord O hoL hz (fun h2 => hS h2 _ _ hoL keep) fun out hs hb => ⟨_, rfl, ?_⟩) (args_list_sort _)))
  exact wpAny_pure ⟨_, rfl, h out hs hb⟩
end
/-- a list or a tuple of ints, sorted -/
def rSrt (K : PySem.W.Frag) : List V → Hp → VK → Prop := fun vs H Q => ∃ (a : Addr) (ns : List Int), vs = [V.ref a] ∧ (SqL K H a (ns.map V.int) ∨ SqT K H a (ns.map V.int)) ∧
  ∀ p, H p = none → Q (.ref p) (upd H p (.lst ((PySem.W.sortI ns).map V.int)))
theorem srt_eq {ns ns' : List Int} (h1 : ns'.Perm ns) (h2 : ns'.Pairwise (· ≤ ·)) : ns' = PySem.W.sortI ns :=
  List.Perm.eq_of_pairwise (fun _ _ _ _ a b => Int.le_antisymm a b) h2 (PySem.W.sortI_rises ns) (h1.trans (PySem.W.sortI_perm ns).symm)
theorem cr_srt {X : Cx} : CallR X (.builtin "sorted") (rSrt X.K) := by
  intro pins s σ H vs us Q I r h
  obtain ⟨a, ns, rfl, hs, q⟩ := h
  rcases hs with hs | hs
  · exact cr_sortedI pins s σ H _ us Q I r ⟨a, ns, rfl, hs, fun ns' p e1 e2 np => by
      rw [srt_eq e1 e2]
      exact q p np⟩
  · obtain ⟨its, rv, hl, hz⟩ := I.tuple hs
    rw [Vals.ref1 r]
    have hi := rv.ints
    refine sorted_ordT SrtO.swo_int (show s.heap.IsTuple a its.toArray from hl) (by rw [← rv.length]; exact hz) (fun h2 h₁ a' _ _ => SrtO.ints_sortable hi h2) fun out h1 h2 => ?_
    obtain ⟨k1, k2, k3⟩ := SrtO.ints_out hi h1 h2
    obtain ⟨ep, he'⟩ := PyProof.Rows.sortedAll_at s.heap its out.toArray
    have hlen : ((out.map SrtO.iv).map V.int).length ≤ sizeLine := by
      rw [List.length_map, k2.length_eq]
      rw [List.length_map] at hz
      exact hz
    refine ⟨.ref _, upd H (s.heap.objs.size + 1) (.lst ((out.map SrtO.iv).map V.int)), I.laid (t' := s.toks) (fun _ _ => PyProof.Rows.sortedAll_old) (Nat.le_succ _) ⟨hlen, out, ep, vals_of_ints k1, he'⟩, rfl, ?_⟩
    rw [srt_eq k2 k3]
    exact q _ (I.hok.fresh (Nat.le_succ _))
section
variable {X : Cx} {c : Cn} {pos p1 p2 pos2 : Pos} {a b tg : Expr} {ma mb : En → M DV}
def lSrt (x : DV) : M (List DV) := fun h => match asS h x with
  | some l => (match asInts l with
    | some ns => .ok ((PySem.W.sortI ns).map DV.int) h
    | none => .bad)
  | none => .bad
theorem prim_srt {K : PySem.W.Frag} (hk : c.g.K = K) : Prim1 c (pB c) (rO c) lSrt (rSrt K) := by
  subst hk
  refine ⟨fun {W e h s H Hs x v Q} S rx nw q => ?_⟩
  unfold lSrt at q
  cases z : asS h x with
  | none =>
    rw [z] at q
    exact q.elim
  | some l =>
    rw [z] at q
    have q1 : Post c (rO c Hs) e s W H (match asInts l with
      | some ns => .ok ((PySem.W.sortI ns).map DV.int) h
      | none => .bad) Q := q
    cases z2 : asInts l with
    | none =>
      rw [z2] at q1
      exact q1.elim
    | some ns =>
      rw [z2] at q1
      obtain ⟨p, vs, e1, sq, rs⟩ := asS_ok S rx z
      rw [asInts_map z2] at rs
      have e2 := reps_ints_inv rs
      subst e1 e2
      exact ⟨p, ns, rfl, sq, fun d hd => post_own q1 S (reps_ints _) hd (nw d hd)⟩
theorem c_sorted (hk : X.K = c.g.K) (hg : Gl X "sorted") (hm : X.mg "sorted" = none) (ha : PE X a (RB c ma)) (he : starEach (a :: []) X.env = (false, eval a X.env) :: starEach [] X.env := by rfl) : PE X (.Call (.Name "sorted" p1) [a] [] pos) (RO c (iB ma lSrt)) :=
  c_callB cr_srt (prim_srt hk.symm) hg hm (by decide +kernel) ha (by decide) (by decide) he
/-! ### list(range(n)) -/
theorem rgV_rng (n : Int) : rgV 0 n = (List.range n.toNat).map fun i => V.int ((i : Nat) : Int) := by
  unfold rgV
  rw [Int.sub_zero]
  apply List.map_congr_left
  intro i _
  rw [Int.zero_add]
theorem reps_rng {g : Glue} {W : Wd} {H : Hp} (n : Nat) : Reps g W H (rng n) ((List.range n).map fun i => V.int ((i : Nat) : Int)) := by
  unfold rng
  generalize List.range n = l
  induction l with
  | nil => exact .nil
  | cons x r ih => exact .cons (by simp only [Rep]) ih
theorem c_listRng (hk : X.K = c.g.K) (hc : X.calm = true) (hg : Gl X "list") (hm : X.mg "list" = none) (hg2 : Gl X "range") (hm2 : X.mg "range" = none) (ha : PE X a (RE c ma))
    (hs : starEach [a] X.env = (false, eval a X.env) :: starEach [] X.env := by rfl)
    (hs2 : starEach [.Call (.Name "range" p2) [a] [] pos2] X.env = (false, eval (.Call (.Name "range" p2) [a] [] pos2) X.env) :: starEach [] X.env := by rfl) :
    PE X (.Call (.Name "list" p1) [.Call (.Name "range" p2) [a] [] pos2] [] pos) (RO c (iB ma itN)) := pe_imp (pe_listRg hc hg hm (prg_1 hg2 hm2 ha hs) hs2) fun s H Q q =>
  RX.bind (R := rO c) (k := fun _ x => itN x) q fun W e W1 H1 d v h1 t S r q2 => by
    unfold itN at q2
    split at q2
    · rename_i j
      split at q2
      · rename_i hz
        simp only [Bool.and_eq_true, decide_eq_true_eq] at hz
        simp only [rV, Rep] at r
        refine ⟨j, r, ⟨by omega, by omega, by omega, by omega, by omega⟩, fun q hq => ?_⟩
        rw [rgV_rng]
        exact post_own q2 S (reps_rng _) hq (t.th q hq)
      · exact q2.elim
    · exact q2.elim
/-! ### for i in reversed(range(n)) -/
def itRR (d : DV) : M (List DV) := match d with
  | .int j => if decide (-16777216 ≤ j) && decide (j ≤ 16777216) then pure (rng j.toNat).reverse else M.bad
  | _ => M.bad
theorem wk_rrng {W : Wd} {H : Hp} (n : Nat) : Wk c W H (Itc ((n : Int) - 1) (-1) n) (rng n).reverse where
  go := fun W2 H2 pr i d e => by
    obtain ⟨h0, e0⟩ := rev_get _ e
    rw [rng_len] at h0 e0
    obtain ⟨h1, h2⟩ := rng_get e0
    refine ⟨h0, fun x H3 y => ?_⟩
    obtain ⟨y1, y2⟩ := y
    subst h2 y2
    refine .inl ⟨y1, ?_⟩
    simp only [Rep]
    congr 1
    omega
  st := fun W2 H2 pr => by
    show n ≤ (rng n).reverse.length
    rw [List.length_reverse, rng_len]
    exact Nat.le_refl _
theorem i_revRng (hg : Gl X "reversed") (hm : X.mg "reversed" = none) (hg2 : Gl X "range") (hm2 : X.mg "range" = none) (ha : PE X a (RE c ma)) (hs : starEach [a] X.env = (false, eval a X.env) :: starEach [] X.env := by rfl)
    (hs2 : starEach [.Call (.Name "range" p2) [a] [] pos2] X.env = (false, eval (.Call (.Name "range" p2) [a] [] pos2) X.env) :: starEach [] X.env := by rfl) :
    PI X tg (.Call (.Name "reversed" p1) [.Call (.Name "range" p2) [a] [] pos2] [] pos) (RI c (iB ma itRR)) :=
  pi_imp (pi_revR hg hm (prg_1 hg2 hm2 ha hs) hs2) fun s H R q => RX.bind (k := fun _ x => itRR x) q fun W e W1 H1 d v h1 t S1 r q2 => by
    unfold itRR at q2
    split at q2
    · rename_i j
      split at q2
      · rename_i hz
        simp only [Bool.and_eq_true, decide_eq_true_eq] at hz
        simp only [rV, Rep] at r
        refine ⟨j, r, by omega, by omega, by omega, by omega, ?_⟩
        rw [Int.sub_zero, Int.zero_add]
        exact q2.ret S1 (wk_rrng _)
      · exact q2.elim
    · exact q2.elim
end
@[simp] theorem lSrt_tup (l : List Int) (h : HP) : lSrt (.tup (l.map DV.int)) h = .ok ((PySem.W.sortI l).map DV.int) h := by
  show (match asInts (l.map DV.int) with
    | some ns => Res.ok ((PySem.W.sortI ns).map DV.int) h
    | none => .bad) = _
  rw [asInts_ints]
@[simp] theorem lSrt_lst (l : List Int) (h : HP) : lSrt (.lst (l.map DV.int)) h = .ok ((PySem.W.sortI l).map DV.int) h := by
  show (match asInts (l.map DV.int) with
    | some ns => Res.ok ((PySem.W.sortI ns).map DV.int) h
    | none => .bad) = _
  rw [asInts_ints]
theorem itRR_nat (n : Nat) (h : HP) (q : n ≤ 16777216) : itRR (.int (n : Int)) h = .ok (rng n).reverse h := by
  simp only [itRR]
  rw [decide_eq_true (show (-16777216 : Int) ≤ n by omega), decide_eq_true (show (n : Int) ≤ 16777216 by omega)]
  rfl
end LM

/-! tuple(reversed(a tuple)). -/
namespace LMR
open PySem PySem.Spec PyProof.Rows RT
theorem nolen_rt : typeLookup (.type "reversed") "__len__" = pure none := by rw [typeLookup_type, builtinLookup_eq_fast]; kernel_rfl
theorem slot_rt_hint : Slot "reversed" "__length_hint__" "reversed.__length_hint__" :=
  .of (owner := "reversed") (n := "__length_hint__") (by rw [typeLookup_type, builtinLookup_eq_fast]; kernel_rfl) (by decide +kernel) (by decide +kernel) (by decide +kernel)
    (by first | exact .inl (by decide +kernel) | exact .inr (by decide +kernel)) (by rw [isSubtype_type]; kernel_rfl)
theorem type_rt_hint : typeOf (.builtin "reversed.__length_hint__") = pure (.type "method_descriptor") := by show builtinType _ = _; rw [builtinType_eq_fast]; kernel_rfl
theorem entry_rt_hint : entryFor table "reversed.__length_hint__" = some Builtin.«reversed.__length_hint__» := entryFor_of_tree (by kernel_rfl)
theorem args_rt_hint (a : Value) : argsOk "reversed.__length_hint__" ⟨[a], []⟩ := by
  unfold argsOk; rw [signature?_of (id := "reversed.__length_hint__") (n := ['_', '_', 't', 'n', 'i', 'h', '_', 'h', 't', 'g', 'n', 'e', 'l', '_', '_']) (o := ['d', 'e', 's', 'r', 'e', 'v', 'e', 'r']) (by kernel_rfl) owner_rt]; kernel_rfl
section
variable {prog : Program} {w : World} {A : Around} {E : Value → Shared → Prop} {s : Shared}
theorem hint_rt {it t : Addr} {items : Array Value} {Q : Bool → Shared → Prop} (hit : IsRt s.heap it t ((items.size : Int) - 1)) (ht : IsTup s.heap t items) (hn : items.size ≤ sizeLine)
    (hQ : ∀ tk, Q (decide (items.size ≠ 0)) { s with toks := tk }) : wpAny (model prog w) A (Builtin.List.listLengthHint (.ref it)) Q E s := by
  have hT : s.TypeIs (.ref it) "reversed" := hit.typeIs
  obtain ⟨o, ho, hc, hd⟩ := id hit
  unfold Builtin.List.listLengthHint
  refine wpAny_bind (wpAny_specialOf hT nolen_rt ?_)
  show wpAny _ A (specialOf (Value.ref it) (Str.ofString "__length_hint__") >>= _) _ _ _
  refine wpAny_bind (wpAny_specialOf hT slot_rt_hint.lookup ?_)
  (generalize hid : ("reversed.__length_hint__" : String) = id0; (fail_if_success (clear hid id0)); wp_delta; rw [show splitId id0 = some ("reversed", "__length_hint__") from by subst hid; decide +kernel]; subst hid)
  refine wpAny_bind (wpAny_isInstance (b := true) hT (by rw [isSubtype_type]; kernel_rfl) ?_)
  rw [if_neg (by decide)]
  show wpAny _ A (rule "list.length-hint.hint" >>= _) _ _ _
  refine wpAny_bind (wpAny_rule ?_)
  refine wpAny_bind (m := bindSpecial _ _) ?_
  unfold bindSpecial
  rw [type_rt_hint]
  refine wpAny_bind (wpAny_pure ?_)
  rw [if_pos (by decide)]
  refine wpAny_pure ?_
  refine wpAny_bind (wpAny_attempt (wpAny_call_entry slot_rt_hint hT entry_rt_hint ?_ (args_rt_hint _)))
  unfold Builtin.«reversed.__length_hint__»
  refine wpAny_bind (wpAny_of_eq (a := Value.ref it) rfl ?_)
  refine wpAny_bind (wpAny_field ho hd (x := .ref t) rfl ?_)
  rw [if_neg (show ¬ ((Value.ref t == Value.none) = true) from Bool.false_ne_true)]
  have hn2 : (items.size : Int) < 2 ^ 63 := by
    rw [sizeLine_eq] at hn
    omega
  refine wpAny_bind (len_tuple ht hn2 ?_)
  refine wpAny_bind (m := asInt? _) (wpAny_of_eq (a := some (items.size : Int)) rfl ?_)
  refine wpAny_bind (wpAny_field (s := { s with toks := s.toks + 1 + 1 }) ho hd (x := rawInt ((items.size : Int) - 1)) rfl ?_)
  show wpAny _ _ (if (items.size : Int) < ((items.size : Int) - 1) + 1 then _ else _) _ _ _
  rw [if_neg (by omega)]
  show wpAny _ _ (retInt _) _ _ _
  unfold retInt
  refine wpAny_bind (wpAny_mkInt ?_)
  refine wpAny_pure ?_
  refine ⟨_, rfl, ?_⟩
  show wpAny _ A (asInt? (Value.int ((items.size : Int) - 1 + 1) _) >>= _) _ _ _
  refine wpAny_bind (m := asInt? _) (wpAny_of_eq (a := some ((items.size : Int) - 1 + 1)) rfl ?_)
  have en : (items.size : Int) - 1 + 1 = (items.size : Int) := by omega
  rw [en]
  have e1 : (!Builtin.List.listFitsIndex (items.size : Int)) = false := by
    unfold Builtin.List.listFitsIndex
    simp only [Bool.not_eq_false', Bool.and_eq_true, decide_eq_true_eq]
    omega
  have e2 : Builtin.List.listTooLong ((items.size : Int)).toNat = false := by
    unfold Builtin.List.listTooLong
    rw [Int.toNat_natCast, decide_eq_false_iff_not]
    omega
  try dsimp only
  rw [if_neg (by rw [e1]; decide), if_neg (by omega), if_neg (by rw [e2]; decide)]
  refine wpAny_pure ?_
  have e3 : ((items.size : Int) != 0) = decide (items.size ≠ 0) := by
    rw [bne, Bool.eq_iff_iff]
    simp
  rw [e3]
  exact hQ _
theorem walks_rt (hh : A.handled = none) (I l : Addr) (hne : l ≠ I) (items : Array Value) (hz : items.size ≤ sizeLine) :
    Walks prog w A I [I, l] [I] items.size (fun i v => items[items.size - 1 - i]? = some v) (fun i h => i ≤ items.size ∧ IsRt h I l ((items.size : Int) - 1 - (i : Int)) ∧ IsTup h l items) where
  sub := fun b hb => by simp at hb; simp [hb]
  frame := fun _ _ _ x hk => ⟨x.1, x.2.1.at fun o e => hk I (by simp) o e, by
    obtain ⟨o, e, r⟩ := x.2.2
    exact ⟨o, hk l (by simp) o e, r⟩⟩
  item := fun i s Q E hi x hQ => by
    have e : (items.size : Int) - 1 - (i : Int) = ((items.size - 1 - i : Nat) : Int) := by omega
    have hit := x.2.1
    rw [e] at hit
    have hx : items[items.size - 1 - i]? = some (items[items.size - 1 - i]'(by omega)) := Array.getElem?_eq_getElem (by omega)
    refine next_rt_item hit x.2.2 hx hz fun h' hit' hs' => ?_
    have e2 : ((items.size - 1 - i : Nat) : Int) - 1 = (items.size : Int) - 1 - ((i + 1 : Nat) : Int) := by omega
    rw [e2] at hit'
    exact hQ _ h' _ hx ⟨hi, hit', by
      obtain ⟨o, eo, r⟩ := x.2.2
      exact ⟨o, (hs'.2 l hne).trans eo, r⟩⟩ fun b o hb eo => hs'.extBut b o (fun h => hb (by simp [h])) eo
  done := fun s Q E x hQ => by
    have e : (items.size : Int) - 1 - (items.size : Int) = -1 := by omega
    have hit := x.2.1
    rw [e] at hit
    exact next_rt_end hh hit fun h' he' => hQ h' s.toks fun b o hb eo => he' b o (fun h => hb (by simp [h])) eo
  self := fun _ _ _ _ x hQ => iter_rt x.2.1 hQ
theorem collect_rt {it l : Addr} {items : Array Value} {Q : List Value → Shared → Prop} (hh : A.handled = none) (hit : IsRt s.heap it l ((items.size : Int) - 1)) (hl : IsTup s.heap l items) (hne : l ≠ it) (hn : items.size ≤ sizeLine)
    (hQ : ∀ (h' : Heap) (tk : Nat) (acc : Array Value), (∀ b o, b ≠ it → s.heap.get? b = some o → h'.get? b = some o) → ItemsOf (fun i v => items[items.size - 1 - i]? = some v) acc items.size → Q acc.toList { s with heap := h', toks := tk }) :
    wpAny (model prog w) A (collect (.ref it)) Q E s := by
  have W := (walks_rt (prog := prog) (w := w) (A := A.in1) hh it l hne items hn).toS
  obtain ⟨oi, hoi, _⟩ := id hit
  obtain ⟨ol, hol, _⟩ := id hl
  have hSi : s.heap.objs.size ≠ it := Nat.ne_of_gt (Heap.lt_size hoi)
  have hSl : s.heap.objs.size ≠ l := Nat.ne_of_gt (Heap.lt_size hol)
  have hSf : s.heap.objs.size ∉ [it, l] := by simp only [List.mem_cons, List.not_mem_nil, or_false, not_or]; exact ⟨hSi, hSl⟩
  unfold collect
  refine wpAny_bind (wpAny_runValue (codeAny_builtin F.entry_proto_collect ?_))
  rw [Around.under_plainId F.plain_proto_collect _]
  show wpAny _ A.in1 (newList [] >>= fun l' => again (.builtin "list.__iadd__" ⟨[l', .ref it], []⟩)) _ _ s
  refine wpAny_bind (wpAny_newObj_type ?_)
  refine wpAny_pure ⟨plainId_quiet F.plain_list_iadd _, codeAny_builtin F.entry_list_iadd ?_⟩
  rw [Around.under_plainId F.plain_list_iadd _]
  have hS₁ : (s.heap.push { cls := .type "list", data := .seq ([] : List Value).toArray }).get? s.heap.objs.size = some { cls := .type "list", data := .seq ([] : List Value).toArray } := Heap.get?_push_size _ rfl
  have hit1 : IsRt (s.heap.push { cls := .type "list", data := .seq ([] : List Value).toArray }) it l ((items.size : Int) - 1) := hit.at fun o e => Heap.get?_push_of_some _ e
  have hl1 : IsTup (s.heap.push { cls := .type "list", data := .seq ([] : List Value).toArray }) l items := by
    obtain ⟨o, e, r⟩ := hl
    exact ⟨o, Heap.get?_push_of_some _ e, r⟩
  have hT : ({ s with heap := s.heap.push { cls := .type "list", data := .seq ([] : List Value).toArray } } : Shared).TypeIs (.ref it) "reversed" := IsRt.typeIs (s := { s with heap := s.heap.push { cls := .type "list", data := .seq ([] : List Value).toArray } }) hit1
  have h1 : Builtin.List.listSameRef (.ref s.heap.objs.size) (.ref it) = false := by simp [Builtin.List.listSameRef, hSi]
  show wpAny _ A.in1 (Builtin.List.listExtendWith (.ref s.heap.objs.size) (.ref it) (.ref s.heap.objs.size)) _ _ _
  unfold Builtin.List.listExtendWith
  refine wpAny_bind (wpAny_typeOf hT ?_)
  rw [if_neg (by rw [h1]; decide)]
  refine wpAny_bind (iter_rt (s := { s with heap := s.heap.push { cls := .type "list", data := .seq ([] : List Value).toArray } }) hit1 ?_)
  refine wpAny_bind (wpAny_holding (hint_rt (s := { s with heap := s.heap.push { cls := .type "list", data := .seq ([] : List Value).toArray } }) hit1 hl1 hn fun tk0 => ?_))
  have e0 : ((items.size : Nat) : Int) - 1 - ((0 : Nat) : Int) = (items.size : Int) - 1 := by omega
  by_cases hz : items.size = 0
  · have er : decide (items.size ≠ 0) = false := decide_eq_false (by omega)
    rw [er]
    show wpAny _ A.in1 (again (.builtin "list.extend.loop" ⟨[.ref s.heap.objs.size, .ref it, .ref s.heap.objs.size], []⟩)) _ _ _
    have idh : ∀ b o, b ≠ s.heap.objs.size → (s.heap.push { cls := .type "list", data := .seq ([] : List Value).toArray }).get? b = some o → (s.heap.push { cls := .type "list", data := .seq ([] : List Value).toArray }).get? b = some o := fun _ _ _ e => e
    refine wpAny_pure ⟨plainId_quiet F.plain_extend_loop _, codeAny_extend_loopS W hn _ hSf _ items.size 0 _ _ _ rfl (Nat.zero_le _) ⟨Nat.zero_le _, by rw [e0]; exact hit1.at fun o e => idh it o (Ne.symm hSi) e, by
      obtain ⟨o, e, r⟩ := hl1
      exact ⟨o, idh l o (Ne.symm hSl) e, r⟩⟩ hS₁ (ItemsOf.nil _) fun s' acc' c' hm hS' hacc => ?_⟩
    show wpAny _ A (load s.heap.objs.size >>= _) _ _ s'
    refine wpAny_bind (wpAny_load hS' ?_)
    refine wpAny_pure ?_
    rw [Moved.eq_with hm]
    refine hQ s'.heap s'.toks acc' (fun b o hb e => hm.heap b o (fun hmem => ?_) (idh b o (Nat.ne_of_lt (Heap.lt_size e)) (Heap.get?_push_of_some _ e))) hacc
    rcases List.mem_cons.mp hmem with e' | hmem
    · exact absurd (Heap.lt_size e) (by rw [e']; exact Nat.lt_irrefl _)
    · exact hb (List.mem_singleton.mp hmem)
  · have er : decide (items.size ≠ 0) = true := decide_eq_true hz
    rw [er]
    show wpAny _ A.in1 (rule "list.extend.makes-room" >>= fun _ => Builtin.List.listTouch (.ref s.heap.objs.size) >>= fun _ =>
      again (.builtin "list.extend.loop" ⟨[.ref s.heap.objs.size, .ref it, .ref s.heap.objs.size], []⟩)) _ _ _
    refine wpAny_bind (wpAny_rule ?_)
    refine wpAny_bind ?_
    show wpAny _ A.in1 (updateSeq s.heap.objs.size (·.push .none) >>= fun _ => updateSeq s.heap.objs.size (·.pop)) _ _ _
    refine wpAny_bind (wpAny_updateSeq hS₁ rfl ?_)
    have hS₂ := Heap.get?_update_self (Obj.mapSeq (·.push Value.none)) hS₁ rfl
    refine wpAny_updateSeq hS₂ rfl ?_
    have hS₃ := Heap.get?_update_self (Obj.mapSeq (·.pop)) hS₂ rfl
    have oth : ∀ b o, b ≠ s.heap.objs.size → (s.heap.push { cls := .type "list", data := .seq ([] : List Value).toArray }).get? b = some o →
        (((s.heap.push { cls := .type "list", data := .seq ([] : List Value).toArray }).update s.heap.objs.size (Obj.mapSeq (·.push Value.none))).update s.heap.objs.size (Obj.mapSeq (·.pop))).get? b = some o :=
      fun b o hb e => (Heap.get?_update_other _ _ (Ne.symm hb)).trans ((Heap.get?_update_other _ _ (Ne.symm hb)).trans e)
    refine wpAny_pure ⟨plainId_quiet F.plain_extend_loop _, codeAny_extend_loopS W hn _ hSf _ items.size 0 _ _ _ rfl (Nat.zero_le _) ⟨Nat.zero_le _, by rw [e0]; exact hit1.at fun o e => oth it o (Ne.symm hSi) e, by
      obtain ⟨o, e, r⟩ := hl1
      exact ⟨o, oth l o (Ne.symm hSl) e, r⟩⟩ hS₃ (ItemsOf.nil _) fun s' acc' c' hm hS' hacc => ?_⟩
    show wpAny _ A (load s.heap.objs.size >>= _) _ _ s'
    refine wpAny_bind (wpAny_load hS' ?_)
    refine wpAny_pure ?_
    rw [Moved.eq_with hm]
    refine hQ s'.heap s'.toks acc' (fun b o hb e => hm.heap b o (fun hmem => ?_) (oth b o (Nat.ne_of_lt (Heap.lt_size e)) (Heap.get?_push_of_some _ e))) hacc
    rcases List.mem_cons.mp hmem with e' | hmem
    · exact absurd (Heap.lt_size e) (by rw [e']; exact Nat.lt_irrefl _)
    · exact hb (List.mem_singleton.mp hmem)
theorem code_tuple_new_rt {it l : Addr} {items : Array Value} {Q₁ : Value → Shared → Prop} (hh : A.handled = none) (hit : IsRt s.heap it l ((items.size : Int) - 1)) (hl : IsTup s.heap l items) (hne : l ≠ it) (hn : items.size ≤ sizeLine)
    (h : ∀ (h' : Heap) (tk : Nat) (acc : Array Value), (∀ b o, b ≠ it → s.heap.get? b = some o → h'.get? b = some o) → ItemsOf (fun i v => items[items.size - 1 - i]? = some v) acc items.size →
      Q₁ (.ref h'.objs.size) { s with heap := h'.push { cls := .type "tuple", data := .seq acc }, toks := tk }) :
    codeAny (model prog w) A (.call (.builtin "tuple.__new__") ⟨[.type "tuple", .ref it], []⟩) (wants Q₁ E) s := by
  refine codeAny_of_tree ?_
  show wpAny _ A.in1 (do checkBuiltinCall "tuple.__new__" ⟨[.type "tuple", .ref it], []⟩; again (.builtin "tuple.__new__" ⟨[.type "tuple", .ref it], []⟩)) _ _ s
  refine wpAny_bind (wpAny_of_eq (F.newCall_tuple_1 _) (wpAny_pure ⟨plainId_quiet F.plain_tuple_new _, codeAny_builtin F.entry_tuple_new ?_⟩))
  rw [Around.under_plainId F.plain_tuple_new _]
  have hsub := sub_tuple_self
  have hinit := init_tuple_lookup
  have hmh := madeHere_tuple
  have hTI : s.TypeIs (.ref it) "reversed" := hit.typeIs
  have hh1 : A.in1.handled = none := hh
  wp_walk using wpAny_typeOf hTI, collect_rt (A := A.in1) hh1 hit hl hne hn
  intro h' tk acc hk hacc
  show wpAny _ _ (Builtin.Tuple.tupleExact acc.toList.toArray >>= fun v => ret v) _ _ _
  unfold Builtin.Tuple.tupleExact
  refine wpAny_bind (wpAny_newObj_type ?_ (by show acc.toList.toArray.size ≤ sizeLine; simp only [Array.toArray_toList]; rw [hacc.1]; exact hn))
  refine wpAny_pure ?_
  have e : acc.toList.toArray = acc := by simp
  rw [e]
  exact h h' tk acc hk hacc
theorem call_tuple_rt {it l : Addr} {items : Array Value} {Q : Value → Shared → Prop} (hh : A.handled = none) (hit : IsRt s.heap it l ((items.size : Int) - 1)) (hl : IsTup s.heap l items) (hne : l ≠ it) (hn : items.size ≤ sizeLine)
    (hQ : ∀ (h' : Heap) (tk : Nat) (acc : Array Value), (∀ b o, b ≠ it → s.heap.get? b = some o → h'.get? b = some o) → ItemsOf (fun i v => items[items.size - 1 - i]? = some v) acc items.size →
      Q (.ref h'.objs.size) { s with heap := h'.push { cls := .type "tuple", data := .seq acc }, toks := tk }) :
    wpAny (model prog w) A (call (.type "tuple") [.ref it]) Q E s := by
  refine callType_codes (Q₁ := fun obj s₁ => s₁.TypeIs obj "tuple" ∧ Q obj s₁) F.called_tuple (F.typeCall_tuple_1 _) F.entry_object_init
    (code_tuple_new_rt (A := A.in1) hh hit hl hne hn fun h' tk acc hk hacc => ⟨⟨_, Heap.get?_push_size _ rfl, rfl⟩, hQ h' tk acc hk hacc⟩) fun obj s₁ h₁ => ?_
  exact ⟨h₁.1, F.args_object_init_2 obj _, object_init_meets F.called_tuple.init.lookup F.called_tuple.made (by decide) prog w A.in1 _ s₁ ⟨h₁.1, rfl, h₁.2⟩⟩
end
section
open L2
variable {X : Cx}
/-- tuple(reversed(x)), x a list or a tuple -/
def tTupRevA (K : PySem.W.Frag) (te : TE) : TE := fun σ H Q => te σ H fun v H1 => ∃ (a : Addr) (xs : List V), v = .ref a ∧ (SqL K H1 a xs ∨ SqT K H1 a xs) ∧ ∀ q, H1 q = none → Q (.ref q) (upd H1 q (.tup xs.reverse))
theorem pe_tupRevA {e : Expr} {te : TE} {p p2 pos pos2 : Pos} (hc : X.calm = true) (hg : Gl X "tuple") (hm : X.mg "tuple" = none) (hg2 : Gl X "reversed") (hm2 : X.mg "reversed" = none) (he : PE X e te)
    (hs : starEach [e] X.env = (false, eval e X.env) :: starEach [] X.env := by rfl)
    (hs2 : starEach [.Call (.Name "reversed" p2) [e] [] pos2] X.env = (false, eval (.Call (.Name "reversed" p2) [e] [] pos2) X.env) :: starEach [] X.env := by rfl) :
    PE X (.Call (.Name "tuple" p) [.Call (.Name "reversed" p2) [e] [] pos2] [] pos) (tTupRevA X.K te) := by
  refine ⟨fun pins s σ H Q I h => ?_⟩
  refine Call_ (ld_blt I hg hm boot_tuple (PyProof.Rows.callWith_type1 (args_cons (Call_ (ld_blt I hg2 hm2 PyProof.Rows.boot_reversed (PyProof.Rows.callWith_type1 (args_cons (thn (he.run pins s σ H _ I h) fun u s1 ⟨v, H1, I1, r1, q1⟩ => args_nil ?_) hs) hs rfl))) hs2) hs2 rfl))
  obtain ⟨a, xs, ev, hq, q⟩ := q1
  subst ev
  obtain rfl : u = Value.ref a := r1
  rcases hq with hq | hq
  · obtain ⟨its, rv, p', hz⟩ := I1.list hq
    refine call_reversed_list p'.isList (args_nil ?_)
    have k0 : ∀ b o, s1.heap.get? b = some o → (s1.heap.push (revObj a ((its.toArray.size : Int) - 1))).get? b = some o := fun b o e => Heap.get?_push_of_some _ e
    have I2 : Inv X pins σ H1 { s1 with heap := s1.heap.push (revObj a ((its.toArray.size : Int) - 1)) } := I1.kept (t' := s1.toks) k0
    obtain ⟨f0, f1, f2, f3, f4, f5⟩ := I1.fpOk (H' := H1) (b := s1.heap.objs.size) (Nat.le_refl _) (I1.hok.fresh (Nat.le_refl _))
    have hl := p'.isList
    obtain ⟨ol, hol, _⟩ := id hl
    have hne : a ≠ s1.heap.objs.size := Nat.ne_of_lt (Heap.lt_size hol)
    have hn : its.toArray.size ≤ sizeLine := by rw [List.size_toArray, ← rv.length]; exact hz
    refine call_tuple_rev (s := { s1 with heap := s1.heap.push (revObj a ((its.toArray.size : Int) - 1)) }) (I1.ok.hd hc) ⟨_, Heap.get?_push_size _ rfl, rfl, rfl⟩ (hl.push _) hne hn fun h' tk acc hk hi => ?_
    have I3 : Inv X pins σ H1 { s1 with heap := h', toks := tk } := I2.turned (t' := tk) (fun b o hb e => hk b o hb e) f0 f1 f3 f4 f5
    refine ⟨.ref h'.objs.size, upd H1 h'.objs.size (.tup xs.reverse), I3.laid (t' := tk) (fun c o e => Heap.get?_push_of_some _ e) (Nat.le_refl _) (show ObjOk X.prog X.w _ _ _ (.tup xs.reverse) from ⟨by rw [List.length_reverse]; exact hz, acc.toList, vals_rev rv hi, ?_⟩), rfl, q _ (I3.hok.fresh (Nat.le_refl _))⟩
    rw [Array.toArray_toList]
    exact IsTup.new _ _
  · obtain ⟨its, rv, p', hz⟩ := I1.tuple hq
    have hn : its.toArray.size ≤ sizeLine := by rw [List.size_toArray, ← rv.length]; exact hz
    have hn2 := hn
    rw [sizeLine_eq] at hn2
    refine call_reversed_tup p' (fun A E Q k => len_tuple p' (by omega) k) (args_nil ?_)
    have k0 : ∀ b o, s1.heap.get? b = some o → (s1.heap.push (rtObj a ((its.toArray.size : Int) - 1))).get? b = some o := fun b o e => Heap.get?_push_of_some _ e
    have I2 : Inv X pins σ H1 { s1 with heap := s1.heap.push (rtObj a ((its.toArray.size : Int) - 1)), toks := s1.toks + 1 + 1 } := I1.kept (t' := s1.toks + 1 + 1) k0
    obtain ⟨f0, f1, f2, f3, f4, f5⟩ := I1.fpOk (H' := H1) (b := s1.heap.objs.size) (Nat.le_refl _) (I1.hok.fresh (Nat.le_refl _))
    obtain ⟨ol, hol, r0⟩ := id p'
    have hne : a ≠ s1.heap.objs.size := Nat.ne_of_lt (Heap.lt_size hol)
    refine call_tuple_rt (s := { s1 with heap := s1.heap.push (rtObj a ((its.toArray.size : Int) - 1)), toks := s1.toks + 1 + 1 }) (I1.ok.hd hc) ⟨_, Heap.get?_push_size _ rfl, rfl, rfl⟩ ⟨ol, Heap.get?_push_of_some _ hol, r0⟩ hne hn fun h' tk acc hk hi => ?_
    have I3 : Inv X pins σ H1 { s1 with heap := h', toks := tk } := I2.turned (t' := tk) (fun b o hb e => hk b o hb e) f0 f1 f3 f4 f5
    refine ⟨.ref h'.objs.size, upd H1 h'.objs.size (.tup xs.reverse), I3.laid (t' := tk) (fun c o e => Heap.get?_push_of_some _ e) (Nat.le_refl _) (show ObjOk X.prog X.w _ _ _ (.tup xs.reverse) from ⟨by rw [List.length_reverse]; exact hz, acc.toList, vals_rev rv hi, ?_⟩), rfl, q _ (I3.hok.fresh (Nat.le_refl _))⟩
    rw [Array.toArray_toList]
    exact IsTup.new _ _
end
end LMR
namespace LM
open PySem L2
/-- tuple(reversed(x)), x a list or a tuple -/
def vTupRevA (x : DV) : M DV := fun h => match asS h x with
  | some l => .ok (.tup l.reverse) h
  | none => .bad
theorem c_tupRevA {X : Cx} {c : Cn} {pos p1 p2 pos2 : Pos} {a : Expr} {ma : En → M DV} (hk : X.K = c.g.K) (hc : X.calm = true) (hg : Gl X "tuple") (hm : X.mg "tuple" = none) (hg2 : Gl X "reversed") (hm2 : X.mg "reversed" = none) (ha : PE X a (RB c ma)) (hs : starEach [a] X.env = (false, eval a X.env) :: starEach [] X.env := by rfl)
    (hs2 : starEach [.Call (.Name "reversed" p2) [a] [] pos2] X.env = (false, eval (.Call (.Name "reversed" p2) [a] [] pos2) X.env) :: starEach [] X.env := by rfl) :
    PE X (.Call (.Name "tuple" p1) [.Call (.Name "reversed" p2) [a] [] pos2] [] pos) (RE c (e1 vTupRevA ma)) := pe_imp (LMR.pe_tupRevA hc hg hm hg2 hm2 ha hs hs2) fun s H Q q =>
  RX.bind q fun W e W1 H1 x v h1 t S rx q2 => by
    unfold vTupRevA at q2
    cases z : asS h1 x with
    | none =>
      rw [z] at q2
      exact q2.elim
    | some l =>
      rw [z] at q2
      obtain ⟨p, vs, e1, sq, r⟩ := asS_ok S rx z
      exact ⟨p, vs, e1, hk ▸ sq, fun d hd => post_tup q2 S r.rev hd⟩
@[simp] theorem vTupRevA_tup (l : List DV) (h : HP) : vTupRevA (.tup l) h = .ok (.tup l.reverse) h := rfl
@[simp] theorem vTupRevA_lst (l : List DV) (h : HP) : vTupRevA (.lst l) h = .ok (.tup l.reverse) h := rfl
end LM

/-! Instances: what they are, their fields read and stored. -/
namespace LM
open PySem L2

/-- an instance's class and fields, frozen or not -/
def clsO (h : HP) (x : DV) : Option (Nat × List DV) := match x with
  | .obj c l => some (c, l)
  | .ref p => (match h[p]? with
    | some (.obj c l) => some (c, l)
    | _ => none)
  | _ => none
theorem obj_at {g : Glue} {W : Wd} {h : HP} {H : Hp} {o : DV} {v : V} {c : Nat} {l : List DV} (S : HSim g W h H) (r : Rep g W H o v) (e : clsO h o = some (c, l)) :
    ∃ a dx vs, v = .ref a ∧ H a = some (.ins (g.cA c) dx ((g.flds c).zip vs)) ∧ vs.length ≤ (g.flds c).length ∧ Reps g W H l vs := by
  cases o with
  | obj c' l' =>
    cases e
    simp only [Rep] at r
    obtain ⟨a, dx, vs, e1, _, e2, e3, r⟩ := r
    exact ⟨a, dx, vs, e1, e2, e3, r⟩
  | ref p =>
    simp only [Rep] at r
    obtain ⟨a, e1, e2⟩ := r
    unfold clsO at e
    simp only [] at e
    cases z : h[p]? with
    | none =>
      rw [z] at e
      cases e
    | some ob =>
      rw [z] at e
      cases ob with
      | lst l => cases e
      | obj c' l' =>
        cases e
        obtain ⟨⟨dx, vs, e3, e4, r⟩, _⟩ := S.o p _ a z e2
        exact ⟨a, dx, vs, e1, e3, e4, r⟩
  | _ => cases e
theorem zip_lookup : ∀ {L : List Str} {vs : List V} {j : Nat} {f : Str} {v : V}, L.Nodup → L[j]? = some f → vs[j]? = some v → (L.zip vs).lookup f = some v
  | [], _, _, _, _, _, e, _ => by simp at e
  | x :: L, [], _, _, _, _, _, e => by simp at e
  | x :: L, y :: vs, 0, f, v, _, e1, e2 => by
    cases e1
    cases e2
    simp [List.lookup]
  | x :: L, y :: vs, j + 1, f, v, nd, e1, e2 => by
    rw [List.nodup_cons] at nd
    have e1' : L[j]? = some f := by simpa using e1
    have ne : (f == x) = false := beq_eq_false_iff_ne.mpr fun z => nd.1 (z ▸ List.mem_of_getElem? e1')
    rw [List.zip_cons_cons]
    simp only [List.lookup, ne]
    exact zip_lookup nd.2 e1' (by simpa using e2)
theorem zip_none : ∀ {L : List Str} {vs : List V} {f : Str}, f ∉ L → (L.zip vs).lookup f = none
  | [], _, _, _ => by simp
  | x :: L, [], _, _ => by simp
  | x :: L, y :: vs, f, n => by
    have ne : (f == x) = false := beq_eq_false_iff_ne.mpr fun z => n (z ▸ List.mem_cons_self)
    rw [List.zip_cons_cons]
    simp only [List.lookup, ne]
    exact zip_none fun z => n (List.mem_cons_of_mem _ z)
theorem zip_put : ∀ {L : List Str} {vs : List V} {j : Nat} {f : Str} {v : V}, L.Nodup → L[j]? = some f → j < vs.length → putF f v (L.zip vs) = L.zip (vs.set j v)
  | [], _, _, _, _, _, e, _ => by simp at e
  | x :: L, [], _, _, _, _, _, e => by simp at e
  | x :: L, y :: vs, 0, f, v, _, e1, _ => by
    cases e1
    simp [putF]
  | x :: L, y :: vs, j + 1, f, v, nd, e1, hj => by
    rw [List.nodup_cons] at nd
    have e1' : L[j]? = some f := by simpa using e1
    have ne : ¬ x = f := fun z => nd.1 (z ▸ List.mem_of_getElem? e1')
    rw [List.zip_cons_cons, List.set_cons_succ, List.zip_cons_cons]
    show (if x = f then (x, v) :: L.zip vs else (x, y) :: putF f v (L.zip vs)) = _
    rw [if_neg ne, zip_put nd.2 e1' (by simpa using hj)]

/-- what is known of class c's field f, number j -/
structure FldOk (T : Tp) (f : Str) (c j : Nat) : Prop where
  cl : Cls T.g.K (T.g.cA c)
  na : NoAttr T.g.K (T.g.cA c) f
  nd : (T.g.flds c).Nodup
  at_ : (T.g.flds c)[j]? = some f
  few : (T.g.flds c).length < 900
def FldL (T : Tp) (f : Str) (tab : List (Nat × Nat)) : Prop := ∀ c j, (c, j) ∈ tab → FldOk T f c j
theorem fldL_nil {T : Tp} {f : Str} : FldL T f [] := fun _ _ h => by cases h
theorem fldL_cons {T : Tp} {f : Str} {c j : Nat} {tab : List (Nat × Nat)} (a : FldOk T f c j) (b : FldL T f tab) : FldL T f ((c, j) :: tab) := fun c' j' h => by
  rcases List.mem_cons.mp h with e | e
  · cases e
    exact a
  · exact b _ _ e
theorem mem_of_lookup2 : ∀ {l : List (Nat × Nat)} {c j : Nat}, l.lookup c = some j → (c, j) ∈ l
  | [], _, _, e => by cases e
  | (a, b) :: r, c, j, e => by
    by_cases h : c = a
    · subst h
      simp [List.lookup] at e
      subst e
      exact List.mem_cons_self
    · have ne : (c == a) = false := beq_eq_false_iff_ne.mpr h
      simp only [List.lookup, ne] at e
      exact List.mem_cons_of_mem _ (mem_of_lookup2 e)
/-- e.f -/
def fldO (tab : List (Nat × Nat)) (o : Option (Nat × List DV)) : Option DV := match o with
  | some (c, l) => (match tab.lookup c with
    | some j => l[j]?
    | none => none)
  | none => none
def vFld (tab : List (Nat × Nat)) (x : DV) : M DV := fun h => match fldO tab (clsO h x) with
  | some d => .ok d h
  | none => .bad
section
variable {T : Tp} {X : Cx} {c : Cn} {N : List Str} {k : Nat} {sc : Scope} {pos pos' : Pos} {ex o : Expr} {f : Str} {tab : List (Nat × Nat)} {ma mo mv : En → M DV}
theorem c_fld (hX : XEx T X c N k sc) (F : FldL T f tab) (ha : PE X ex (RE c ma)) (hb : attributeBase ex f X.env (eval ex X.env) = eval ex X.env := by rfl) : PE X (.Attribute ex f pos) (RE c (e1 (vFld tab) ma)) := pe_imp (pe_fld ha hb) fun s H Q q => by
  refine RX.bind q fun W e W1 H1 o v h1 t S r q2 => ?_
  unfold vFld at q2
  cases z : clsO h1 o with
  | none =>
    rw [z] at q2
    exact q2.elim
  | some y =>
    obtain ⟨ci, l⟩ := y
    rw [z] at q2
    unfold fldO at q2
    simp only [] at q2
    cases z2 : tab.lookup ci with
    | none =>
      rw [z2] at q2
      exact q2.elim
    | some j =>
      rw [z2] at q2
      simp only [] at q2
      cases z3 : l[j]? with
      | none =>
        rw [z3] at q2
        exact q2.elim
      | some d =>
        rw [z3] at q2
        obtain ⟨a, dx, vs, e1, e2, e3, rs⟩ := obj_at S.hs r z
        obtain ⟨u, eu, ru⟩ := rs.get z3
        have fo := F ci j (mem_of_lookup2 z2)
        rw [hX.pg] at e2
        refine ⟨a, _, dx, _, u, e1, e2, by rw [hX.pk]; exact fo.cl, by rw [hX.pk]; exact fo.na, zip_lookup fo.nd fo.at_ eu, q2.ret S ru⟩
/-! ### o.f = e, o an object that is not frozen -/
def setF (tab : List (Nat × Nat)) (h : HP) (o d : DV) : Option HP := match o with
  | .ref p => (match h[p]? with
    | some (.obj c l) => (match tab.lookup c with
      | some j => if j < l.length then some (h.set p (.obj c (l.set j d))) else none
      | none => none)
    | _ => none)
  | _ => none
def sSetF (tab : List (Nat × Nat)) (mv mo : En → M DV) : Stm := sBind mv fun d => sBind mo fun o e h => hNx (setF tab h o d) e
theorem s_setF (hX : XEx T X c N k sc) (F : FldL T f tab) (ho : PE X o (RE c mo)) (hv : PE X ex (RE c mv)) (hs : swapsWith ex (some (.Attribute o f pos')) pos.line X.env = pure false := by rfl) : PS X (.Assign [.Attribute o f pos'] ex pos) (RS c (sSetF tab mv mo)) :=
  ps_imp (ps_fld ho hv hs) fun D s H q => by
    refine sb_use q fun W e W1 H1 d v h1 t S r q1 => ?_
    refine ⟨W1, e, h1, S, sb_at (R := rV c) S q1 fun W2 H2 od w h2 t2 S2 ro q2 => ?_⟩
    unfold setF at q2
    cases od with
    | ref p =>
      simp only [] at q2
      cases z : h2[p]? with
      | none =>
        rw [z] at q2
        exact q2.elim
      | some ob =>
        rw [z] at q2
        cases ob with
        | lst l => exact q2.elim
        | obj ci l =>
          simp only [] at q2
          cases z2 : tab.lookup ci with
          | none =>
            rw [z2] at q2
            exact q2.elim
          | some j =>
            rw [z2] at q2
            simp only [] at q2
            by_cases hj : j < l.length
            rotate_left
            · rw [if_neg hj] at q2
              exact q2.elim
            rw [if_pos hj] at q2
            simp only [Rep] at ro
            obtain ⟨a, ea, er⟩ := ro
            obtain ⟨⟨dx, vs, e3, e4, rs⟩, nf⟩ := S2.hs.o p _ a z er
            have fo := F ci j (mem_of_lookup2 z2)
            have hlen := rs.len
            have e3' := e3
            rw [hX.pg] at e3'
            have fl : ((T.g.flds ci).zip vs).length < 1000 := by
              rw [List.length_zip]
              have := fo.few
              omega
            refine ⟨a, _, dx, _, ea, e3', by rw [hX.pk]; exact fo.cl, by rw [hX.pk]; exact fo.na, fl, ?_⟩
            rw [zip_put fo.nd fo.at_ (by omega)]
            have r2 : Rep c.g W2 H2 d v := r.per (t2.per S.hs) _ _
            obtain ⟨st, hs⟩ := S2.hs.write (o' := .obj ci (l.set j d)) (u' := .ins (c.g.cA ci) dx ((c.g.flds ci).zip (vs.set j v))) z er e3 fun pr => ⟨dx, vs.set j v, upd_same, by rw [List.length_set]; exact e4, (rs.per pr _ _).set (Rep.per pr _ _ r2) j⟩
            have q3 : PostS c W2 H2 (.nx e (h2.set p (.obj ci (l.set j d)))) D := q2
            rw [← hX.pg]
            exact (q3.later (st.per S2.hs)).nx (S2.step st hs)
    | _ => exact q2.elim
end
end LM

/-! Methods called. -/
namespace LM
open PySem L2

/-- what is known of class c's method m; n: its parameters, self among them -/
structure MethOk (T : Tp) (m : Str) (c k n : Nat) (f : List DV → M DV) : Prop where
  cl : Cls T.g.K (T.g.cA c)
  nf : m ∉ T.g.flds c
  ex : ∃ a fd ps, Meth T.g.K (T.g.cA c) m a ∧ Binds T.g.K fd ps [] ∧ FnOk T.P T.w T.g.K T.mg T.base (L2N.CX T.P T.w) k a fd ps (spF T.g n f)
theorem MethOk.mono {T : Tp} {m : Str} {c j k n : Nat} {f : List DV → M DV} (F : MethOk T m c j n f) (h : j ≤ k) : MethOk T m c k n f := by
  obtain ⟨a, fd, ps, e, b, f⟩ := F.ex
  exact ⟨F.cl, F.nf, a, fd, ps, e, b, f.mono h⟩
def MoL (T : Tp) (m : Str) (k n : Nat) (ms : Fns) : Prop := ∀ c f, (c, f) ∈ ms → MethOk T m c k n f
theorem moL_nil {T : Tp} {m : Str} {k n : Nat} : MoL T m k n [] := fun _ _ h => by cases h
theorem moL_cons {T : Tp} {m : Str} {j k n c : Nat} {f : List DV → M DV} {ms : Fns} (F : MethOk T m c j n f) (hj : j ≤ k) (L : MoL T m k n ms) : MoL T m k n ((c, f) :: ms) := fun c' f' h => by
  rcases List.mem_cons.mp h with e | e
  · cases e
    exact F.mono hj
  · exact L _ _ e
def mthO (ms : Fns) (h : HP) (o : DV) : Option (List DV → M DV) := match clsO h o with
  | some (c, _) => ms.lookup c
  | none => none
def orM (f : Option (List DV → M DV)) (o : DV) (ma : M (List DV)) : M DV := match f with
  | some m => ma >>= fun l => m (o :: l)
  | none => M.bad
/-- o.m(e, ..) -/
def eMeth (ms : Fns) (mo : En → M DV) (ma : En → M (List DV)) : En → M DV := fun e => mo e >>= fun o h => orM (mthO ms h o) o (ma e) h
section
variable {T : Tp} {X : Cx} {c : Cn} {N : List Str} {k : Nat} {sc : Scope} {pos apos : Pos} {ex o : Expr} {es : List Expr} {m : Str} {n : Nat} {ms : Fns} {mo : En → M DV} {ma : En → M (List DV)}
theorem meth_args {W1 : Wd} {e : En} {h1 : HP} {s : L2.St} {H1 : Hp} {od : DV} {v : V} {f : List DV → M DV} {Q : VK} (S : Sim c W1 e h1 s H1) (ro : Rep c.g W1 H1 od v) (q : Post c (rV c H1) e s W1 H1 ((ma e >>= fun l => f (od :: l)) h1) Q) :
    RX c (rVs c n) ma s H1 fun vs H2 => spF c.g (n + 1) f ((v :: vs) ++ []) H2 Q (WE c.x s) :=
  ⟨W1, e, h1, S, q.bind fun W2 H2 ds vs h2 t2 S2 r q3 => by
    rw [List.append_nil]
    refine ⟨W2, h2, od :: ds, S2.hs, Reps.cons (ro.per (t2.per S.hs) _ _) r.1, by rw [List.length_cons, r.2], ?_⟩
    generalize f (od :: ds) h2 = z at q3 ⊢
    cases z with
    | ok d h' => exact fun W' H' u t' hs' r' => q3 W' H' u t' (S2.step t' hs') r'
    | exc x h' => exact fun W' H' cls dd t' hs' r' => q3 W' H' cls dd t' (S2.step t' hs') r'
    | bad => exact q3⟩
theorem meth_use {s : L2.St} {H : Hp} {Q : VK} (hX : XEx T X c N k sc) (L : MoL T m k (n + 1) ms) (q : RE c (eMeth ms mo ma) s H Q) : RX c (rV c) mo s H fun y H1 => ∃ a C dx fs g fd ps f, y = V.ref a ∧ H1 a = some (.ins C dx fs) ∧ Cls X.K C ∧ Meth X.K C m g ∧ fs.lookup m = none ∧ Binds X.K fd ps [] ∧
    FnOk X.prog X.w X.K X.mg X.base (L2N.CX X.prog X.w) k g fd ps (spF c.g (n + 1) f) ∧ RX c (rVs c n) ma s H1 fun vs H2 => spF c.g (n + 1) f ((y :: vs) ++ []) H2 Q (WE c.x s) := by
  refine RX.bind (k := fun e o h => orM (mthO ms h o) o (ma e) h) q fun W e W1 H1 od v h1 t S r q2 => ?_
  unfold orM mthO at q2
  cases z : clsO h1 od with
  | none =>
    rw [z] at q2
    exact q2.elim
  | some y =>
    obtain ⟨ci, l⟩ := y
    rw [z] at q2
    simp only [] at q2
    cases z2 : ms.lookup ci with
    | none =>
      rw [z2] at q2
      exact q2.elim
    | some f =>
      rw [z2] at q2
      obtain ⟨a, dx, vs, e1, e2, e3, rs⟩ := obj_at S.hs r z
      have fo := L ci f (mem_of_lookupN z2)
      obtain ⟨g, fd, ps, em, b, fo2⟩ := fo.ex
      rw [hX.pg] at e2
      refine ⟨a, _, dx, _, g, fd, ps, f, e1, e2, by rw [hX.pk]; exact fo.cl, by rw [hX.pk]; exact em, zip_none fo.nf, by rw [hX.pk]; exact b, by rw [hX.pp, hX.pw, hX.pk, hX.pm, hX.pb, hX.pg]; exact fo2, meth_args S r q2⟩
theorem c_meth {pl : Sem Bool} (hX : XEx T X c N k sc) (L : MoL T m k (n + 1) ms) (ho : PE X o (RE c mo)) (ha : PA X (ex :: es) (RA c n ma))
    (hst : starEach (ex :: es) X.env = (false, eval ex X.env) :: starEach es X.env := by rfl) (hpl : (backTo pos (starEach es X.env)).any (·.1) = false := by rfl)
    (ht : eval (.Call (.Attribute o m apos) (ex :: es) [] pos) X.env = (do
      let ov ← eval o X.env
      standAt apos.atName
      let (f, first) ← holding [ov] (getMethod ov m pl)
      callWith pos f first (backTo pos (starEach (ex :: es) X.env)) (backToKw pos (keywordEach [] X.env))) := by rfl) :
    PE X (.Call (.Attribute o m apos) (ex :: es) [] pos) (RE c (eMeth ms mo ma)) := by
  refine ⟨fun pins s σ H Q I q => ?_⟩
  refine PySem.W.methodCall_KW (pl := pl) (thn (ho.run pins s σ H _ I (meth_use (n := n) hX L q)) fun u s1 ⟨y, H1, I1, ry, a, C, dx, fs, g, fd, ps, f, ey, ea, cl, em, lk, b, fo, q2⟩ => ?_) ht
  subst ey
  obtain rfl : u = Value.ref a := ry
  refine getmeth_ok I1 ea cl em lk ?_
  refine PySem.W.callWith_K (first := [.ref a]) (h₀ := X.base) I.ok.mod.kin em.kp (thn (ha.run pos pins s1 σ H1 _ I1 q2) fun us s2 ⟨vs, H2, I2, r, q3⟩ => ⟨I2.kIn, ?_⟩) hst hpl
  exact run_fnSD (us := .ref a :: us) (vs := .ref a :: vs) fo hX.room b .nil (L2N.passAt hX.tk σ) I2 (.cons rfl r) q3
theorem c_meth0 {pl : Sem Bool} (hX : XEx T X c N k sc) (L : MoL T m k 1 ms) (ho : PE X o (RE c mo))
    (ht : eval (.Call (.Attribute o m apos) [] [] pos) X.env = (do
      let ov ← eval o X.env
      standAt apos.atName
      let (f, first) ← holding [ov] (getMethod ov m pl)
      callWith pos f first (backTo pos (starEach [] X.env)) (backToKw pos (keywordEach [] X.env))) := by rfl) :
    PE X (.Call (.Attribute o m apos) [] [] pos) (RE c (eMeth ms mo aNil)) := by
  refine ⟨fun pins s σ H Q I q => ?_⟩
  refine PySem.W.methodCall_KW (pl := pl) (thn (ho.run pins s σ H _ I (meth_use (n := 0) hX L q)) fun u s1 ⟨y, H1, I1, ry, a, C, dx, fs, g, fd, ps, f, ey, ea, cl, em, lk, b, fo, q2⟩ => ?_) ht
  subst ey
  obtain rfl : u = Value.ref a := ry
  refine getmeth_ok I1 ea cl em lk ?_
  have q3 : spF c.g 1 f ([V.ref a] ++ []) H1 Q (WE c.x σ) := by
    have pn : PA X [] (RA c 0 aNil) := c_nil
    obtain ⟨W, e, h, S, q4⟩ := q2
    exact q4 W H1 [] (Step.refl _ _) S ⟨.nil, rfl⟩
  exact PySem.W.callWith_K0 (first := [.ref a]) I1.kIn em.kp (run_fnSD (us := [.ref a]) (vs := [.ref a]) fo hX.room b .nil (L2N.passAt hX.tk σ) I1 (.cons rfl .nil) q3)
end
@[simp] theorem eMeth_app (ms : Fns) (mo : En → M DV) (ma : En → M (List DV)) (e : En) (h : HP) : eMeth ms mo ma e h = bR (mo e h) fun o h => orM (mthO ms h o) o (ma e) h := rfl
theorem orM_some (m : List DV → M DV) (o : DV) (ma : M (List DV)) (h : HP) : orM (some m) o ma h = bR (ma h) fun l h => m (o :: l) h := rfl
theorem mthO_obj (ms : Fns) (h : HP) (c : Nat) (l : List DV) : LM.mthO ms h (.obj c l) = ms.lookup c := rfl
end LM

/-! Instances made: __init__. -/
namespace LM
open PySem L2

/-- self, under construction at a -/
structure CSelf (c : Cn) (a C dx : Addr) (fs : List (Str × V)) : Prop where
  cur : c.cur = some (a, .ref (c.g.cA 0), none)
  at_ : c.H0 a = some (.ins C dx fs)
  nr : a ∉ c.W0.r
  nf : ¬ c.W0.F a
section
variable {c : Cn} {a C dx : Addr} {fs : List (Str × V)} {W : Wd} {e : En} {h : HP} {s : L2.St} {H : Hp}
theorem CSelf.now (K : CSelf c a C dx fs) (S : Sim c W e h s H) : H a = some (.ins C dx fs) ∧ a ∉ W.r ∧ ¬ W.F a := by
  refine ⟨S.st.k a _ K.at_ K.nr, fun m => ?_, fun f => ?_⟩
  · rcases S.st.nr a m with q | q
    · exact K.nr q
    · rw [K.at_] at q
      cases q
  · rcases S.st.nf a f with q | q | ⟨_, _, q⟩
    · exact K.nf q
    · rw [K.at_] at q
      cases q
    · rw [K.at_] at q
      cases q
/-- self's fields are others -/
theorem self_per {fs' : List (Str × V)} (ha : H a = some (.ins C dx fs)) (nf : ¬ W.F a) : Per W H W (upd H a (.ins C dx fs')) := by
  have ne : ∀ b u, H b = some u → (∀ C x fs, u ≠ .ins C x fs) → b ≠ a := fun b u eb nu z => by
    rw [z, ha] at eb
    cases eb
    exact nu _ _ _ rfl
  exact ⟨fun _ f => f, fun _ _ e => e, fun b fb => by rw [upd_ne (show b ≠ a from fun z => nf (z ▸ fb))], fun b xs eb => by
    rw [upd_ne (ne b _ eb fun _ _ _ z => by cases z)]
    exact eb, fun b o u eb => by
    rw [upd_ne (ne b _ eb fun _ _ _ z => by cases z)]
    exact eb⟩
theorem self_hs {g : Glue} {fs' : List (Str × V)} (S : HSim g W h H) (ha : H a = some (.ins C dx fs)) (nf : ¬ W.F a) (nr : a ∉ W.r) : HSim g W h (upd H a (.ins C dx fs')) := by
  have pr := self_per (fs' := fs') ha nf
  refine ⟨S.len, S.nd, fun p o b e1 e2 => ?_, fun b fb => ?_⟩
  · obtain ⟨r, n⟩ := S.o p o b e1 e2
    have hne : b ≠ a := fun z => nr (z ▸ List.mem_of_getElem? e2)
    refine ⟨?_, n⟩
    cases o with
    | lst l =>
      obtain ⟨vs, e3, r3⟩ := r
      exact ⟨vs, by rw [upd_ne hne]; exact e3, r3.per pr _ _⟩
    | obj k l =>
      obtain ⟨dx, vs, e3, e4, r3⟩ := r
      exact ⟨dx, vs, by rw [upd_ne hne]; exact e3, e4, r3.per pr _ _⟩
  · obtain ⟨w, q⟩ := S.fs b fb
    exact ⟨w, by rw [upd_ne (show b ≠ a from fun z => nf (z ▸ fb))]; exact q⟩
theorem Sim.reself (K : CSelf c a C dx fs) (S : Sim c W e h s H) (fs' : List (Str × V)) : Sim { c with H0 := upd c.H0 a (.ins C dx fs') } W e h s (upd H a (.ins C dx fs')) ∧ CSelf { c with H0 := upd c.H0 a (.ins C dx fs') } a C dx fs' := by
  obtain ⟨ha, nr, nf⟩ := K.now S
  have pr := self_per (fs' := fs') ha nf
  have hnone : ∀ b, c.H0 b = none → (upd c.H0 a (.ins C dx fs')) b = none := fun b q => by
    rw [upd_ne (ne_of_none K.at_ q).symm]
    exact q
  refine ⟨⟨self_hs S.hs ha nf nr, ?_, S.len, fun i d e1 => ?_, fun i l e1 => ?_, fun i ks l e1 => ?_, S.ne, fun i x e1 => ?_⟩, K.cur, upd_same, K.nr, K.nf⟩
  · refine ⟨S.st.f, S.st.r, fun b o q n => ?_, fun b q => ?_, fun b f => ?_, fun b m => ?_⟩
    · by_cases z : b = a
      · subst z
        have q : (upd c.H0 b (.ins C dx fs')) b = some o := q
        rw [upd_same] at q ⊢
        exact q
      · have q : (upd c.H0 a (.ins C dx fs')) b = some o := q
        rw [upd_ne z] at q ⊢
        exact S.st.k b o q n
    · show (upd c.H0 a (.ins C dx fs')) b = none
      by_cases z : b = a
      · rw [z, upd_same] at q
        cases q
      · rw [upd_ne z] at q ⊢
        exact S.st.th b q
    · rcases S.st.nf b f with q | q | ⟨q1, fs2, q2⟩
      · exact .inl q
      · exact .inr (.inl (hnone b q))
      · refine .inr (.inr ⟨q1, fs2, ?_⟩)
        show (upd c.H0 a (.ins C dx fs')) b = _
        rw [upd_ne fun z => by
          rw [z, K.at_] at q2
          cases q2]
        exact q2
    · rcases S.st.nr b m with q | q
      · exact .inl q
      · exact .inr (hnone b q)
  · obtain ⟨v, e2, r⟩ := S.val i d e1
    exact ⟨v, e2, r.per pr _ _⟩
  · obtain ⟨b, vs, e2, e3, r, n1, n2, n3⟩ := S.own i l e1
    exact ⟨b, vs, e2, by
      rw [upd_ne fun z => by
        rw [z, ha] at e3
        cases e3]
      exact e3, r.per pr _ _, n1, n2, hnone b n3⟩
  · obtain ⟨b, vs, e2, e3, l1, r, n1, n2, n3⟩ := S.dic i ks l e1
    exact ⟨b, vs, e2, by
      rw [upd_ne fun z => by
        rw [z, ha] at e3
        cases e3]
      exact e3, l1, r.per pr _ _, n1, n2, hnone b n3⟩
  · obtain ⟨b, cls, dd, e2, e3, r⟩ := S.exn i x e1
    exact ⟨b, cls, dd, e2, e3, r.per pr⟩
end
theorem putF_new : ∀ {f : Str} {v : V} {fs : List (Str × V)}, fs.lookup f = none → putF f v fs = fs ++ [(f, v)]
  | _, _, [], _ => rfl
  | f, v, (g, x) :: r, e => by
    by_cases z : f = g
    · subst z
      simp [List.lookup] at e
    · have ne : (f == g) = false := beq_eq_false_iff_ne.mpr z
      simp only [List.lookup, ne] at e
      show (if g = f then (g, v) :: r else (g, x) :: putF f v r) = _
      rw [if_neg fun y => z y.symm, putF_new e]
      rfl
theorem lookup_new : ∀ {f g : Str} {v : V} {fs : List (Str × V)}, fs.lookup f = none → f ≠ g → (fs ++ [(g, v)]).lookup f = none
  | f, g, v, [], _, n => by
    have ne : (f == g) = false := beq_eq_false_iff_ne.mpr n
    simp [List.lookup, ne]
  | f, g, v, (k, x) :: r, e, n => by
    by_cases z : f = k
    · subst z
      simp [List.lookup] at e
    · have ne : (f == k) = false := beq_eq_false_iff_ne.mpr z
      rw [List.cons_append]
      simp only [List.lookup, ne] at e ⊢
      exact lookup_new e n

/-- the names may be made fields of an instance of the class at C -/
structure MayF (K : PySem.W.Frag) (C : Addr) (fs : List (Str × V)) (names : List Str) : Prop where
  cl : Cls K C
  na : ∀ f ∈ names, NoAttr K C f ∧ fs.lookup f = none
  nd : names.Nodup
  few : fs.length + names.length ≤ 900
def PostI (c c0 : Cn) (W : Wd) (H : Hp) (a C dx : Addr) (fs : List (Str × V)) (names : List Str) (l : List DV) (h' : HP) (D : Ends) : Prop :=
  ∀ W' s' H' us, Step c.W0 (upd c.H0 a (.ins C dx (fs ++ names.zip us))) W' H' → Per W H W' H' → HSim c0.g W' h' H' → Reps c0.g W' H' l us → H' a = some (.ins C dx (fs ++ names.zip us)) → us.length = names.length → D.nx s' H'
/-- the tail of an __init__: self.f = e, .. -/
def RIt (c0 : Cn) (names : List Str) (m : En → M (List DV)) : TS := fun D s H => ∃ c W e h a C dx fs, c.g = c0.g ∧ c.x = c0.x ∧ Sim c W e h s H ∧ CSelf c a C dx fs ∧ MayF c0.g.K C fs names ∧ (match m e h with
  | .ok l h' => PostI c c0 W H a C dx fs names l h' D
  | _ => False)
def isSelf (e : En) : Bool := match (e[0]? : Option Slot) with
  | some (.exn _) => true
  | _ => false
theorem self_at {c : Cn} {a C dx : Addr} {fs : List (Str × V)} {W : Wd} {e : En} {h : HP} {s : L2.St} {H : Hp} (K : CSelf c a C dx fs) (S : Sim c W e h s H) (q : isSelf e = true) : s[0]? = some (some (.ref a)) := by
  unfold isSelf at q
  split at q
  · rename_i x z
    obtain ⟨b, cls, dd, e2, e3, _⟩ := S.exn 0 x z
    rw [K.cur] at e2
    cases e2
    exact e3
  · cases q
def iNil : En → M (List DV) := fun _ h => .ok [] h
def iSet (m : En → M DV) (r : En → M (List DV)) : En → M (List DV) := fun e h => if isSelf e = true then (match m e h with
  | .ok d h1 => (match r e h1 with
    | .ok ds h2 => .ok (d :: ds) h2
    | _ => .bad)
  | _ => .bad) else .bad
section
variable {X : Cx} {c : Cn}
theorem pe_ex {ex : Expr} {m : En → M DV} (he : ∀ c', c'.g = c.g → c'.x = c.x → PE X ex (RE c' m)) : PE X ex (fun s H Q => ∃ c', c'.g = c.g ∧ c'.x = c.x ∧ RE c' m s H Q) := ⟨fun pins s σ H Q I ⟨c', h1, h2, q⟩ => (he c' h1 h2).run pins s σ H Q I q⟩
theorem i_nil : PSs X [] (RIt c [] iNil) := pss_imp pss_nil fun D s H q => by
  obtain ⟨c1, W, e, h, a, C, dx, fs, eg, ex, S, K, F, q⟩ := q
  obtain ⟨ha, _, _⟩ := K.now S
  have es : upd c1.H0 a (.ins C dx (fs ++ ([] : List Str).zip ([] : List V))) = c1.H0 := by
    funext b
    by_cases z : b = a
    · rw [z, upd_same, K.at_]
      simp
    · rw [upd_ne z]
  have q : PostI c1 c W H a C dx fs [] [] h D := q
  exact q W s H [] (by rw [es]; exact S.st) (Per.refl _ _) (by rw [← eg]; exact S.hs) .nil (by rw [ha]; simp) rfl
theorem i_set {f : Str} {p0 p1 pos : Pos} {ex : Expr} {rest : List Stmt} {names : List Str} {me : En → M DV} {mr : En → M (List DV)} (hk : X.K = c.g.K) (hN : X.N[0]? = some ("self" : Str)) (hv : Vis X.env.scope "self") (he : ∀ c', c'.g = c.g → c'.x = c.x → PE X ex (RE c' me)) (hr : PSs X rest (RIt c names mr))
    (hs : swapsWith ex (some (.Attribute (.Name "self" p0) f p1)) pos.line X.env = pure false := by rfl) : PSs X (.Assign [.Attribute (.Name "self" p0) f p1] ex pos :: rest) (RIt c (f :: names) (iSet me mr)) :=
  pss_imp (pss_cons (ps_fld (pe_var (i := 0) hN hv) (pe_ex he) hs) hr) fun D s H q => by
    obtain ⟨c1, W, e, h, a, C, dx, fs, eg, ex, S, K, F, q⟩ := q
    unfold iSet at q
    by_cases sf : isSelf e = true
    rotate_left
    · rw [if_neg sf] at q
      exact q.elim
    rw [if_pos sf] at q
    refine ⟨c1, eg, ex, W, e, h, S, ?_⟩
    cases z : me e h with
    | bad =>
      rw [z] at q
      exact q.elim
    | exc x h1 =>
      rw [z] at q
      exact q.elim
    | ok d h1 =>
      rw [z] at q
      simp only [] at q
      intro W1 H1 v t S1 r
      obtain ⟨ha, nr, nf⟩ := K.now S1
      obtain ⟨na, nl⟩ := F.na f List.mem_cons_self
      have few := F.few
      rw [List.length_cons] at few
      obtain ⟨nd1, nd2⟩ := List.nodup_cons.mp F.nd
      refine ⟨_, self_at K S1 sf, a, C, dx, fs, rfl, ha, by rw [hk]; exact F.cl, by rw [hk]; exact na, by omega, ?_⟩
      rw [putF_new nl]
      obtain ⟨S2, K2⟩ := S1.reself K (fs ++ [(f, v)])
      refine ⟨{ c1 with H0 := upd c1.H0 a (.ins C dx (fs ++ [(f, v)])) }, W1, e, h1, a, C, dx, fs ++ [(f, v)], eg, ex, S2, K2, ⟨F.cl, fun g hg => ⟨(F.na g (List.mem_cons_of_mem _ hg)).1, lookup_new (F.na g (List.mem_cons_of_mem _ hg)).2 fun (y : g = f) => nd1 (y ▸ hg)⟩, nd2, by rw [List.length_append, List.length_singleton]; omega⟩, ?_⟩
      cases z2 : mr e h1 with
      | bad =>
        rw [z2] at q
        exact q.elim
      | exc x h2 =>
        rw [z2] at q
        exact q.elim
      | ok ds h2 =>
        rw [z2] at q
        have q : PostI c1 c W H a C dx fs (f :: names) (d :: ds) h2 D := q
        intro W' s' H' us st pr hs' rs ea el
        have p1 : Per W1 H1 W' H' := (self_per ha nf).trans pr
        have ez : fs ++ (f :: names).zip (v :: us) = (fs ++ [(f, v)]) ++ names.zip us := by simp
        refine q W' s' H' (v :: us) ?_ ((t.per S.hs).trans p1) hs' (.cons (by rw [← eg]; exact r.per p1 _ _) rs) (by rw [ez]; exact ea) (by rw [List.length_cons, List.length_cons, el])
        rw [ez]
        have st : Step c1.W0 (upd (upd c1.H0 a (.ins C dx (fs ++ [(f, v)]))) a (.ins C dx ((fs ++ [(f, v)]) ++ names.zip us))) W' H' := st
        rw [upd_upd] at st
        exact st
/-! ### the whole body -/
def RII (c : Cn) (names : List Str) (m : En → M (List DV)) : TS := fun D s H => ∃ W e h a C dx fs, Sim c W e h s H ∧ CSelf c a C dx fs ∧ MayF c.g.K C fs names ∧ (match m e h with
  | .ok l h' => PostI c c W H a C dx fs names l h' D
  | .exc x h' => ∀ W' e' s' H' cls dd, Per W H W' H' → Sim c W' e' h' s' H' → XRep c.g W' H' x cls dd → c.x cls dd s' H'
  | .bad => False)
def iTail (m : En → M (List DV)) : En → M (List DV) := fun e h => match m e h with
  | .ok l h' => .ok l h'
  | _ => .bad
def iSeq (a : Stm) (m : En → M (List DV)) : En → M (List DV) := fun e h => match a e h with
  | .nx e' h' => m e' h'
  | .exc x _ h' => .exc x h'
  | _ => .bad
theorem i_tail {b : List Stmt} {names : List Str} {m : En → M (List DV)} (h : PSs X b (RIt c names m)) : PSs X b (RII c names (iTail m)) := pss_imp h fun D s H q => by
  obtain ⟨W, e, h, a, C, dx, fs, S, K, F, q⟩ := q
  refine ⟨c, W, e, h, a, C, dx, fs, rfl, rfl, S, K, F, ?_⟩
  unfold iTail at q
  cases z : m e h with
  | ok l h' =>
    rw [z] at q
    exact q
  | exc x h' =>
    rw [z] at q
    exact q.elim
  | bad =>
    rw [z] at q
    exact q.elim
theorem i_cons {st : Stmt} {b : List Stmt} {names : List Str} {a0 : Stm} {m : En → M (List DV)} (h1 : PS X st (RS c a0)) (h2 : PSs X b (RII c names m)) : PSs X (st :: b) (RII c names (iSeq a0 m)) := pss_imp (pss_cons h1 h2) fun D s H q => by
  obtain ⟨W, e, h, a, C, dx, fs, S, K, F, q⟩ := q
  refine ⟨W, e, h, S, ?_⟩
  unfold iSeq at q
  cases z : a0 e h with
  | nx e' h' =>
    rw [z] at q
    dsimp only at q
    intro W' s' H' p S'
    refine ⟨W', e', h', a, C, dx, fs, S', K, F, ?_⟩
    cases z2 : m e' h' with
    | bad =>
      rw [z2] at q
      exact q.elim
    | ok l h2 =>
      rw [z2] at q
      have q : PostI c c W H a C dx fs names l h2 D := q
      exact fun W2 s2 H2 us st pr => q W2 s2 H2 us st (p.trans pr)
    | exc x h2 =>
      rw [z2] at q
      exact fun W2 e2 s2 H2 cls dd pr => q W2 e2 s2 H2 cls dd (p.trans pr)
  | exc x e' h' =>
    rw [z] at q
    exact fun W' s' H' cls dd p S' r => q W' e' s' H' cls dd p S' r
  | rt d h' =>
    rw [z] at q
    exact q.elim
  | bk e' h' =>
    rw [z] at q
    exact q.elim
  | ct e' h' =>
    rw [z] at q
    exact q.elim
  | bad =>
    rw [z] at q
    exact q.elim
end
/-! ### the promise -/
def spI (g : Glue) (names : List Str) (n : Nat) (m : List DV → M (List DV)) : Sp := fun vs H Q E => ∃ W h ds a C dx fs ws, vs = .ref a :: ws ∧ HSim g W h H ∧ Reps g W H ds ws ∧ ds.length = n ∧ H a = some (.ins C dx fs) ∧ a ∉ W.r ∧ ¬ W.F a ∧ MayF g.K C fs names ∧ (match m ds h with
  | .ok l h' => ∀ W' H' us, Step W (upd H a (.ins C dx (fs ++ names.zip us))) W' H' → HSim g W' h' H' → Reps g W' H' l us → H' a = some (.ins C dx (fs ++ names.zip us)) → us.length = names.length → Q .non H'
  | .exc x h' => ∀ W' H' cls dd, Step W H W' H' → HSim g W' h' H' → XRep g W' H' x cls dd → E cls dd H'
  | .bad => False)
def fnI (N : Nat) (m : En → M (List DV)) : List DV → M (List DV) := fun ds h => m (.exn ⟨0, []⟩ :: (ds.map .val ++ List.replicate (N - (ds.length + 1)) .none)) h
theorem sim_startI {g : Glue} {W : Wd} {h : HP} {H : Hp} {ds : List DV} {ws : List V} {N : List Str} {x : WX} {a : Addr} (hs : HSim g W h H) (r : Reps g W H ds ws) :
    Sim ⟨g, W, H, x, some (a, .ref (g.cA 0), none)⟩ W (.exn ⟨0, []⟩ :: (ds.map .val ++ List.replicate (N.length - (ds.length + 1)) .none)) h (L2.start N (.ref a :: ws)) H := by
  have rest : ∀ (i : Nat) (y : Slot), (ds.map Slot.val ++ List.replicate (N.length - (ds.length + 1)) Slot.none)[i]? = some y → y.isOwn = false ∧ (∀ x, y ≠ .exn x) ∧ ∀ d, y = .val d → ds[i]? = some d := fun i y e => by
    rw [List.getElem?_append] at e
    split at e
    · rw [List.getElem?_map] at e
      cases z : ds[i]? with
      | none =>
        rw [z] at e
        cases e
      | some d =>
        rw [z] at e
        cases e
        exact ⟨rfl, fun x z => (by cases z), fun d z => (by cases z; rfl)⟩
    · rw [List.getElem?_replicate] at e
      split at e
      · cases e
        exact ⟨rfl, fun x z => (by cases z), fun d z => (by cases z)⟩
      · cases e
  have own0 : ∀ (i : Nat) (y : Slot), (Slot.exn ⟨0, []⟩ :: (ds.map Slot.val ++ List.replicate (N.length - (ds.length + 1)) Slot.none))[i]? = some y → y.isOwn = false := fun i y e => by
    cases i with
    | zero =>
      cases e
      rfl
    | succ i => exact (rest i y (by simpa using e)).1
  refine ⟨hs, Step.refl _ _, ?_, fun i d e => ?_, fun i l e => ?_, fun i ks l e => ?_, fun i j b y z e1 o1 => ?_, fun i x e => ?_⟩
  · unfold L2.start
    simp only [List.length_cons, List.length_append, List.length_map, List.length_replicate, r.len]
    omega
  · cases i with
    | zero => cases e
    | succ i =>
      have q := (rest i _ (by simpa using e)).2.2 d rfl
      obtain ⟨v, e2, rv⟩ := r.get q
      refine ⟨v, ?_, rv⟩
      unfold L2.start
      rw [List.map_cons, List.cons_append, List.getElem?_cons_succ, List.getElem?_append_left (by rw [List.length_map]; exact (List.getElem?_eq_some_iff.mp e2).1), List.getElem?_map, e2]
      rfl
  · have := own0 i _ e
    cases this
  · have := own0 i _ e
    cases this
  · rw [own0 i y e1] at o1
    cases o1
  · cases i with
    | zero =>
      cases e
      refine ⟨a, _, _, rfl, ?_, rfl, .inl ⟨rfl, rfl⟩⟩
      unfold L2.start
      rfl
    | succ i => exact absurd rfl ((rest i _ (by simpa using e)).2.1 x)
theorem fn_ruleI {T : Tp} {x qual : Str} {params : Arguments} {body : List Stmt} {scope : Scope} {kws : List (Str × V)} {f : Addr} {fd : FuncData} {N ps names : List Str} {k n : Nat} {m : En → M (List DV)} (F : FunD T.g.K x qual params body scope [] kws f fd) (S : FnScope N ps scope) (hn : ps.length = n + 1)
    (hb : ∀ (X : Cx) (c : Cn), XSt T X c N k scope → PSs X body (RII c names m)) : FnOk T.P T.w T.g.K T.mg T.base (L2N.CX T.P T.w) (k + 1) f fd ps (spI T.g names n (fnI N.length m)) := by
  refine F.ok S (fun vs H Q E h => ?_) fun cdv A outer s H vs Q E hr h => ?_
  · obtain ⟨W, hh, ds, a, C, dx, fs, ws, e, _, r, el, _⟩ := h
    rw [e, List.length_cons, ← r.len, el, hn]
  · obtain ⟨W, hh, ds, a, C, dx, fs, ws, e, hs, r, el, ha, nr, nf, F, q⟩ := h
    subst e
    refine ⟨RII ⟨T.g, W, H, fun cls d _ H' => E cls d H', some (a, .ref (T.g.cA 0), none)⟩ names m, hb _ ⟨T.g, W, H, fun cls d _ H' => E cls d H', some (a, .ref (T.g.cA 0), none)⟩ ⟨⟨rfl, rfl, rfl, rfl, rfl, rfl, rfl, S.nd, rfl, rfl, hr, L2N.takes_of rfl rfl rfl rfl⟩, passes_of rfl, rfl, rfl, rfl⟩, W, _, hh, a, C, dx, fs, sim_startI hs r, ⟨rfl, ha, nr, nf⟩, F, ?_⟩
    unfold fnI at q
    generalize m (.exn ⟨0, []⟩ :: (ds.map .val ++ List.replicate (N.length - (ds.length + 1)) .none)) hh = z at q ⊢
    cases z with
    | ok l h' => exact fun W' s' H' us st pr hs' rs ea ul => q W' H' us st hs' rs ea ul
    | exc x h' => exact fun W' e' s' H' cls dd p S' r => q W' H' cls dd S'.st S'.hs r
    | bad => exact q
end LM

/-! Instances made: C(e, ..). -/
namespace LM
open PySem L2

section
variable {X : Cx} {CX : CXT} {k : Nat} {f C : Addr} {fd : FuncData} {ps : List Str} {sp : Sp} {dvs : List V} {ds : List Value} {E : St → XK}
theorem run_makeSD {pins : List (Addr × Obj)} {σ : St} {H : Hp} {s : Shared} {Q : VK} {us : List Value} {vs : List V} (M : Mk X.K C f) (F : FnOk X.prog X.w X.K X.mg X.base CX k f fd ps sp) (hr : Room (k + 1) X.A) (hb : Binds X.K fd ps ds) (hd : Vals dvs ds)
    (hx : PassesAt CX X σ (E σ)) (I : Inv X pins σ H s) (r : Vals vs us)
    (h : ∀ x dx, H x = none → H dx = none → dx ≠ x → sp (.ref x :: (vs ++ dvs)) (upd (upd H dx (.own x)) x (.ins C dx [])) (fun v H2 => v = .non ∧ Q (.ref x) H2) (E σ)) :
    wpAny (model X.prog X.w) X.A (call (.ref C) us) (EP X pins σ Q) X.xe s := by
  have hq := h (s.heap.objs.size + 1) s.heap.objs.size (I.hok.fresh (Nat.le_succ _)) (I.hok.fresh (Nat.le_refl _)) (Nat.ne_of_lt (Nat.lt_succ_self _))
  have I2 := Inv.made (C := C) I
  have r2 : Vals (V.ref (s.heap.objs.size + 1) :: (vs ++ dvs)) (Value.ref (s.heap.objs.size + 1) :: (us ++ ds)) := .cons rfl (r.append hd)
  have hl : (Value.ref (s.heap.objs.size + 1) :: us ++ ds).length = ps.length := by
    have e := r2.length
    rw [F.len _ _ _ _ hq] at e
    exact e.symm
  refine wpAny_call (make_map (f := f) I.kIn M.makes M.init (beq_iff_eq.mp M.fn) (codeAny_mono (F.run _ X.stack _ _ ⟨Value.ref (s.heap.objs.size + 1) :: us, []⟩ (Value.ref (s.heap.objs.size + 1) :: (us ++ ds)) _ _ (E σ) (hr.make C us [])
    (I2.env0.make C us []) (hb _ (Value.ref (s.heap.objs.size + 1) :: us) I2.kIn hl) r2 hq) fun r s' hq' => ?_))
  cases r with
  | error e => exact hx pins _ _ e s' I2 hq'
  | ok fl =>
    cases fl with
    | ret u =>
      obtain ⟨v, H', I3, rv, ev, q3⟩ := I2.after hq'
      subst ev
      exact ⟨rv, ⟨V.ref (s.heap.objs.size + 1), H', I3, rfl, q3⟩⟩
    | next => exact False.elim hq'
    | brk => exact False.elim hq'
    | cont => exact False.elim hq'
end
/-- what is known of a class, number c, that is made -/
structure MkOk (T : Tp) (x : Str) (c j n : Nat) (m : List DV → M (List DV)) : Prop where
  gl : T.mg x = some (.ref (T.g.cA c))
  may : MayF T.g.K (T.g.cA c) [] (T.g.flds c)
  ex : ∃ fI fd ps, Mk T.g.K (T.g.cA c) fI ∧ Binds T.g.K fd ps [] ∧ FnOk T.P T.w T.g.K T.mg T.base (L2N.CX T.P T.w) j fI fd ps (spI T.g (T.g.flds c) n m)
def mkD (c : Nat) (r : Res (List DV)) : Res DV := match r with
  | .ok us h => .ok (.obj c us) h
  | .exc x h => .exc x h
  | .bad => .bad
def mkR (c : Nat) (r : Res (List DV)) : Res DV := match r with
  | .ok us h => .ok (.ref h.length) (h ++ [.obj c us])
  | .exc x h => .exc x h
  | .bad => .bad
/-- C(e, ..), never changed again; changed later -/
def eMake (c : Nat) (m : List DV → M (List DV)) (ms : En → M (List DV)) : En → M DV := fun e => ms e >>= fun l h => mkD c (m l h)
def eMakeR (c : Nat) (m : List DV → M (List DV)) (ms : En → M (List DV)) : En → M DV := fun e => ms e >>= fun l h => mkR c (m l h)
section
variable {T : Tp} {X : Cx} {c : Cn} {N : List Str} {k : Nat} {sc : Scope} {pos p1 : Pos} {ex : Expr} {es : List Expr} {n : Nat} {ms : En → M (List DV)} {x : Str} {ci j : Nat} {m : List DV → M (List DV)}
theorem made_heap {W1 : Wd} {e : En} {h1 : HP} {s : L2.St} {H1 : Hp} {a dx C : Addr} {fs : List (Str × V)} (S : Sim c W1 e h1 s H1) (ha : H1 a = none) (hd : H1 dx = none) (ne : dx ≠ a) : Step W1 H1 W1 (upd (upd H1 dx (.own a)) a (.ins C dx fs)) ∧ Sim c W1 e h1 s (upd (upd H1 dx (.own a)) a (.ins C dx fs)) := by
  obtain ⟨t1, S1⟩ := S.new (o := .own a) hd
  obtain ⟨t2, S2⟩ := S1.new (p := a) (o := .ins C dx fs) (by rw [upd_ne (Ne.symm ne)]; exact ha)
  exact ⟨t1.trans t2, S2⟩
theorem make_use {mk : Nat → Res (List DV) → Res DV} {s : L2.St} {H : Hp} {Q : VK} (hX : XEx T X c N k sc) (M : MkOk T x ci j n m) (q : RE c (fun e => ms e >>= fun l h => mk ci (m l h)) s H Q)
    (h0 : ∀ x h, mk ci (.exc x h) = .exc x h) (h1 : mk ci .bad = .bad)
    (h2 : ∀ {W1 : Wd} {e : En} {hh : HP} {H1 : Hp} {us : List DV} {h' : HP} {W' : Wd} {H' : Hp} {a dx : Addr} {vs : List V}, Sim c W1 e hh s H1 → H1 a = none → Post c (rV c H1) e s W1 H1 (mk ci (.ok us h')) Q → Step W1 H1 W' H' → Sim c W' e h' s H' → Reps c.g W' H' us vs →
      H' a = some (.ins (c.g.cA ci) dx ((c.g.flds ci).zip vs)) → vs.length = (c.g.flds ci).length → a ∉ W'.r → ¬ W'.F a → Q (.ref a) H') :
    RX c (rVs c n) ms s H fun vs H1 => ∀ a dx, H1 a = none → H1 dx = none → dx ≠ a → spI c.g (c.g.flds ci) n m (.ref a :: (vs ++ [])) (upd (upd H1 dx (.own a)) a (.ins (c.g.cA ci) dx [])) (fun v H2 => v = .non ∧ Q (.ref a) H2) (WE c.x s) := by
  refine RX.bind (k := fun _ l h => mk ci (m l h)) q fun W e W1 H1 ds vs hh t S r q2 a dx ha hd ne => ?_
  obtain ⟨t1, S1⟩ := made_heap (C := c.g.cA ci) (fs := []) S ha hd ne
  have p1 := t1.per S.hs
  have nr := not_r S.hs ha
  have nf := not_F S.hs ha
  have may := M.may
  rw [← hX.pg] at may
  refine ⟨W1, hh, ds, a, _, dx, [], vs, by rw [List.append_nil], S1.hs, r.1.per p1 _ _, r.2, upd_same, nr, nf, may, ?_⟩
  cases z : m ds hh with
  | bad =>
    rw [z, h1] at q2
    exact q2.elim
  | exc y h' =>
    rw [z, h0] at q2
    exact fun W' H' cls dd t' hs' r' => q2 W' H' cls dd (t1.trans t') (S1.step t' hs') r'
  | ok us h' =>
    rw [z] at q2
    intro W' H' us2 st hs' rs ea el
    refine ⟨rfl, ?_⟩
    obtain ⟨t3, S3⟩ := made_heap (C := c.g.cA ci) (fs := [] ++ (c.g.flds ci).zip us2) S ha hd ne
    rw [upd_upd] at st
    have S4 := S3.step st hs'
    have at3 : (upd (upd H1 dx (.own a)) a (.ins (c.g.cA ci) dx ([] ++ (c.g.flds ci).zip us2))) a = some (.ins (c.g.cA ci) dx ([] ++ (c.g.flds ci).zip us2)) := upd_same
    refine h2 S ha q2 (t3.trans st) S4 rs (by rw [ea]; rfl) el (fun mm => ?_) fun ff => ?_
    · rcases st.nr a mm with z | z
      · exact nr z
      · rw [at3] at z
        cases z
    · rcases st.nf a ff with z | z | ⟨_, _, z⟩
      · exact nf z
      · rw [at3] at z
        cases z
      · rw [at3] at z
        cases z
theorem make_core {mk : Nat → Res (List DV) → Res DV} (hX : XEx T X c N k sc) (M : MkOk T x ci j n m) (hj : j + 1 ≤ k) (hg : Gl X x) (ha : PA X (ex :: es) (RA c n ms)) (hdb : (x == ("__debug__" : Str)) = false) (he : starEach (ex :: es) X.env = (false, eval ex X.env) :: starEach es X.env) (hpl : (backTo pos (starEach es X.env)).any (·.1) = false)
    (use : ∀ {s : L2.St} {H : Hp} {Q : VK}, RE c (fun e => ms e >>= fun l h => mk ci (m l h)) s H Q → RX c (rVs c n) ms s H fun vs H1 => ∀ a dx, H1 a = none → H1 dx = none → dx ≠ a → spI c.g (c.g.flds ci) n m (.ref a :: (vs ++ [])) (upd (upd H1 dx (.own a)) a (.ins (c.g.cA ci) dx [])) (fun v H2 => v = .non ∧ Q (.ref a) H2) (WE c.x s)) :
    PE X (.Call (.Name x p1) (ex :: es) [] pos) (RE c (fun e => ms e >>= fun l h => mk ci (m l h))) := by
  obtain ⟨fI, fd, ps, mk0, b, fo⟩ := M.ex
  have mk1 : Mk X.K (c.g.cA ci) fI := by
    rw [hX.pk, hX.pg]
    exact mk0
  have b1 : Binds X.K fd ps [] := by
    rw [hX.pk]
    exact b
  have fo1 : FnOk X.prog X.w X.K X.mg X.base (L2N.CX X.prog X.w) j fI fd ps (spI c.g (c.g.flds ci) n m) := by
    rw [hX.pp, hX.pw, hX.pk, hX.pm, hX.pb, hX.pg]
    exact fo
  have gl : X.mg x = some (.ref (c.g.cA ci)) := by
    rw [hX.pm, hX.pg]
    exact M.gl
  refine ⟨fun pins s σ H Q I q => ?_⟩
  refine wpAny_Call_Name_kw (ld_glob I hg gl ?_ hdb)
  refine PySem.W.callWith_K (h₀ := X.base) I.ok.mod.kin mk1.kp (thn (ha.run pos pins s σ H _ I (use q)) fun us s1 ⟨vs, H1, I1, r, q2⟩ => ⟨I1.kIn, ?_⟩) he hpl
  exact run_makeSD (E := WE c.x) mk1 fo1 (hX.room.mono hj) b1 .nil (L2N.passAt hX.tk σ) I1 r q2
theorem c_make (hX : XEx T X c N k sc) (M : MkOk T x ci j n m) (hj : j + 1 ≤ k) (hg : Gl X x) (ha : PA X (ex :: es) (RA c n ms)) (hdb : (x == ("__debug__" : Str)) = false := by decide) (he : starEach (ex :: es) X.env = (false, eval ex X.env) :: starEach es X.env := by rfl) (hpl : (backTo pos (starEach es X.env)).any (·.1) = false := by rfl) :
    PE X (.Call (.Name x p1) (ex :: es) [] pos) (RE c (eMake ci m ms)) :=
  make_core (mk := mkD) hX M hj hg ha hdb he hpl fun {s H Q} q => make_use (mk := mkD) hX M q (fun _ _ => rfl) rfl fun {W1 e hh H1 us h' W' H' a dx vs} S hn q2 t S' rs ea el nr nf => by
    have q3 : Post c (rV c H1) e s W1 H1 (.ok (.obj ci us) h') Q := q2
    have hs2 := S'.hs.frz (p := a) ea nr
    have t2 : Step W1 H1 (W'.frz a) H' := t.frz hn
    have pr : Per W' H' (W'.frz a) H' := ⟨fun _ f => .inl f, fun _ _ e => e, fun _ _ => rfl, fun _ _ e => e, fun _ _ _ e => e⟩
    refine q3 _ H' _ t2 (S.step t2 hs2) ?_
    simp only [Rep]
    exact ⟨a, dx, vs, rfl, .inr rfl, ea, Nat.le_of_eq el, rs.per pr _ _⟩
theorem c_makeR (hX : XEx T X c N k sc) (M : MkOk T x ci j n m) (hj : j + 1 ≤ k) (hg : Gl X x) (ha : PA X (ex :: es) (RA c n ms)) (hdb : (x == ("__debug__" : Str)) = false := by decide) (he : starEach (ex :: es) X.env = (false, eval ex X.env) :: starEach es X.env := by rfl) (hpl : (backTo pos (starEach es X.env)).any (·.1) = false := by rfl) :
    PE X (.Call (.Name x p1) (ex :: es) [] pos) (RE c (eMakeR ci m ms)) :=
  make_core (mk := mkR) hX M hj hg ha hdb he hpl fun {s H Q} q => make_use (mk := mkR) hX M q (fun _ _ => rfl) rfl fun {W1 e hh H1 us h' W' H' a dx vs} S hn q2 t S' rs ea el nr nf => by
    have q3 : Post c (rV c H1) e s W1 H1 (.ok (.ref h'.length) (h' ++ [.obj ci us])) Q := q2
    have hs2 := S'.hs.add (o := .obj ci us) nf nr ⟨dx, vs, ea, Nat.le_of_eq el, rs⟩
    have st : Step W1 H1 ⟨W'.F, W'.r ++ [a]⟩ H' := ⟨t.f, fun p b z => by
      show (W'.r ++ [a])[p]? = some b
      have q1 := t.r p b z
      rw [List.getElem?_append_left (List.getElem?_eq_some_iff.mp q1).1]
      exact q1, t.k, t.th, t.nf, fun b hb => by
      rcases List.mem_append.mp hb with y | y
      · exact t.nr b y
      · rw [List.mem_singleton.mp y]
        exact .inr hn⟩
    refine q3 ⟨W'.F, W'.r ++ [a]⟩ H' _ st (S.step st hs2) ?_
    simp only [Rep]
    refine ⟨a, rfl, ?_⟩
    show (W'.r ++ [a])[h'.length]? = some a
    rw [List.getElem?_append_right (by rw [S'.hs.len]; exact Nat.le_refl _), S'.hs.len, Nat.sub_self]
    rfl
end
@[simp] theorem eMake_app (ci : Nat) (m : List DV → M (List DV)) (ms : En → M (List DV)) (e : En) (h : HP) : eMake ci m ms e h = bR (ms e h) fun l h => mkD ci (m l h) := rfl
@[simp] theorem eMakeR_app (ci : Nat) (m : List DV → M (List DV)) (ms : En → M (List DV)) (e : En) (h : HP) : eMakeR ci m ms e h = bR (ms e h) fun l h => mkR ci (m l h) := rfl
@[simp] theorem mkD_ok (c : Nat) (us : List DV) (h : HP) : mkD c (.ok us h) = .ok (.obj c us) h := rfl
@[simp] theorem mkR_ok (c : Nat) (us : List DV) (h : HP) : mkR c (.ok us h) = .ok (.ref h.length) (h ++ [.obj c us]) := rfl
@[simp] theorem mkD_exc (c : Nat) (x : Ex) (h : HP) : mkD c (.exc x h) = .exc x h := rfl
theorem fnI_app (N : Nat) (m : En → M (List DV)) (ds : List DV) (h : HP) : fnI N m ds h = m (.exn ⟨0, []⟩ :: (ds.map .val ++ List.replicate (N - (ds.length + 1)) .none)) h := rfl
/-- behind a statement of an __init__ -/
def jR (r : SRes) (m : En → M (List DV)) : Res (List DV) := match r with
  | .nx e h => m e h
  | .exc x _ h => .exc x h
  | _ => .bad
@[simp] theorem jR_nx (e : En) (h : HP) (m : En → M (List DV)) : jR (.nx e h) m = m e h := rfl
@[simp] theorem jR_exc (x : Ex) (e : En) (h : HP) (m : En → M (List DV)) : jR (.exc x e h) m = .exc x h := rfl
@[simp] theorem iSeq_app (a : Stm) (m : En → M (List DV)) (e : En) (h : HP) : iSeq a m e h = jR (a e h) m := by
  unfold iSeq jR
  cases a e h <;> rfl
def tR (r : Res (List DV)) : Res (List DV) := match r with
  | .ok l h => .ok l h
  | _ => .bad
@[simp] theorem tR_ok (l : List DV) (h : HP) : tR (.ok l h) = .ok l h := rfl
@[simp] theorem iTail_app (m : En → M (List DV)) (e : En) (h : HP) : iTail m e h = tR (m e h) := rfl
@[simp] theorem iNil_app (e : En) (h : HP) : iNil e h = .ok [] h := rfl
def sR2 (d : DV) (r : Res (List DV)) : Res (List DV) := match r with
  | .ok ds h => .ok (d :: ds) h
  | _ => .bad
@[simp] theorem sR2_ok (d : DV) (ds : List DV) (h : HP) : sR2 d (.ok ds h) = .ok (d :: ds) h := rfl
def sR1 (r : Res DV) (e : En) (m : En → M (List DV)) : Res (List DV) := match r with
  | .ok d h => sR2 d (m e h)
  | _ => .bad
@[simp] theorem sR1_ok (d : DV) (e : En) (m : En → M (List DV)) (h : HP) : sR1 (.ok d h) e m = sR2 d (m e h) := rfl
@[simp] theorem iSet_app (x : Ex) (e : En) (m : En → M DV) (r : En → M (List DV)) (h : HP) : iSet m r (.exn x :: e) h = sR1 (m (.exn x :: e) h) (.exn x :: e) r := by
  unfold iSet
  rw [if_pos (by rfl)]
  cases z : m (.exn x :: e) h with
  | ok d h1 =>
    rw [sR1_ok]
    dsimp only
    cases r (.exn x :: e) h1 <;> rfl
  | exc y h1 => rfl
  | bad => rfl
end LM

/-! Exceptions without an own __init__; except without a name; isinstance of own classes. -/
namespace LM
open PySem L2 L2H

structure Eo0 (T : Tp) (x : Str) (cid : Nat) : Prop where
  gl : T.mg x = some (.ref (T.g.cA cid))
  ex : PySem.W.excIn T.g.K (T.g.cA cid) [.type "ValueError", .type "Exception", .type "BaseException", .type "object"] "ValueError.__new__" = true
  kp : PySem.W.keepIn T.g.K (.ref (T.g.cA cid)) = true
  sb : PySem.W.subIn T.g.K (.ref (T.g.cA cid)) (.type "BaseException") = some true
  ty : PySem.W.typeIn T.g.K (.ref (T.g.cA cid)) = some (.type "type")
def sRaise0 (cid : Nat) : Stm := fun e h => .exc ⟨cid, []⟩ e h
theorem eo0_of {T : Tp} {x : Str} {cid : Nat} (hm : T.mg x = some (.ref (T.g.cA cid))) (b : eo0B (T.g.cA cid) T.g.K = true) : Eo0 T x cid := by
  obtain ⟨h1, h2⟩ := He.ba b
  obtain ⟨h3, h4⟩ := He.ba h2
  obtain ⟨h5, h6⟩ := He.ba h4
  exact ⟨hm, h1, h3, of_decide_eq_true h5, of_decide_eq_true h6⟩
section
variable {T : Tp} {X : Cx} {c : Cn} {N : List Str} {k : Nat} {sc : Scope} {x m : Str} {pos p p1 p2 : Pos} {cid j : Nat}
theorem s_raise0 (hX : XSt T X c N k sc) (o : Eo0 T x cid) (hg : Gl X x) (hdb : (x == ("__debug__" : Str)) = false := by decide) : PS X (.Raise (some (.Call (.Name x p1) [.Constant (.str m) j p2] [] p)) none pos) (RS c (sRaise0 cid)) := by
  refine ps_imp (L2N.ps_raise hX.e.calm hX.e.tk (L2N.pmk_own (C := T.g.cA cid) PySem.F.excBase_ValueError (by rw [hX.e.pk]; exact o.ex) (by rw [hX.e.pm]; exact o.gl) (by rw [hX.e.pk]; exact o.kp) (raises_own (by rw [hX.e.pk]; exact o.sb) (by rw [hX.e.pk]; exact o.ty)) hg hdb)) fun D s H q => ?_
  obtain ⟨W, e, h, S, q⟩ := q
  have q : PostS c W H (.exc ⟨cid, []⟩ e h) D := q
  exact q W s H _ none (Per.refl _ _) S ⟨by rw [hX.e.pg], .inl ⟨rfl, rfl⟩⟩
end
/-! ### try: .. except C: .. -/
def tryR0 (r : SRes) : SRes := match r with
  | .nx e h => .nx (noExn e) h
  | .rt d h => .rt d h
  | _ => .bad
def sTry0 (ck : Nat → Option Bool) (body hd : Stm) : Stm := fun e h => match body e h with
  | .exc x e' h' => (match ck x.c with
    | some true => tryR0 (hd (noExn e') h')
    | some false => .exc x e' h'
    | none => .bad)
  | r => r
section
variable {T : Tp} {X : Cx} {c : Cn} {N : List Str} {k : Nat} {sc : Scope} {x : Str} {cv : Value} {ck : Nat → Option Bool} {body suite : List Stmt} {b0 : Stmt} {np pos pos' : Pos} {mb mh : Stm}
theorem s_try0 (hX : XSt T X c N k sc) (hg : Gl X x) (hm : T.mg x = some cv) (kc : CkOk T cv ck) (hb : ∀ (X' : Cx) (c' : Cn), XSt T X' c' N k sc → PSs X' body (RS c' mb)) (hh : ∀ (X' : Cx) (c' : Cn), XHo T X' c' N k sc → PSs X' (b0 :: suite) (RS c' mh))
    (hdb : (x == ("__debug__" : Str)) = false := by decide) : PS X (.Try body [.ExceptHandler (some (.Name x np)) none (b0 :: suite) pos'] [] [] pos) (RS c (sTry0 ck mb mh)) := by
  let c' : Addr → Value → Option Addr → Cn := fun a cls dd => { c with x := fun _ _ _ _ => False, cur := some (a, cls, dd) }
  refine ps_imp (L2N.ps_try_many (tb := fun W => RS (c.wx W) mb) (Wout := c.x) hX.st hX.fr hX.e.tk (fun W pn xe tk pa => hb _ _ ⟨⟨hX.e.pp, hX.e.pw, hX.e.pk, hX.e.pm, hX.e.pb, hX.e.pg, hX.e.nm, hX.e.nd, hX.e.sc, hX.e.calm, hX.e.room, tk⟩, pa, hX.fn, hX.st, hX.fr⟩)
    (.cons (ts := fun a cls d => RS (c' a cls d) mh) (c := cv) ⟨hg, hdb, .inl (by rw [hX.e.pm]; exact hm)⟩ (fun a oe cls d pn hz hf => hh _ _ ⟨hX.e.pp, hX.e.pw, hX.e.pk, hX.e.pm, hX.e.pb, hX.e.pg, hX.e.nm, hX.e.nd, hX.e.sc, roomH_mark hX.e.room _, rfl, X, a, oe, cls, d, pn, rfl, rfl, hz, hf⟩) .nil)) fun D s H q => ?_
  obtain ⟨W, e, h, S, q⟩ := q
  refine ⟨W, e, h, S.wx, ?_⟩
  unfold sTry0 at q
  cases z : mb e h with
  | nx e' h' =>
    rw [z] at q
    exact fun W' s' H' p S' => q W' s' H' p S'.ofWx
  | bk e' h' =>
    rw [z] at q
    exact fun W' s' H' p S' => q W' s' H' p S'.ofWx
  | ct e' h' =>
    rw [z] at q
    exact fun W' s' H' p S' => q W' s' H' p S'.ofWx
  | rt d h' =>
    rw [z] at q
    exact q
  | bad =>
    rw [z] at q
    exact q.elim
  | exc y e' h' =>
    rw [z] at q
    simp only [] at q
    intro W' s' H' cls dd p S' r
    have S1 := S'.ofWx
    obtain ⟨ec, rr⟩ := r
    have ec : cls = .ref (c.g.cA y.c) := ec
    cases zc : ck y.c with
    | none =>
      rw [zc] at q
      exact q.elim
    | some b =>
      rw [zc] at q
      refine ⟨b, ?_, fun hb2 a na => ?_, fun hb2 => ?_⟩
      · rw [ec, hX.e.pk, hX.e.pg]
        exact kc.ok _ _ zc
      · subst hb2
        have q1 : PostS c W H (tryR0 (mh (noExn e') h')) D := q
        have S3 : Sim (c' a cls dd) W' (noExn e') h' s' H' := S1.noExn (c' := c' a cls dd) rfl rfl rfl
        refine ⟨W', _, h', S3, ?_⟩
        have q2 := q1.later p
        cases zr : mh (noExn e') h' with
        | nx e3 h3 =>
          rw [zr] at q2
          have q3 : PostS c W' H' (.nx (noExn e3) h3) D := q2
          exact fun W3 s3 H3 p3 S4 => q3 W3 _ H3 p3 (S4.noExn (c' := c) rfl rfl rfl)
        | rt d h3 =>
          rw [zr] at q2
          exact q2
        | bk e3 h3 =>
          rw [zr] at q2
          exact q2.elim
        | ct e3 h3 =>
          rw [zr] at q2
          exact q2.elim
        | exc x3 e3 h3 =>
          rw [zr] at q2
          exact q2.elim
        | bad =>
          rw [zr] at q2
          exact q2.elim
      · subst hb2
        exact q W' s' H' cls dd p S1 ⟨ec, rr⟩
end
/-! ### isinstance(e, C) -/
/-- what isinstance asks of an instance's class ci, and C -/
structure IsOk (T : Tp) (ci C : Nat) (b : Bool) : Prop where
  cl : Cls T.g.K (T.g.cA ci)
  ha : PySem.W.findIn T.g.K (.ref (T.g.cA ci)) "__class__" = some (some (.builtin "object.__class__"))
  hn : PySem.W.specialIn T.g.K (.builtin "object.__class__") "__get__" = some (some (.builtin "getset_descriptor.__get__"))
  tk : PySem.W.takesIn T.g.K (.builtin "object.__class__") = some true
  hm : PySem.W.mroIn T.g.K (T.g.cA ci) (.type "object") = some true
  ko : PySem.W.kitOne T.g.K (.ref (T.g.cA ci)) (.ref (T.g.cA C)) = some b
theorem clsB_ok {C : Addr} {K : PySem.W.Frag} (b : clsB C K = true) : Cls K C := by
  obtain ⟨h1, h2⟩ := He.ba b
  obtain ⟨h3, h4⟩ := He.ba h2
  obtain ⟨h5, h6⟩ := He.ba h4
  exact ⟨h1, h3, h5, of_decide_eq_true h6⟩
theorem is_of {T : Tp} {ci C : Nat} {r : Bool} (b : isB (T.g.cA ci) (T.g.cA C) r T.g.K = true) : IsOk T ci C r := by
  obtain ⟨h1, h2⟩ := He.ba b
  obtain ⟨h3, h4⟩ := He.ba h2
  obtain ⟨h5, h6⟩ := He.ba h4
  obtain ⟨h7, h8⟩ := He.ba h6
  obtain ⟨h9, h10⟩ := He.ba h8
  exact ⟨clsB_ok h1, of_decide_eq_true h3, of_decide_eq_true h5, of_decide_eq_true h7, of_decide_eq_true h9, of_decide_eq_true h10⟩
def IsL (T : Tp) (C : Nat) (tab : List (Nat × Bool)) : Prop := ∀ i b, (i, b) ∈ tab → IsOk T i C b
theorem isL_nil {T : Tp} {C : Nat} : IsL T C [] := fun _ _ h => by cases h
theorem isL_cons {T : Tp} {C i : Nat} {b : Bool} {tab : List (Nat × Bool)} (a : IsOk T i C b) (r : IsL T C tab) : IsL T C ((i, b) :: tab) := fun j b' h => by
  rcases List.mem_cons.mp h with e | e
  · cases e
    exact a
  · exact r _ _ e
theorem mem_of_lookupB : ∀ {l : List (Nat × Bool)} {c : Nat} {j : Bool}, l.lookup c = some j → (c, j) ∈ l
  | [], _, _, e => by cases e
  | (a, b) :: r, c, j, e => by
    by_cases h : c = a
    · subst h
      simp [List.lookup] at e
      subst e
      exact List.mem_cons_self
    · have ne : (c == a) = false := beq_eq_false_iff_ne.mpr h
      simp only [List.lookup, ne] at e
      exact List.mem_cons_of_mem _ (mem_of_lookupB e)
def isO (tab : List (Nat × Bool)) (o : Option (Nat × List DV)) : Option Bool := match o with
  | some (c, _) => tab.lookup c
  | none => none
def vIsO (tab : List (Nat × Bool)) (x : DV) : M DV := fun h => match isO tab (clsO h x) with
  | some b => .ok (.bl b) h
  | none => .bad
section
variable {T : Tp} {X : Cx} {c : Cn} {N : List Str} {k : Nat} {sc : Scope} {pos p1 p2 : Pos} {a : Expr} {ma : En → M DV} {y : Str} {C : Nat} {tab : List (Nat × Bool)}
theorem c_isO (hX : XEx T X c N k sc) (L : IsL T C tab) (hg : Gl X "isinstance") (hm : X.mg "isinstance" = none) (hg2 : Gl X y) (hm2 : T.mg y = some (.ref (T.g.cA C))) (ha : PE X a (RE c ma))
    (he : starEach [a, .Name y p2] X.env = (false, eval a X.env) :: starEach [.Name y p2] X.env := by rfl) (hd : (y == ("__debug__" : Str)) = false := by decide) :
    PE X (.Call (.Name "isinstance" p1) [a, .Name y p2] [] pos) (RE c (e1 (vIsO tab) ma)) :=
  pe_imp (pe_callB call_isi hg hm (by decide +kernel) (pa_cons ha (pa_cons (pe_glob (v := .ref (T.g.cA C)) hg2 (by rw [hX.pm]; exact hm2) rfl hd) pa_nil) he) (by decide) (by decide) he rfl) fun s H Q q =>
    RX.bind q fun W e W1 H1 x v h1 t S rx q2 => by
      unfold vIsO at q2
      cases z : clsO h1 x with
      | none =>
        rw [z] at q2
        exact q2.elim
      | some u =>
        obtain ⟨ci, l⟩ := u
        rw [z] at q2
        unfold isO at q2
        simp only [] at q2
        cases z2 : tab.lookup ci with
        | none =>
          rw [z2] at q2
          exact q2.elim
        | some b =>
          rw [z2] at q2
          obtain ⟨ad, dx, vs, e1, e2, e3, rs⟩ := obj_at S.hs rx z
          have fo := L ci b (mem_of_lookupB z2)
          subst e1
          rw [hX.pg] at e2
          refine ⟨.ref ad, .ref (T.g.cA C), .ref (T.g.cA ci), .ref (T.g.cA C), b, rfl, .own _, .base (.ins e2 (by rw [hX.pk]; exact fo.cl) (by rw [hX.pk]; exact fo.ha) (by rw [hX.pk]; exact fo.hn) (by rw [hX.pk]; exact fo.tk) (by rw [hX.pk]; exact fo.hm)), ?_, q2.ret S (by simp only [rV, Rep])⟩
          rw [hX.pk]
          exact fo.ko
end
@[simp] theorem clsO_obj (h : HP) (c : Nat) (l : List DV) : clsO h (.obj c l) = some (c, l) := rfl
theorem vFld_obj (tab : List (Nat × Nat)) (c : Nat) (l : List DV) (h : HP) {j : Nat} {d : DV} (e1 : tab.lookup c = some j) (e2 : l[j]? = some d) : vFld tab (.obj c l) h = .ok d h := by
  unfold vFld fldO
  simp only [clsO_obj, e1, e2]
theorem vIsO_obj (tab : List (Nat × Bool)) (c : Nat) (l : List DV) (h : HP) {b : Bool} (e1 : tab.lookup c = some b) : vIsO tab (.obj c l) h = .ok (.bl b) h := by
  unfold vIsO isO
  simp only [clsO_obj, e1]
end LM

/-! Looks at classes with instances. -/
namespace LM
open PySem L2

theorem XEx.ofc {T : Tp} {X : Cx} {c c' : Cn} {N : List Str} {k : Nat} {sc : Scope} (h : XEx T X c N k sc) (eg : c'.g = c.g) (ex : c'.x = c.x) : XEx T X c' N k sc :=
  ⟨h.pp, h.pw, h.pk, h.pm, h.pb, by rw [eg]; exact h.pg, h.nm, h.nd, h.sc, h.calm, h.room, by rw [ex]; exact h.tk⟩
theorem MoL.mono {T : Tp} {m : Str} {j k n : Nat} {ms : Fns} (L : MoL T m j n ms) (h : j ≤ k) : MoL T m k n ms := fun c f e => (L c f e).mono h
section
variable {T : Tp} {X : Cx} {c : Cn} {N : List Str} {k : Nat} {sc : Scope}
theorem k_iset {f : Str} {p0 p1 pos : Pos} {ex : Expr} {rest : List Stmt} {names : List Str} {me : En → M DV} {mr : En → M (List DV)} (hX : XSt T X c N k sc) (hN : N[0]? = some ("self" : Str)) (hv : Vis sc "self") (he : ∀ c', c'.g = c.g → c'.x = c.x → PE X ex (RE c' me)) (hr : PSs X rest (RIt c names mr))
    (hs : swapsWith ex (some (.Attribute (.Name "self" p0) f p1)) pos.line X.env = pure false := by rfl) : PSs X (.Assign [.Attribute (.Name "self" p0) f p1] ex pos :: rest) (RIt c (f :: names) (iSet me mr)) :=
  i_set hX.e.kk (by rw [hX.e.nm]; exact hN) (by rw [hX.e.sc]; exact hv) he hr hs
end
theorem may_of {T : Tp} {ci : Nat} {fs : List Str} (b : mayB fs (T.g.cA ci) T.g.K = true) (fl : T.g.flds ci = fs) (nd : fs.Nodup) (few : fs.length ≤ 900) : MayF T.g.K (T.g.cA ci) [] (T.g.flds ci) := by
  obtain ⟨h1, h2⟩ := He.ba b
  rw [fl]
  exact ⟨clsB_ok h1, fun f hf => ⟨of_decide_eq_true (p := PySem.W.findIn T.g.K (.ref (T.g.cA ci)) f = some none) (List.all_eq_true.mp h2 f hf), rfl⟩, nd, by rw [List.length_nil, Nat.zero_add]; exact few⟩
theorem fld_of {T : Tp} {ci j : Nat} {f : Str} {fs : List Str} (b : mayB fs (T.g.cA ci) T.g.K = true) (fl : T.g.flds ci = fs) (nd : fs.Nodup) (e : fs[j]? = some f) (few : fs.length < 900) : FldOk T f ci j := by
  obtain ⟨h1, h2⟩ := He.ba b
  exact ⟨clsB_ok h1, of_decide_eq_true (p := PySem.W.findIn T.g.K (.ref (T.g.cA ci)) f = some none) (List.all_eq_true.mp h2 f (List.mem_of_getElem? e)), by rw [fl]; exact nd, by rw [fl]; exact e, by rw [fl]; exact few⟩
theorem meth_of {T : Tp} {m : Str} {ci : Nat} {D : Addr} {k n : Nat} {f : List DV → M DV} {fs : List Str} (b : methB (T.g.cA ci) D m T.g.K = true) (fl : T.g.flds ci = fs) (nf : m ∉ fs)
    (o : ∃ fd ps, Binds T.g.K fd ps [] ∧ FnOk T.P T.w T.g.K T.mg T.base (L2N.CX T.P T.w) k (He.ma T.g.K D m) fd ps (spF T.g n f)) : MethOk T m ci k n f := by
  obtain ⟨h1, h2⟩ := He.ba b
  obtain ⟨h3, h4⟩ := He.ba h2
  obtain ⟨h5, h6⟩ := He.ba h4
  obtain ⟨fd, ps, bd, fo⟩ := o
  exact ⟨clsB_ok h1, by rw [fl]; exact nf, _, fd, ps, ⟨of_decide_eq_true h3, h5, h6⟩, bd, fo⟩
theorem mk_of' {T : Tp} {x : Str} {ci : Nat} {D : Addr} {j n : Nat} {m : List DV → M (List DV)} (gl : T.mg x = some (.ref (T.g.cA ci))) (b : mkB (T.g.cA ci) D T.g.K = true) (may : MayF T.g.K (T.g.cA ci) [] (T.g.flds ci))
    (o : ∃ fd ps, Binds T.g.K fd ps [] ∧ FnOk T.P T.w T.g.K T.mg T.base (L2N.CX T.P T.w) j (He.ma T.g.K D "__init__") fd ps (spI T.g (T.g.flds ci) n m)) : MkOk T x ci j n m := by
  obtain ⟨h1, h2⟩ := He.ba b
  obtain ⟨h3, h4⟩ := He.ba h2
  obtain ⟨h5, h6⟩ := He.ba h4
  obtain ⟨fd, ps, bd, fo⟩ := o
  exact ⟨gl, may, _, fd, ps, ⟨h1, of_decide_eq_true h3, h5, h6⟩, bd, fo⟩
end LM

/-! for over a list that may be on the changing heap; append to such a list. -/
namespace LM
open PySem L2

def elX (en : Bool) (i : Nat) (d : DV) : DV := if en then .tup [.int (i : Int), d] else d
def forX (en : Bool) (t : DV → En → Option En) (body : Stm) (fg : List Nat) (o : DV) : Nat → Nat → Stm
  | 0, i, e, h => (match asL h o with
    | some l => if i = l.length then .nx e h else .bad
    | none => .bad)
  | n + 1, i, e, h => (match asL h o with
    | some l => (match l[i]? with
      | some d => (match t (elX en i d) e with
        | none => .bad
        | some e1 => match body e1 h with
          | .nx e2 h2 => forX en t body fg o n (i + 1) (wipeE e2 fg) h2
          | .ct e2 h2 => forX en t body fg o n (i + 1) (wipeE e2 fg) h2
          | .bk e2 h2 => .nx (wipeE e2 fg) h2
          | .rt d h2 => .rt d h2
          | .exc x e2 h2 => .exc x e2 h2
          | .bad => .bad)
      | none => if i = l.length then .nx e h else .bad)
    | none => .bad)
def lenX (h : HP) (o : DV) : Nat := match asL h o with
  | some l => l.length
  | none => 0
def sForX (en : Bool) (mo : En → M DV) (t : DV → En → Option En) (fg : List Nat) (body : Stm) : Stm := sBind mo fun o e h => forX en t body fg o (lenX h o) 0 (wipeE e fg) h
/-- what is walked: a list, its numbers with it -/
def itJ (en : Bool) (K : PySem.W.Frag) (a : Addr) : It := if en then IteB false K a else Itl K a
def iX (en : Bool) (K : PySem.W.Frag) (tl : TE) : TI := fun σ H R => tl σ H fun v H1 => ∃ a, v = .ref a ∧ (∃ xs, SqL K H1 a xs) ∧ R (itJ en K a) H1
section
variable {X : Cx} {c : Cn} {pos p1 : Pos} {tg a : Expr} {ta : TE}
theorem ix_list (ha : PE X a ta) : PI X tg a (iX false X.K ta) := pi_imp (pi_list ha) fun s H R q => q
theorem ix_enum {c : Cn} {mo : En → M DV} {elts : List Expr} {kk : Nat} {tpos : Pos} (hg : Gl X "enumerate") (hm : X.mg "enumerate" = none) (ha : PE X a (RE c mo)) (he : starEach [a] X.env = (false, eval a X.env) :: starEach [] X.env := by rfl) (hs : starEach [a] X.env = [(false, eval a X.env)] := by rfl) : PI X (.Tuple elts kk tpos) (.Call (.Name "enumerate" p1) [a] [] pos) (iX true X.K (RE c mo)) :=
  pi_imp (pi_enumB hg hm (pa_cons ha pa_nil he) hs) fun s H R q => by
    obtain ⟨W, e, h, S, q⟩ := q
    refine ⟨W, e, h, S, q.imp (fun _ _ _ _ z => z) fun v H1 z => ?_⟩
    obtain ⟨a, e1, ⟨xs, sq⟩, r⟩ := z
    exact ⟨false, a, xs, by rw [e1], sq, r⟩
theorem asL_at {c : Cn} {W : Wd} {e : En} {h : HP} {s : L2.St} {H : Hp} {d : DV} {p : Addr} {l : List DV} (S : Sim c W e h s H) (r : Rep c.g W H d (.ref p)) (a : asL h d = some l) : ∃ vs, SqL c.g.K H p vs ∧ Reps c.g W H l vs := by
  obtain ⟨p', vs, e1, sq, rs⟩ := asL_ok S (.inl r) a
  cases e1
  exact ⟨vs, sq, rs⟩
theorem itJ_go {en : Bool} {K : PySem.W.Frag} {H : Hp} {p : Addr} {vs : List V} {i : Nat} {v : V} (sq : SqL K H p vs) (e : vs[i]? = some v) : (itJ en K p).go i H := by
  cases en with
  | false => exact ⟨vs, v, sq, e⟩
  | true => exact ⟨vs, v, sq, e⟩
theorem itJ_stop {en : Bool} {K : PySem.W.Frag} {H : Hp} {p : Addr} {vs : List V} (sq : SqL K H p vs) : (itJ en K p).stop vs.length H := by
  cases en with
  | false => exact ⟨vs, sq, Nat.le_refl _⟩
  | true => exact ⟨vs, sq, rfl⟩
theorem itJ_yld {en : Bool} {K : PySem.W.Frag} {H H' : Hp} {p : Addr} {vs : List V} {i : Nat} {v x : V} (sq : SqL K H p vs) (e : vs[i]? = some v) (y : (itJ en K p).yld i H x H') : if en then ∃ T, x = .ref T ∧ H T = none ∧ H' = upd H T (.tup [.int (i : Nat), v]) else H' = H ∧ x = v := by
  cases en with
  | false =>
    obtain ⟨h1, h2⟩ := y
    have := h2 vs sq
    rw [e] at this
    exact ⟨h1, (Option.some.inj this).symm⟩
  | true =>
    obtain ⟨T, x', h1, h2, h3, h4⟩ := y
    have := h4 vs sq
    rw [e] at this
    cases this
    exact ⟨T, h1, h2, h3⟩
theorem s_forX {en : Bool} {iter : Expr} {body : List Stmt} {mo : En → M DV} {t : DV → En → Option En} {sl fg : List Nat} {b : Stm} (hk : X.K = c.g.K) (hp : PassesOwn (model X.prog X.w) X.A X.env X.xe) (hc : X.calm = true) (hi : PI X tg iter (iX en X.K (RE c mo))) (hg : PG X tg (RG c t sl)) (hb : PSs X body (RS c b))
    (hs : ∀ x, foldedSetIterable iter X.env x = pure x := by intro _; rfl) : PS X (.For tg iter body [] pos) (RS c (sForX en mo t fg b)) := ps_imp (ps_for hp hc hi hg hb hs) fun D s H q => by
  obtain ⟨W, e, h, S0, q⟩ := q
  refine ⟨W, e, h, S0, sb_at (R := rV c) S0 q fun W1 H1 o v h1 t1 S1 r q2 => ?_⟩
  have r : Rep c.g W1 H1 o v := r
  -- a list it is
  have isL : ∃ l, asL h1 o = some l := by
    unfold lenX at q2
    cases z : asL h1 o with
    | some l => exact ⟨l, rfl⟩
    | none =>
      rw [z] at q2
      unfold forX at q2
      rw [z] at q2
      exact q2.elim
  obtain ⟨l0, el0⟩ := isL
  obtain ⟨p, vs0, e1, sq0, rs0⟩ := asL_ok S1 (.inl r) el0
  subst e1
  refine ⟨p, rfl, ⟨vs0, by rw [hk]; exact sq0⟩, ?_⟩
  refine ⟨fun i m s' Hc => ∃ Wc ec hc, Per W1 H1 Wc Hc ∧ Sim c Wc ec hc s' Hc ∧ PostS c Wc Hc (forX en t b fg o m i ec hc) D,
    ⟨lenX h1 o, W1, _, h1, Per.refl _ _, S1.wipe' fg, q2⟩, ?_⟩
  rintro i m s' Hc ⟨Wc, ec, hc, pc, Sc, q3⟩
  have rc : Rep c.g Wc Hc o (.ref p) := r.per pc _ _
  have endd : ∀ l, asL hc o = some l → i = l.length → PostS c Wc Hc (.nx ec hc) D → (itJ en X.K p).stop i Hc ∧ D.nx s' Hc := fun l el ei q => by
    obtain ⟨vs, sq, rs⟩ := asL_at Sc rc el
    rw [hk, ei, rs.len]
    exact ⟨itJ_stop sq, q.nx Sc⟩
  cases m with
  | zero =>
    unfold forX at q3
    cases z : asL hc o with
    | none =>
      rw [z] at q3
      exact q3.elim
    | some l =>
      rw [z] at q3
      simp only [] at q3
      by_cases hi : i = l.length
      · rw [if_pos hi] at q3
        exact .inl (endd l z hi q3)
      · rw [if_neg hi] at q3
        exact q3.elim
  | succ m =>
    unfold forX at q3
    cases z : asL hc o with
    | none =>
      rw [z] at q3
      exact q3.elim
    | some l =>
      rw [z] at q3
      simp only [] at q3
      cases zd : l[i]? with
      | none =>
        rw [zd] at q3
        simp only [] at q3
        by_cases hi : i = l.length
        · rw [if_pos hi] at q3
          exact .inl (endd l z hi q3)
        · rw [if_neg hi] at q3
          exact q3.elim
      | some d =>
        rw [zd] at q3
        simp only [] at q3
        obtain ⟨vs, sq, rs⟩ := asL_at Sc rc z
        obtain ⟨u, eu, ru⟩ := rs.get zd
        rw [hk]
        refine .inr ⟨itJ_go sq eu, fun s2 H2 => ∃ Wc ec hc, Per W1 H1 Wc H2 ∧ Sim c Wc ec hc s2 H2 ∧ PostS c Wc H2 (forX en t b fg o m (i + 1) ec hc) D, fun s2 H2 z => ⟨m, Nat.lt_succ_self _, z⟩, fun x H' y => ?_⟩
        have y := itJ_yld sq eu y
        have item : Step Wc Hc Wc H' ∧ HSim c.g Wc hc H' ∧ Rep c.g Wc H' (elX en i d) x := by
          cases en with
          | false =>
            obtain ⟨y1, y2⟩ := y
            subst y1 y2
            exact ⟨Step.refl _ _, Sc.hs, ru⟩
          | true =>
            obtain ⟨T, y1, y2, y3⟩ := y
            subst y1 y3
            have tn : Step Wc Hc Wc (upd Hc T (.tup [.int (i : Nat), u])) := Step.new y2
            have pn := tn.per Sc.hs
            refine ⟨tn, Sc.hs.new y2 pn, ?_⟩
            show Rep c.g Wc _ (.tup [.int (i : Int), d]) _
            simp only [Rep]
            exact ⟨T, _, rfl, .inl (.inl upd_same), .cons (by simp only [Rep]) (.cons (ru.per pn _ _) .nil)⟩
        obtain ⟨t2, s2, rd⟩ := item
        have p2 := t2.per Sc.hs
        refine ⟨Wc, ec, hc, elX en i d, Sc.step t2 s2, rd, ?_⟩
        cases zt : t (elX en i d) ec with
        | none =>
          rw [zt] at q3
          exact q3.elim
        | some e1 =>
          rw [zt] at q3
          intro s3 S3 _ _
          refine ⟨Wc, e1, hc, S3, ?_⟩
          have q4 : PostS c Wc H' (match b e1 hc with
            | .nx e2 h2 => forX en t b fg o m (i + 1) (wipeE e2 fg) h2
            | .ct e2 h2 => forX en t b fg o m (i + 1) (wipeE e2 fg) h2
            | .bk e2 h2 => .nx (wipeE e2 fg) h2
            | .rt d h2 => .rt d h2
            | .exc x e2 h2 => .exc x e2 h2
            | .bad => .bad) D := q3.later p2
          cases zb : b e1 hc with
          | nx e2 h2 =>
            rw [zb] at q4
            exact fun W' s' H2 p S' => ⟨W', _, h2, (pc.trans p2).trans p, S'.wipe' fg, q4.later p⟩
          | ct e2 h2 =>
            rw [zb] at q4
            exact fun W' s' H2 p S' => ⟨W', _, h2, (pc.trans p2).trans p, S'.wipe' fg, q4.later p⟩
          | bk e2 h2 =>
            rw [zb] at q4
            exact fun W' s' H2 p S' => q4 W' s' H2 p (S'.wipe' fg)
          | rt d h2 =>
            rw [zb] at q4
            exact q4
          | exc x e2 h2 =>
            rw [zb] at q4
            exact q4
          | bad =>
            rw [zb] at q4
            exact q4
end
section
variable {T : Tp} {X : Cx} {c : Cn} {N : List Str} {k : Nat} {sc : Scope} {pos : Pos} {tg iter : Expr} {body : List Stmt} {en : Bool} {mo : En → M DV} {t : DV → En → Option En} {sl : List Nat} {b : Stm}
theorem k_forX (fg : List Nat) (hX : XSt T X c N k sc) (hi : PI X tg iter (iX en X.K (RE c mo))) (hg : PG X tg (RG c t sl)) (hb : PSs X body (RS c b)) (hs : ∀ x, foldedSetIterable iter X.env x = pure x := by intro _; rfl) : PS X (.For tg iter body [] pos) (RS c (sForX en mo t fg b)) :=
  s_forX hX.e.kk hX.pa hX.e.calm hi hg hb hs
end
@[simp] theorem sForX_app (en : Bool) (mo : En → M DV) (t : DV → En → Option En) (fg : List Nat) (b : Stm) (e : En) (h : HP) : sForX en mo t fg b e h = uR (mo e h) e fun o e h => forX en t b fg o (lenX h o) 0 (wipeE e fg) h := rfl
/-- the list stays: a walk over its items -/
theorem forX_drop {en : Bool} {t : DV → En → Option En} {b : Stm} {fg : List Nat} {o : DV} {l : List DV} (I : En → HP → Prop) (hI : ∀ e h, I e h → asL h o = some l) (st : ∀ (i : Nat) (d : DV) (e : En) (h : HP), l[i]? = some d → I e h → (∀ e' h', turn t b fg (elX en i d) e h = .nx e' h' → I e' h')) :
    ∀ (n i : Nat) (e : En) (h : HP), i + n = l.length → I e h → forX en t b fg o n i e h = forL t b fg ((List.range n).map fun j => elX en (i + j) (l.getD (i + j) .non)) e h
  | 0, i, e, h, hn, ih => by
    unfold forX
    rw [hI e h ih]
    simp only []
    rw [if_pos (by omega)]
    rfl
  | n + 1, i, e, h, hn, ih => by
    have hi : i < l.length := by omega
    have ed : l[i]? = some l[i] := List.getElem?_eq_getElem hi
    have eg : l.getD i .non = l[i] := by rw [List.getD_eq_getElem?_getD, ed]; rfl
    rw [List.range_succ_eq_map, List.map_cons, List.map_map, forL_cons]
    simp only [Nat.add_zero]
    rw [eg]
    have rest : ((List.range n).map ((fun j => elX en (i + j) (l.getD (i + j) .non)) ∘ Nat.succ)) = (List.range n).map fun j => elX en (i + 1 + j) (l.getD (i + 1 + j) .non) := by
      apply List.map_congr_left
      intro j _
      show elX en (i + (j + 1)) (l.getD (i + (j + 1)) .non) = _
      rw [show i + (j + 1) = i + 1 + j by omega]
    rw [rest]
    have ih2 := forX_drop I hI st n (i + 1)
    have sti := st i l[i] e h ed ih
    unfold forX
    rw [hI e h ih]
    simp only [ed]
    unfold turn at sti ⊢
    cases zt : t (elX en i l[i]) e with
    | none => rfl
    | some e1 =>
      rw [zt] at sti
      simp only [oR_some] at sti ⊢
      cases zb : b e1 h with
      | nx e2 h2 =>
        rw [zb] at sti
        simp only [wR_nx, lR_nx] at sti ⊢
        exact ih2 _ _ (by omega) (sti _ _ rfl)
      | ct e2 h2 =>
        rw [zb] at sti
        simp only [wR_ct, lR_nx] at sti ⊢
        exact ih2 _ _ (by omega) (sti _ _ rfl)
      | bk e2 h2 => rfl
      | rt d h2 => rfl
      | exc x e2 h2 => rfl
      | bad => rfl
theorem forX_frz {t : DV → En → Option En} {b : Stm} {fg : List Nat} {o : DV} {l : List DV} (hI : ∀ h, asL h o = some l) (e : En) (h : HP) : forX false t b fg o l.length 0 e h = forL t b fg l e h := by
  rw [forX_drop (l := l) (fun _ _ => True) (fun _ h _ => hI h) (fun _ _ _ _ _ _ _ _ _ => trivial) l.length 0 e h (by omega) trivial]
  congr 1
  apply List.ext_getElem?
  intro j
  by_cases hj : j < l.length
  · rw [List.getElem?_map, List.getElem?_range hj, List.getElem?_eq_getElem hj]
    simp only [Option.map_some, elX, Nat.zero_add]
    rw [List.getD_eq_getElem?_getD, List.getElem?_eq_getElem hj]
    rfl
  · rw [List.getElem?_eq_none (by simp; omega), List.getElem?_eq_none (by omega)]
theorem map_getD {en : Bool} (l : List DV) (he : en = false) : ((List.range l.length).map fun j => elX en (0 + j) (l.getD (0 + j) .non)) = l := by
  subst he
  apply List.ext_getElem?
  intro j
  by_cases hj : j < l.length
  · rw [List.getElem?_map, List.getElem?_range hj, List.getElem?_eq_getElem hj]
    simp only [Option.map_some, elX, Nat.zero_add]
    rw [List.getD_eq_getElem?_getD, List.getElem?_eq_getElem hj]
    rfl
  · rw [List.getElem?_eq_none (by simp; omega), List.getElem?_eq_none (by omega)]
/-- .. where the changing heap holds the list and no turn changes that -/
theorem forX_inv {t : DV → En → Option En} {b : Stm} {fg : List Nat} {o : DV} {l : List DV} (I : En → HP → Prop) (hI : ∀ e h, I e h → asL h o = some l) (st : ∀ (d : DV) (e : En) (h : HP), d ∈ l → I e h → (∀ e' h', turn t b fg d e h = .nx e' h' → I e' h')) (e : En) (h : HP) (ih : I e h) : forX false t b fg o l.length 0 e h = forL t b fg l e h := by
  rw [forX_drop (l := l) I hI (fun i d e h hd => st d e h (List.mem_of_getElem? hd)) l.length 0 e h (by omega) ih, map_getD l rfl]
@[simp] theorem asL_lst (l : List DV) (h : HP) : asL h (.lst l) = some l := rfl
theorem asL_ref {h : HP} {p : Nat} {l : List DV} (e : h[p]? = some (.lst l)) : asL h (.ref p) = some l := by
  show (match h[p]? with
    | some (.lst l) => some l
    | _ => none) = _
  rw [e]
theorem lenX_of {h : HP} {o : DV} {l : List DV} (e : asL h o = some l) : lenX h o = l.length := by
  unfold lenX
  rw [e]
end LM

/-! Lists on the changing heap: append, pop, compared. -/
namespace LM
open PySem L2

/-! ### o.append(e) -/
def appH (h : HP) (o d : DV) : Option HP := match o with
  | .ref p => (match h[p]? with
    | some (.lst l) => if l.length < LN then some (h.set p (.lst (l ++ [d]))) else none
    | _ => none)
  | _ => none
def sAppH (mo mv : En → M DV) : Stm := sBind mo fun o => sBind mv fun d e h => hNx (appH h o d) e
def lstAt (h : HP) (o : DV) : Bool := match o with
  | .ref p => (match h[p]? with
    | some (.lst _) => true
    | _ => false)
  | _ => false
def sAppH' (mo mv : En → M DV) : Stm := sBind mo fun o e h => if lstAt h o then (sBind mv fun d e h => hNx (appH h o d) e) e h else .bad
theorem lst_at {c : Cn} {W : Wd} {e : En} {h : HP} {s : L2.St} {H : Hp} {p : Nat} {v : V} {l : List DV} (S : Sim c W e h s H) (r : Rep c.g W H (.ref p) v) (q : h[p]? = some (.lst l)) : ∃ a vs, v = .ref a ∧ W.r[p]? = some a ∧ H a = some (.lst vs) ∧ Reps c.g W H l vs := by
  simp only [Rep] at r
  obtain ⟨a, e1, e2⟩ := r
  obtain ⟨⟨vs, e3, rs⟩, _⟩ := S.hs.o p _ a q e2
  exact ⟨a, vs, e1, e2, e3, rs⟩
section
variable {T : Tp} {X : Cx} {c : Cn} {N : List Str} {k : Nat} {sc : Scope} {pos p2 p3 : Pos} {o ex : Expr} {mo mv : En → M DV}
theorem s_appH (ho : PE X o (RE c mo)) (hv : PE X ex (RE c mv)) (hst : starEach (ex :: []) X.env = (false, eval ex X.env) :: starEach [] X.env := by rfl)
    (hbase : attributeBase o "append" X.env (eval o X.env) = eval o X.env := by rfl)
    (hfew : ((backTo p3 (starEach (ex :: []) X.env)).all (fun x => !x.1) && (backToKw p3 (keywordEach [] X.env)).all (fun x => x.1.isSome)
      && decide ((ex :: []).length + ([] : List Keyword).length + (if ([] : List Keyword).isEmpty then 0 else 1) < 30)) = true := by rfl)
    (hline : (p2.endLine == p3.line) = true := by rfl)
    (hs : swapsWith (.Call (.Attribute o "append" p2) [ex] [] p3) none pos.line X.env = pure false := by rfl) :
    PS X (.Expr (.Call (.Attribute o "append" p2) [ex] [] p3) pos) (RS c (sAppH' mo mv)) :=
  ps_imp (ps_expr (pe_bm PySem.F.plainAttrs_list PySem.F.slot_list_append PySem.F.type_list_append mt_append ho (pa_cons hv pa_nil hst) hbase hfew hline hst rfl) hs) fun D s H q => by
    refine sb_use q fun W e W1 H1 od w h1 t S r q1 => ?_
    by_cases zl : lstAt h1 od = true
    rotate_left
    · rw [if_neg zl] at q1
      exact q1.elim
    rw [if_pos zl] at q1
    cases od with
    | ref p =>
      have zl : (match h1[p]? with
        | some (.lst _) => true
        | _ => false) = true := zl
      cases z : h1[p]? with
      | none =>
        rw [z] at zl
        cases zl
      | some ob =>
        rw [z] at zl
        cases ob with
        | obj _ _ => cases zl
        | lst l =>
          obtain ⟨a, vs, e1, e2, e3, rs⟩ := lst_at S r z
          subst e1
          refine ⟨.inl ⟨rfl, _, .inl (.inl e3)⟩, W1, e, h1, S, sb_at (R := rV c) S q1 fun W2 H2 d u h2 t2 S2 ru q2 => ?_⟩
          have ro2 : Rep c.g W2 H2 (.ref p) (.ref a) := r.per (t2.per S.hs) _ _
          have q2 : PostS c W2 H2 (hNx (appH h2 (.ref p) d) e) D := q2
          unfold appH at q2
          simp only [] at q2
          cases z2 : h2[p]? with
          | none =>
            rw [z2] at q2
            exact q2.elim
          | some ob2 =>
            rw [z2] at q2
            cases ob2 with
            | obj _ _ => exact q2.elim
            | lst l2 =>
              simp only [] at q2
              by_cases hl : l2.length < LN
              rotate_left
              · rw [if_neg hl] at q2
                exact q2.elim
              rw [if_pos hl] at q2
              have q3 : PostS c W2 H2 (.nx e (h2.set p (.lst (l2 ++ [d])))) D := q2
              obtain ⟨a2, vs2, f1, f2, f3, rs2⟩ := lst_at S2 ro2 z2
              cases f1
              obtain ⟨st, hs⟩ := S2.hs.write (o' := .lst (l2 ++ [d])) (u' := .lst (vs2 ++ [u])) z2 f2 f3 fun pr => ⟨_, upd_same, (rs2.per pr _ _).app (.cons (Rep.per pr _ _ ru) .nil)⟩
              exact ⟨a, vs2, u, rfl, rfl, f3, by rw [← rs2.len, line_LN]; exact hl, (q3.later (st.per S2.hs)).nx (S2.step st hs)⟩
    | _ => cases zl
/-! ### o.pop() -/
def popH (h : HP) (o : DV) : Option (DV × HP) := match o with
  | .ref p => (match h[p]? with
    | some (.lst l) => (match l[l.length - 1]? with
      | some d => some (d, h.set p (.lst l.dropLast))
      | none => none)
    | _ => none)
  | _ => none
def popR (o : Option (DV × HP)) : Res DV := match o with
  | some (d, h) => .ok d h
  | none => .bad
def ePop (mo : En → M DV) : En → M DV := fun e => mo e >>= fun o h => popR (popH h o)
theorem Reps.dropLast {g : Glue} {W : Wd} {H : Hp} {l : List DV} {vs : List V} (r : Reps g W H l vs) : Reps g W H l.dropLast vs.dropLast := by
  rw [List.dropLast_eq_take, List.dropLast_eq_take, r.len]
  exact Reps.take _ r
theorem c_pop (ho : PE X o (RE c mo)) (hbase : attributeBase o "pop" X.env (eval o X.env) = eval o X.env := by rfl) (hline : (p2.endLine == p3.line) = true := by rfl) : PE X (.Call (.Attribute o "pop" p2) [] [] p3) (RE c (ePop mo)) :=
  pe_imp (pe_bm0 PySem.F.plainAttrs_list PySem.F.slot_list_pop PySem.F.type_list_pop mt_pop ho hbase hline) fun s H Q q => by
    refine RX.bind (k := fun _ o h => popR (popH h o)) q fun W e W1 H1 od v h1 t S r q2 => ?_
    unfold popH at q2
    cases od with
    | ref p =>
      simp only [] at q2
      cases z : h1[p]? with
      | none =>
        rw [z] at q2
        exact q2.elim
      | some ob =>
        rw [z] at q2
        cases ob with
        | obj _ _ => exact q2.elim
        | lst l =>
          simp only [] at q2
          cases zd : l[l.length - 1]? with
          | none =>
            rw [zd] at q2
            exact q2.elim
          | some d =>
            rw [zd] at q2
            have q3 : Post c (rV c H) e s W1 H1 (.ok d (h1.set p (.lst l.dropLast))) Q := q2
            obtain ⟨a, vs, e1, e2, e3, rs⟩ := lst_at S r z
            subst e1
            obtain ⟨u, eu, ru⟩ := rs.get zd
            obtain ⟨st, hs⟩ := S.hs.write (o' := .lst l.dropLast) (u' := .lst vs.dropLast) z e2 e3 fun pr => ⟨_, upd_same, rs.dropLast.per pr _ _⟩
            refine ⟨.inl ⟨rfl, _, .inl (.inl e3)⟩, a, vs, u, rfl, rfl, e3, by rw [← rs.len]; exact eu, ?_⟩
            exact q3 W1 _ u st (S.step st hs) (ru.per (st.per S.hs) _ _)
    | _ => exact q2.elim
/-! ### == of such lists -/
def dr (h : HP) (x : DV) : DV := match x with
  | .ref p => (match h[p]? with
    | some (.lst l) => .lst l
    | _ => .ref p)
  | d => d
def vEqX (x y : DV) : M DV := fun h => vEq (dr h x) (dr h y) h
def vNeX (x y : DV) : M DV := fun h => vNe (dr h x) (dr h y) h
theorem dpX_of {W : Wd} {e : En} {h : HP} {s : L2.St} {H : Hp} {d : DV} {v : V} {p : PyData} (S : Sim c W e h s H) (r : RepB c.g W H d v) (q : toPD (dr h d) = some p) : Dp c.g.K H v p := by
  cases d with
  | ref i =>
    have q2 : toPD (match h[i]? with
      | some (.lst l) => .lst l
      | _ => .ref i) = some p := q
    cases z : h[i]? with
    | none =>
      rw [z] at q2
      simp only [toPD] at q2
      cases q2
    | some ob =>
      rw [z] at q2
      cases ob with
      | obj _ _ =>
        simp only [toPD] at q2
        cases q2
      | lst l =>
        simp only [toPD] at q2
        rcases r with r | ⟨l2, a, vs, e1, e2, e3, r, n⟩ | ⟨ks, l2, a, vs, e1, e2, e3, z2, r, n⟩
        · obtain ⟨a, vs, e1, e2, e3, rs⟩ := lst_at S r z
          subst e1
          cases z3 : toPDs l with
          | none =>
            rw [z3] at q2
            cases q2
          | some ps =>
            rw [z3] at q2
            cases q2
            exact .lst (.of e3) (dps_of l vs ps rs z3)
        · cases e1
        · cases e1
  | _ => exact dpB_of r q
theorem prim_eqX {K : PySem.W.Frag} (hk : c.g.K = K) : Prim2 c (pB c) (pB c) (rV c) vEqX (rEqD K) := by
  subst hk
  refine ⟨fun {W e h s H Hs x y v w Q} S rx ry nw q => ?_⟩
  unfold vEqX vEq at q
  cases z : eqD (dr h x) (dr h y) with
  | none =>
    rw [z] at q
    exact q.elim
  | some b =>
    rw [z] at q
    obtain ⟨d, f, h1, h2, h3, h4, h5⟩ := eqD_ok z
    exact ⟨d, f, dpX_of S rx h1, dpX_of S ry h2, h3, h4, by rw [← h5]; exact q.ret S (by simp only [rV, Rep])⟩
theorem prim_neX {K : PySem.W.Frag} (hk : c.g.K = K) : Prim2 c (pB c) (pB c) (rV c) vNeX (rNeD K) := by
  subst hk
  refine ⟨fun {W e h s H Hs x y v w Q} S rx ry nw q => ?_⟩
  unfold vNeX vNe at q
  cases z : eqD (dr h x) (dr h y) with
  | none =>
    rw [z] at q
    exact q.elim
  | some b =>
    rw [z] at q
    obtain ⟨d, f, h1, h2, h3, h4, h5⟩ := eqD_ok z
    exact ⟨d, f, dpX_of S rx h1, dpX_of S ry h2, h3, h4, by rw [← h5]; exact q.ret S (by simp only [rV, Rep])⟩
variable {a b : Expr} {ma mb : En → M DV}
theorem c_eqX (hk : X.K = c.g.K) (hu : X.A.units + 64 < cLine) (ha : PE X a (RB c ma)) (hb : PE X b (RB c mb)) : PE X (.Compare a [.Eq] [b] pos) (RE c (e2 vEqX ma mb)) := c_cmp (op_eqD hu) stays_B (prim_eqX hk.symm) ha hb (nomark _)
theorem c_neX (hk : X.K = c.g.K) (hu : X.A.units + 64 < cLine) (ha : PE X a (RB c ma)) (hb : PE X b (RB c mb)) : PE X (.Compare a [.NotEq] [b] pos) (RE c (e2 vNeX ma mb)) := c_cmp (op_neD hu) stays_B (prim_neX hk.symm) ha hb (nomark _)
theorem t_eqX (hk : X.K = c.g.K) (hu : X.A.units + 64 < cLine) (ha : PE X a (RB c ma)) (hb : PE X b (RB c mb)) : PT X (.Compare a [.Eq] [b] pos) (RT c (tb (e2 vEqX ma mb))) := t_cmp (op_eqD hu) stays_B (prim_eqX hk.symm) ha hb (nomark _)
theorem t_neX (hk : X.K = c.g.K) (hu : X.A.units + 64 < cLine) (ha : PE X a (RB c ma)) (hb : PE X b (RB c mb)) : PT X (.Compare a [.NotEq] [b] pos) (RT c (tb (e2 vNeX ma mb))) := t_cmp (op_neD hu) stays_B (prim_neX hk.symm) ha hb (nomark _)
end
@[simp] theorem sAppH_app (mo mv : En → M DV) (e : En) (h : HP) : sAppH' mo mv e h = uR (mo e h) e fun o e h => if lstAt h o then uR (mv e h) e fun d e h => hNx (appH h o d) e else .bad := rfl
@[simp] theorem ePop_app (mo : En → M DV) (e : En) (h : HP) : ePop mo e h = bR (mo e h) fun o h => popR (popH h o) := rfl
@[simp] theorem vEqX_app (x y : DV) (h : HP) : vEqX x y h = vEq (dr h x) (dr h y) h := rfl
@[simp] theorem vNeX_app (x y : DV) (h : HP) : vNeX x y h = vNe (dr h x) (dr h y) h := rfl
theorem dr_ref {h : HP} {p : Nat} {l : List DV} (e : h[p]? = some (.lst l)) : dr h (.ref p) = .lst l := by
  show (match h[p]? with
    | some (.lst l) => DV.lst l
    | _ => .ref p) = _
  rw [e]
@[simp] theorem dr_lst (h : HP) (l : List DV) : dr h (.lst l) = .lst l := rfl
@[simp] theorem dr_tup (h : HP) (l : List DV) : dr h (.tup l) = .tup l := rfl
theorem lstAt_ref {h : HP} {p : Nat} {l : List DV} (e : h[p]? = some (.lst l)) : lstAt h (.ref p) = true := by
  show (match h[p]? with
    | some (.lst _) => true
    | _ => false) = _
  rw [e]
theorem appH_ref {h : HP} {p : Nat} {l : List DV} (d : DV) (e : h[p]? = some (.lst l)) (hl : l.length < 16777216) : appH h (.ref p) d = some (h.set p (.lst (l ++ [d]))) := by
  show (match h[p]? with
    | some (.lst l) => if l.length < LN then some (h.set p (.lst (l ++ [d]))) else none
    | _ => none) = _
  rw [e]
  exact if_pos hl
theorem popH_ref {h : HP} {p : Nat} {l : List DV} {d : DV} (e : h[p]? = some (.lst (l ++ [d]))) : popH h (.ref p) = some (d, h.set p (.lst l)) := by
  show (match h[p]? with
    | some (.lst l) => (match l[l.length - 1]? with
      | some d => some (d, h.set p (.lst l.dropLast))
      | none => none)
    | _ => none) = _
  rw [e]
  simp
end LM

/-! max(a tuple, default=d); a list's index. -/
namespace LM
open PySem L2
/-! ### max(.., default=..) -/
def mxO : List Int → Int → Int
  | [], d => d
  | y :: ys, _ => ys.foldl max y
def rMx (K : PySem.W.Frag) : List V → List V → Hp → VK → Prop := fun xs zs H Q => ∃ (a : Addr) (ns : List Int) (d : Int), xs = [V.ref a] ∧ SqT K H a (ns.map V.int) ∧ zs = [V.int d] ∧ Q (.int (mxO ns d)) H
theorem reads_ints {h : Heap} : ∀ {ns : List Int} {us : List Value}, Vals (ns.map V.int) us → ReadsAll h us (ns.map PyData.int) []
  | [], _, .nil => .nil
  | _ :: _, _, .cons ⟨_, e⟩ r => by
    subst e
    exact ReadsAll.cons (as := []) (bs := []) (Reads.int _ _) (reads_ints r)
theorem cr_mx {X : Cx} (hc : X.calm = true) (hu : X.A.units + 64 < cLine) : CallRK X (.builtin "max") (["default"] : List Str) (rMx X.K) := by
  intro pins s σ H xs zs us ws Q I r r2 h
  obtain ⟨a, ns, d, rfl, hs, rfl, q⟩ := h
  obtain ⟨its, rv, hl, hz⟩ := I.tuple hs
  rw [Vals.ref1 r]
  obtain ⟨u, rfl, t, rfl⟩ := Vals.one r2
  have ra := reads_ints (h := s.heap) rv
  have dep : PyData.depthAll (ns.map PyData.int) = 0 := dep_ints ns
  refine PySem.W.max_tuple_default (as := []) (xs := ns.map PyData.int) (vs := its.toArray) (I.ok.hd hc) hl (by simpa using ra) ⟨fun x hx y hy => ?_, fun x hx => ?_⟩ (by rw [dep]; omega) (fun e h' tk k => ?_) fun y ys i v h' tk bs e hi rd k => ?_
  · obtain ⟨i, _, e1⟩ := List.mem_map.mp hx
    obtain ⟨j, _, e2⟩ := List.mem_map.mp hy
    subst e1 e2
    rfl
  · obtain ⟨i, _, e1⟩ := List.mem_map.mp hx
    subst e1
    intro z
    cases z
  · have e := List.map_eq_nil_iff.mp e
    subst e
    exact ⟨.int d, H, I.kept k, ⟨_, rfl⟩, q⟩
  · cases ns with
    | nil => cases e
    | cons n r =>
      rw [List.map_cons] at e
      obtain ⟨e1, e2⟩ := List.cons.inj e
      subst e1 e2
      rw [PySem.W.maxD_ints] at rd
      cases rd
      exact ⟨.int (mxO (n :: r) d), H, I.kept k, ⟨_, rfl⟩, q⟩
def vMaxD (x y : DV) : M DV := fun h => match x, y with
  | .tup l, .int d => (match asInts l with
    | some ns => .ok (.int (mxO ns d)) h
    | none => .bad)
  | _, _ => .bad
section
variable {X : Cx} {c : Cn} {pos p1 p2 p3 : Pos} {a b : Expr} {ma mb : En → M DV}
theorem c_maxD (hk : X.K = c.g.K) (hc : X.calm = true) (hu : X.A.units + 64 < cLine) (hg : Gl X "max") (hm : X.mg "max" = none) (ha : PE X a (RE c ma)) (hb : PE X b (RE c mb))
    (hea : starEach (a :: []) X.env = (false, eval a X.env) :: starEach [] X.env := by rfl)
    (he : backTo pos (starEach (a :: []) X.env) = (false, eval a X.env) :: backTo pos (starEach [] X.env) := by rfl) (hpl : (backTo pos (starEach (a :: []) X.env)).any (·.1) = false := by rfl)
    (hall : (backToKw pos (keywordEach [⟨some "default", b, p3⟩] X.env)).all (·.1.isSome) = true := by rfl) (hnone : (backToKw pos (keywordEach [⟨some "default", b, p3⟩] X.env)).any (·.1.isNone) = false := by rfl)
    (hks : (backToKw pos (keywordEach [⟨some "default", b, p3⟩] X.env)).filterMap (·.1) = (["default"] : List Str) := by rfl) :
    PE X (.Call (.Name "max" p1) [a] [⟨some "default", b, p3⟩] pos) (RE c (e2 vMaxD ma mb)) :=
  pe_imp (pe_callBK (cr_mx hc hu) hg hm (by decide +kernel) (pa_cons ha pa_nil hea) (pk_cons hb pk_nil) (by decide) (by decide) he hpl hall hnone hks) fun s H Q q =>
    RX.bind q fun W e W1 H1 x v h1 t S rx q2 => ⟨W1, e, h1, S, q2.bind fun W2 H2 y w h2 t2 S2 ry q3 => by
      have rx2 := stays_V.go S.hs t2 rx
      cases x with
      | tup l =>
        cases y with
        | int d =>
          have q4 : Post c (rV c H) e s W2 H2 (match asInts l with
            | some ns => .ok (.int (mxO ns d)) h2
            | none => .bad) Q := q3
          cases z : asInts l with
          | none =>
            rw [z] at q4
            exact q4.elim
          | some ns =>
            rw [z] at q4
            simp only [Rep] at rx2
            simp only [rV, Rep] at ry
            obtain ⟨p, vs, e1, sq, rs⟩ := rx2
            rw [asInts_map z] at rs
            have e2 := reps_ints_inv rs
            subst e1 e2 ry
            have q5 : Post c (rV c H) e s W2 H2 (.ok (DV.int (mxO ns d)) h2) Q := q4
            exact ⟨p, ns, d, rfl, by rw [hk]; exact sq, rfl, q5.ret S2 (by simp only [rV, Rep])⟩
        | _ => exact q3.elim
      | _ => exact q3.elim⟩
end
/-! ### l.index(x) -/
def idxI : List Int → Int → Option Nat
  | [], _ => none
  | x :: r, k => if x = k then some 0 else (idxI r k).map (· + 1)
theorem idxI_ok : ∀ {l : List Int} {k : Int} {j : Nat}, idxI l k = some j → l[j]? = some k ∧ ∀ m z, m < j → l[m]? = some z → z ≠ k
  | x :: r, k, j, h => by
    unfold idxI at h
    by_cases e : x = k
    · rw [if_pos e] at h
      cases h
      exact ⟨by rw [e]; rfl, fun m z hm => by omega⟩
    · rw [if_neg e] at h
      cases q : idxI r k with
      | none => rw [q] at h; cases h
      | some i =>
        rw [q] at h
        cases h
        obtain ⟨h1, h2⟩ := idxI_ok q
        refine ⟨by simpa using h1, fun m z hm hz => ?_⟩
        cases m with
        | zero =>
          have : x = z := by simpa using hz
          rw [← this]
          exact e
        | succ m => exact h2 m z (by have hm : m + 1 < i + 1 := hm; omega) (by simpa using hz)
  | [], _, _, h => by cases h
def vIndex (x y : DV) : M DV := fun h => match x, y with
  | .lst l, .int k => (match asInts l with
    | some ns => (match idxI ns k with
      | some j => .ok (.int (j : Int)) h
      | none => .bad)
    | none => .bad)
  | _, _ => .bad
section
variable {X : Cx} {c : Cn} {p2 p3 : Pos} {o ex : Expr} {mo mv : En → M DV}
def isLst : DV → Bool
  | .lst _ => true
  | _ => false
def eIndex (mo mv : En → M DV) : En → M DV := fun e => mo e >>= fun x h => if isLst x then (mv e >>= fun y => vIndex x y) h else .bad
theorem c_index (hk : X.K = c.g.K) (ho : PE X o (RE c mo)) (hv : PE X ex (RE c mv)) (hst : starEach (ex :: []) X.env = (false, eval ex X.env) :: starEach [] X.env := by rfl)
    (hbase : attributeBase o "index" X.env (eval o X.env) = eval o X.env := by rfl)
    (hfew : ((backTo p3 (starEach (ex :: []) X.env)).all (fun x => !x.1) && (backToKw p3 (keywordEach [] X.env)).all (fun x => x.1.isSome)
      && decide ((ex :: []).length + ([] : List Keyword).length + (if ([] : List Keyword).isEmpty then 0 else 1) < 30)) = true := by rfl)
    (hline : (p2.endLine == p3.line) = true := by rfl) :
    PE X (.Call (.Attribute o "index" p2) [ex] [] p3) (RE c (eIndex mo mv)) :=
  pe_imp (pe_bm PySem.F.plainAttrs_list PySem.F.slot_list_index PySem.F.type_list_index mt_index ho (pa_cons hv pa_nil hst) hbase hfew hline hst rfl) fun s H Q q => by
    refine RX.bind (k := fun e x h => if isLst x then (mv e >>= fun y => vIndex x y) h else .bad) q fun W e W1 H1 x v h1 t S rx q2 => ?_
    cases x with
    | lst l =>
      have q2 : Post c (rV c H) e s W1 H1 ((mv e >>= fun y => vIndex (.lst l) y) h1) Q := q2
      have rx0 : Rep c.g W1 H1 (.lst l) v := rx
      simp only [rV, Rep] at rx
      obtain ⟨a, vs, e1, f1, a1, rs⟩ := rx
      subst e1
      refine ⟨.inl ⟨rfl, _, .inl (.inl a1)⟩, W1, e, h1, S, q2.bind fun W2 H2 y w h2 t2 S2 ry q3 => ?_⟩
      have rx2 := stays_V.go S.hs t2 rx0
      cases y with
      | int k =>
        have q4 : Post c (rV c H) e s W2 H2 (match asInts l with
          | some ns => (match idxI ns k with
            | some j => .ok (.int (j : Int)) h2
            | none => .bad)
          | none => .bad) Q := q3
        cases z : asInts l with
        | none =>
          rw [z] at q4
          exact q4.elim
        | some ns =>
          rw [z] at q4
          simp only [] at q4
          cases z2 : idxI ns k with
          | none =>
            rw [z2] at q4
            exact q4.elim
          | some j =>
            rw [z2] at q4
            have q5 : Post c (rV c H) e s W2 H2 (.ok (DV.int (j : Int)) h2) Q := q4
            simp only [Rep] at rx2
            simp only [rV, Rep] at ry
            obtain ⟨p, vs2, e2, f2, a2, rs2⟩ := rx2
            cases e2
            rw [asInts_map z] at rs2
            have e3 := reps_ints_inv rs2
            subst e3 ry
            obtain ⟨i1, i2⟩ := idxI_ok z2
            refine ⟨a, ns.map V.int, .int k, j, .int k, rfl, rfl, by rw [hk]; exact .inl (.inl a2), rfl, ?_, by rw [List.getElem?_map, i1]; rfl, by simp [eqV], fun m z' hm hz => ?_, q5.ret S2 (by simp only [rV, Rep])⟩
            · rw [List.all_eq_true]
              intro y hy
              obtain ⟨i, _, e⟩ := List.mem_map.mp hy
              subst e
              rfl
            · rw [List.getElem?_map] at hz
              cases q : ns[m]? with
              | none => rw [q] at hz; cases hz
              | some z0 =>
                rw [q] at hz
                cases hz
                have := i2 m z0 hm q
                simp [eqV, this]
      | _ => exact q3.elim
    | _ => exact q2.elim
end
@[simp] theorem eIndex_app (mo mv : En → M DV) (e : En) (h : HP) : eIndex mo mv e h = bR (mo e h) fun x h => if isLst x then bR (mv e h) fun y h => vIndex x y h else .bad := rfl
theorem asInts_nums (l : List Int) : asInts (nums l) = some l := by
  induction l with
  | nil => rfl
  | cons x r ih =>
    show (match asInts (nums r) with
      | some l => some (x :: l)
      | none => none) = _
    rw [ih]
theorem vIndex_nums (l : List Int) (k : Int) (h : HP) : vIndex (.lst (nums l)) (.int k) h = match idxI l k with
    | some j => .ok (.int (j : Int)) h
    | none => .bad := by
  show (match asInts (nums l) with
    | some ns => _
    | none => _) = _
  rw [asInts_nums]
@[simp] theorem vMaxD_nums (l : List Int) (d : Int) (h : HP) : vMaxD (.tup (nums l)) (.int d) h = .ok (.int (mxO l d)) h := by
  show (match asInts (nums l) with
    | some ns => _
    | none => _) = _
  rw [asInts_nums]
end LM

/-! Constant tuples of texts. -/
namespace LM
open PySem L2
theorem isStrs_ok : ∀ {l : List Str} {vs : List Value}, isStrs l vs = true → Vals (l.map V.str) vs
  | [], [], _ => .nil
  | [], _ :: _, h => by cases h
  | i :: r, v :: s, h => by
    cases v with
    | str j t =>
      obtain ⟨a, b⟩ := He.ba (show (decide (i = j) && isStrs r s) = true from h)
      have e : i = j := of_decide_eq_true a
      subst e
      exact .cons ⟨t, rfl⟩ (isStrs_ok b)
    | _ => cases h
  | _ :: _, [], h => by cases h
theorem reps_strs {g : Glue} {W : Wd} {H : Hp} : ∀ l : List Str, Reps g W H (l.map DV.str) (l.map V.str)
  | [] => .nil
  | x :: r => .cons (by simp only [Rep]) (reps_strs r)
def CstOk (T : Tp) (x : Str) (l : List Str) : Prop := ∃ a, T.mg x = some (.ref a) ∧ ∀ W H, Rep T.g W H (.tup (l.map DV.str)) (.ref a)
theorem cst_of {T : Tp} {x : Str} {l : List Str} {a : Addr} (hm : T.mg x = some (.ref a)) (b : cstB a l T.g.K = true) : CstOk T x l := by
  refine ⟨a, hm, fun W H => ?_⟩
  unfold cstB at b
  cases q : T.g.K.lookup a with
  | none =>
    rw [q] at b
    cases b
  | some o =>
    obtain ⟨oc, od, dt, osl⟩ := o
    rw [q] at b
    cases oc with
    | type c =>
      cases dt with
      | seq its n =>
        obtain ⟨h2, h3⟩ := He.ba (show (decide (c = "tuple") && (Nat.ble its.size 1000 && isStrs l its.toList)) = true from b)
        obtain ⟨h4, h5⟩ := He.ba h3
        have ec : c = "tuple" := of_decide_eq_true h2
        have sz : its.size ≤ 1000 := Nat.le_of_ble_eq_true h4
        simp only [Rep]
        refine ⟨a, l.map V.str, rfl, .inr ⟨_, its, n, q, by rw [ec], rfl, ?_, isStrs_ok h5⟩, reps_strs l⟩
        rw [line_LN]
        show its.size ≤ 16777216
        omega
      | _ => cases b
    | _ => cases dt <;> cases b
theorem k_ctup {T : Tp} {X : Cx} {c : Cn} {N : List Str} {k : Nat} {sc : Scope} {x : Str} {pos : Pos} {l : List Str} (h : XEx T X c N k sc) (hg : Gl X x) (hm : CstOk T x l) (hd : (x == ("__debug__" : Str)) = false := by decide) : PE X (.Name x pos) (RE c (eC (.tup (l.map DV.str)))) := by
  obtain ⟨a, e, r⟩ := hm
  exact c_glob hg ⟨_, .ref a, by rw [h.pm]; exact e, rfl, fun W H => by rw [h.pg]; exact r W H⟩ hd
end LM

namespace LM
open PySem L2
def fnames_0 : List Str := ["one_deed", "added", "lessened", "multiplied", "lesser", "greater", "is_below", "is_alike", "both_deed", "folded_none", "cells_in", "sides_fit", "place_at", "index_of", "sides_met", "read_by", "without_side", "fit_turn", "fit_cut", "fit_drop"]
def fnames_1 : List Str := ["fit_wide", "fit_spread", "fit_shape", "fit_along", "fit_met", "fit_fold", "fit_pick", "fit_join", "number_of", "line_sides", "sides_of", "wanted_lines", "with_place", "spread_cell", "cell_turn", "cell_cut", "cell_drop", "cell_wide", "cell_spread", "cell_shift"]
def fnames_2 : List Str := ["cell_one", "cell_both", "cell_where", "folded", "cell_fold", "cell_run", "cell_pick", "cell_join", "plain_table", "plain_answer", "_law_taken", "_law_whole", "_law_numbers", "_law_cells", "_law_index", "_law_look", "_law_is_table", "_law_changed", "_law_view", "_law_sided"]
def fnames_3 : List Str := ["_law_own", "_law_numbered", "_law_under", "law"]
def fnames : List Str := fnames_0 ++ fnames_1 ++ fnames_2 ++ fnames_3
abbrev s_one_deed : Stmt := topS 2
abbrev N_one_deed : List Str := ["deed", "number"]
theorem sc_one_deed : FnScope N_one_deed ["deed", "number"] (defScope s_one_deed) := ⟨rfl, rfl, rfl, by decide +kernel, rfl, by decide +kernel, by decide +kernel⟩
def m_one_deed : Stm := (sSeq (sIf (tb (e2 vEq (eVar 0) (eC (.str (Str.ofString "minus"))))) (sRet (e2 vMod (e2 vSub (eC (.int 0)) (eVar 1)) (eC (.int 1000003)))) sNext) (sSeq (sIf (tb (e2 vEq (eVar 0) (eC (.str (Str.ofString "half"))))) (sRet (e2 vDiv (eVar 1) (eC (.int 2)))) sNext) (sRet (e1 vInt (e2 vEq (eVar 1) (eC (.int 0)))))))
def f_one_deed : List DV → M DV := fnM 2 m_one_deed
theorem d_one_deed {T : Tp} {X : Cx} {c : Cn} (hb : Blt T.mg) (hC_REST : ∃ t, T.mg "REST" = some (.int (1000003) t)) (hX : XSt T X c N_one_deed 0 (defScope s_one_deed)) : PSs X (defBody s_one_deed) (RS c m_one_deed) :=
  (s_cons (s_if (t_eq hX.e.kk hX.e.u (c_toB (k_var hX.e 0 rfl (.inl rfl))) (c_toB c_str)) (s_one (s_ret (c_mod (c_sub c_int (k_var hX.e 1 rfl (.inl rfl))) (k_cint hX.e (hX.e.gl rfl) hC_REST)))) s_nil) (s_cons (s_if (t_eq hX.e.kk hX.e.u (c_toB (k_var hX.e 0 rfl (.inl rfl))) (c_toB c_str)) (s_one (s_ret (c_div (k_var hX.e 1 rfl (.inl rfl)) c_int))) s_nil) (s_one (s_ret (c_intOf (hX.e.gl rfl) (hX.e.no hb.int) (c_eq hX.e.kk hX.e.u (c_toB (k_var hX.e 1 rfl (.inl rfl))) (c_toB c_int)))))))
abbrev s_added : Stmt := topS 3
abbrev N_added : List Str := ["one", "other"]
theorem sc_added : FnScope N_added ["one", "other"] (defScope s_added) := ⟨rfl, rfl, rfl, by decide +kernel, rfl, by decide +kernel, by decide +kernel⟩
def m_added : Stm := (sRet (e2 vMod (e2 vAdd (eVar 0) (eVar 1)) (eC (.int 1000003))))
def f_added : List DV → M DV := fnM 2 m_added
theorem d_added {T : Tp} {X : Cx} {c : Cn} (hb : Blt T.mg) (hC_REST : ∃ t, T.mg "REST" = some (.int (1000003) t)) (hX : XSt T X c N_added 0 (defScope s_added)) : PSs X (defBody s_added) (RS c m_added) :=
  (s_one (s_ret (c_mod (c_add hX.e.kk (c_toB (k_var hX.e 0 rfl (.inl rfl))) (c_toB (k_var hX.e 1 rfl (.inl rfl)))) (k_cint hX.e (hX.e.gl rfl) hC_REST))))
abbrev s_lessened : Stmt := topS 4
abbrev N_lessened : List Str := ["one", "other"]
theorem sc_lessened : FnScope N_lessened ["one", "other"] (defScope s_lessened) := ⟨rfl, rfl, rfl, by decide +kernel, rfl, by decide +kernel, by decide +kernel⟩
def m_lessened : Stm := (sRet (e2 vMod (e2 vSub (eVar 0) (eVar 1)) (eC (.int 1000003))))
def f_lessened : List DV → M DV := fnM 2 m_lessened
theorem d_lessened {T : Tp} {X : Cx} {c : Cn} (hb : Blt T.mg) (hC_REST : ∃ t, T.mg "REST" = some (.int (1000003) t)) (hX : XSt T X c N_lessened 0 (defScope s_lessened)) : PSs X (defBody s_lessened) (RS c m_lessened) :=
  (s_one (s_ret (c_mod (c_sub (k_var hX.e 0 rfl (.inl rfl)) (k_var hX.e 1 rfl (.inl rfl))) (k_cint hX.e (hX.e.gl rfl) hC_REST))))
abbrev s_multiplied : Stmt := topS 5
abbrev N_multiplied : List Str := ["one", "other"]
theorem sc_multiplied : FnScope N_multiplied ["one", "other"] (defScope s_multiplied) := ⟨rfl, rfl, rfl, by decide +kernel, rfl, by decide +kernel, by decide +kernel⟩
def m_multiplied : Stm := (sRet (e2 vMod (e2 vMul (eVar 0) (eVar 1)) (eC (.int 1000003))))
def f_multiplied : List DV → M DV := fnM 2 m_multiplied
theorem d_multiplied {T : Tp} {X : Cx} {c : Cn} (hb : Blt T.mg) (hC_REST : ∃ t, T.mg "REST" = some (.int (1000003) t)) (hX : XSt T X c N_multiplied 0 (defScope s_multiplied)) : PSs X (defBody s_multiplied) (RS c m_multiplied) :=
  (s_one (s_ret (c_mod (c_mul (k_var hX.e 0 rfl (.inl rfl)) (k_var hX.e 1 rfl (.inl rfl))) (k_cint hX.e (hX.e.gl rfl) hC_REST))))
abbrev s_lesser : Stmt := topS 6
abbrev N_lesser : List Str := ["one", "other"]
theorem sc_lesser : FnScope N_lesser ["one", "other"] (defScope s_lesser) := ⟨rfl, rfl, rfl, by decide +kernel, rfl, by decide +kernel, by decide +kernel⟩
def m_lesser : Stm := (sRet (e2 vMin (eVar 0) (eVar 1)))
def f_lesser : List DV → M DV := fnM 2 m_lesser
theorem d_lesser {T : Tp} {X : Cx} {c : Cn} (hb : Blt T.mg)  (hX : XSt T X c N_lesser 0 (defScope s_lesser)) : PSs X (defBody s_lesser) (RS c m_lesser) :=
  (s_one (s_ret (c_min2 hX.e.calm (hX.e.gl rfl) (hX.e.no hb.min) (k_var hX.e 0 rfl (.inl rfl)) (k_var hX.e 1 rfl (.inl rfl)))))
abbrev s_greater : Stmt := topS 7
abbrev N_greater : List Str := ["one", "other"]
theorem sc_greater : FnScope N_greater ["one", "other"] (defScope s_greater) := ⟨rfl, rfl, rfl, by decide +kernel, rfl, by decide +kernel, by decide +kernel⟩
def m_greater : Stm := (sRet (e2 vMax (eVar 0) (eVar 1)))
def f_greater : List DV → M DV := fnM 2 m_greater
theorem d_greater {T : Tp} {X : Cx} {c : Cn} (hb : Blt T.mg)  (hX : XSt T X c N_greater 0 (defScope s_greater)) : PSs X (defBody s_greater) (RS c m_greater) :=
  (s_one (s_ret (c_max2 hX.e.calm (hX.e.gl rfl) (hX.e.no hb.max) (k_var hX.e 0 rfl (.inl rfl)) (k_var hX.e 1 rfl (.inl rfl)))))
abbrev s_is_below : Stmt := topS 8
abbrev N_is_below : List Str := ["one", "other"]
theorem sc_is_below : FnScope N_is_below ["one", "other"] (defScope s_is_below) := ⟨rfl, rfl, rfl, by decide +kernel, rfl, by decide +kernel, by decide +kernel⟩
def m_is_below : Stm := (sRet (e1 vInt (e2 vLt (eVar 0) (eVar 1))))
def f_is_below : List DV → M DV := fnM 2 m_is_below
theorem d_is_below {T : Tp} {X : Cx} {c : Cn} (hb : Blt T.mg)  (hX : XSt T X c N_is_below 0 (defScope s_is_below)) : PSs X (defBody s_is_below) (RS c m_is_below) :=
  (s_one (s_ret (c_intOf (hX.e.gl rfl) (hX.e.no hb.int) (c_lt (k_var hX.e 0 rfl (.inl rfl)) (k_var hX.e 1 rfl (.inl rfl))))))
abbrev s_is_alike : Stmt := topS 9
abbrev N_is_alike : List Str := ["one", "other"]
theorem sc_is_alike : FnScope N_is_alike ["one", "other"] (defScope s_is_alike) := ⟨rfl, rfl, rfl, by decide +kernel, rfl, by decide +kernel, by decide +kernel⟩
def m_is_alike : Stm := (sRet (e1 vInt (e2 vEq (eVar 0) (eVar 1))))
def f_is_alike : List DV → M DV := fnM 2 m_is_alike
theorem d_is_alike {T : Tp} {X : Cx} {c : Cn} (hb : Blt T.mg)  (hX : XSt T X c N_is_alike 0 (defScope s_is_alike)) : PSs X (defBody s_is_alike) (RS c m_is_alike) :=
  (s_one (s_ret (c_intOf (hX.e.gl rfl) (hX.e.no hb.int) (c_eq hX.e.kk hX.e.u (c_toB (k_var hX.e 0 rfl (.inl rfl))) (c_toB (k_var hX.e 1 rfl (.inl rfl)))))))
abbrev s_both_deed : Stmt := topS 11
abbrev N_both_deed : List Str := ["deed", "one", "other"]
theorem sc_both_deed : FnScope N_both_deed ["deed", "one", "other"] (defScope s_both_deed) := ⟨rfl, rfl, rfl, by decide +kernel, rfl, by decide +kernel, by decide +kernel⟩
abbrev fs_BOTH : Fns := [(1, f_added), (2, f_lessened), (3, f_multiplied), (4, f_lesser), (5, f_greater), (6, f_is_below), (7, f_is_alike)]
def m_both_deed : Stm := (sRet (eCallF fs_BOTH (e1 (vTab tab_BOTH) (eVar 0)) (aCons (eVar 1) (aCons (eVar 2) aNil))))
def f_both_deed : List DV → M DV := fnM 3 m_both_deed
theorem d_both_deed {T : Tp} {X : Cx} {c : Cn} (hb : Blt T.mg) (F_added : Fo T "added" 1 1 2 f_added) (F_lessened : Fo T "lessened" 2 1 2 f_lessened) (F_multiplied : Fo T "multiplied" 3 1 2 f_multiplied) (F_lesser : Fo T "lesser" 4 1 2 f_lesser) (F_greater : Fo T "greater" 5 1 2 f_greater) (F_is_below : Fo T "is_below" 6 1 2 f_is_below) (F_is_alike : Fo T "is_alike" 7 1 2 f_is_alike) (hT_BOTH : TabOk T "BOTH" tab_BOTH) (hX : XSt T X c N_both_deed 1 (defScope s_both_deed)) : PSs X (defBody s_both_deed) (RS c m_both_deed) :=
  (s_one (s_ret (c_callF hX.e (FoL.cons F_added (by decide) (FoL.cons F_lessened (by decide) (FoL.cons F_multiplied (by decide) (FoL.cons F_lesser (by decide) (FoL.cons F_greater (by decide) (FoL.cons F_is_below (by decide) (FoL.cons F_is_alike (by decide) FoL.nil))))))) (k_tab hX.e hT_BOTH (hX.e.gl rfl) (k_var hX.e 0 rfl (.inl rfl))) (c_cons (k_var hX.e 1 rfl (.inl rfl)) (c_cons (k_var hX.e 2 rfl (.inl rfl)) c_nil)))))
abbrev s_folded_none : Stmt := topS 12
abbrev N_folded_none : List Str := ["deed"]
theorem sc_folded_none : FnScope N_folded_none ["deed"] (defScope s_folded_none) := ⟨rfl, rfl, rfl, by decide +kernel, rfl, by decide +kernel, by decide +kernel⟩
def m_folded_none : Stm := (sRet (e1 vInt (e2 vEq (eVar 0) (eC (.str (Str.ofString "times"))))))
def f_folded_none : List DV → M DV := fnM 1 m_folded_none
theorem d_folded_none {T : Tp} {X : Cx} {c : Cn} (hb : Blt T.mg)  (hX : XSt T X c N_folded_none 0 (defScope s_folded_none)) : PSs X (defBody s_folded_none) (RS c m_folded_none) :=
  (s_one (s_ret (c_intOf (hX.e.gl rfl) (hX.e.no hb.int) (c_eq hX.e.kk hX.e.u (c_toB (k_var hX.e 0 rfl (.inl rfl))) (c_toB c_str)))))
abbrev s_cells_in : Stmt := topS 22
abbrev N_cells_in : List Str := ["sides", "found", "size"]
theorem sc_cells_in : FnScope N_cells_in ["sides"] (defScope s_cells_in) := ⟨rfl, rfl, rfl, by decide +kernel, rfl, by decide +kernel, by decide +kernel⟩
def m_cells_in_b1 : Stm := (sSet 1 (e2 vMul (eVar 1) (eVar 2)))
def m_cells_in : Stm := (sSeq (sSet 1 (eC (.int 1))) (sSeq (sFor (iB (eVar 0) itS) (tName 2) [2] m_cells_in_b1) (sRet (eVar 1))))
def f_cells_in : List DV → M DV := fnM 3 m_cells_in
theorem d_cells_in {T : Tp} {X : Cx} {c : Cn} (hb : Blt T.mg)  (hX : XSt T X c N_cells_in 0 (defScope s_cells_in)) : PSs X (defBody s_cells_in) (RS c m_cells_in) :=
  (s_cons (k_set hX (i := 1) rfl (.inl rfl) c_int) (s_cons (k_for [2] hX (i_seq hX.e.kk (k_var hX.e 0 rfl (.inl rfl))) (k_gn hX (i := 2) rfl (.inl rfl)) (s_one (k_set hX (i := 1) rfl (.inl rfl) (c_mul (k_var hX.e 1 rfl (.inl rfl)) (k_var hX.e 2 rfl (.inl rfl)))))) (s_one (s_ret (k_var hX.e 1 rfl (.inl rfl))))))
abbrev s_sides_fit : Stmt := topS 23
abbrev N_sides_fit : List Str := ["sides", "size"]
theorem sc_sides_fit : FnScope N_sides_fit ["sides"] (defScope s_sides_fit) := ⟨rfl, rfl, rfl, by decide +kernel, rfl, by decide +kernel, by decide +kernel⟩
def m_sides_fit_b1 : Stm := (sIf (tNot (tb (e3c vLe vLe (eC (.int 0)) (eVar 1) (eC (.int 64))))) (sRet (eC (.bl false))) sNext)
def m_sides_fit : Stm := (sSeq (sIf (tb (e2 vGt (e1 vLen (eVar 0)) (eC (.int 4)))) (sRet (eC (.bl false))) sNext) (sSeq (sFor (iB (eVar 0) itS) (tName 1) [1] m_sides_fit_b1) (sRet (e2 vLe (eCall f_cells_in (aCons (eVar 0) aNil)) (eC (.int 4096))))))
def f_sides_fit : List DV → M DV := fnM 2 m_sides_fit
theorem d_sides_fit {T : Tp} {X : Cx} {c : Cn} (hb : Blt T.mg) (F_cells_in : Fo T "cells_in" 10 1 1 f_cells_in) (hC_LONGEST : ∃ t, T.mg "LONGEST" = some (.int (64) t)) (hC_MOST_CELLS : ∃ t, T.mg "MOST_CELLS" = some (.int (4096) t)) (hC_MOST_SIDES : ∃ t, T.mg "MOST_SIDES" = some (.int (4) t)) (hX : XSt T X c N_sides_fit 1 (defScope s_sides_fit)) : PSs X (defBody s_sides_fit) (RS c m_sides_fit) :=
  (s_cons (s_if (t_gt (c_len hX.e.kk (hX.e.gl rfl) (hX.e.no hb.len) (c_toB (k_var hX.e 0 rfl (.inl rfl)))) (k_cint hX.e (hX.e.gl rfl) hC_MOST_SIDES)) (s_one (s_ret c_bl)) s_nil) (s_cons (k_for [1] hX (i_seq hX.e.kk (k_var hX.e 0 rfl (.inl rfl))) (k_gn hX (i := 1) rfl (.inl rfl)) (s_one (s_if (t_not (t_lele c_int (k_var hX.e 1 rfl (.inl rfl)) (k_cint hX.e (hX.e.gl rfl) hC_LONGEST))) (s_one (s_ret c_bl)) s_nil))) (s_one (s_ret (c_le (c_call hX.e F_cells_in (by decide) (hX.e.gl rfl) (c_cons (k_var hX.e 0 rfl (.inl rfl)) c_nil)) (k_cint hX.e (hX.e.gl rfl) hC_MOST_CELLS))))))
abbrev s_place_at : Stmt := topS 24
abbrev N_place_at : List Str := ["sides", "at", "found", "size", "where"]
theorem sc_place_at : FnScope N_place_at ["sides", "at"] (defScope s_place_at) := ⟨rfl, rfl, rfl, by decide +kernel, rfl, by decide +kernel, by decide +kernel⟩
def m_place_at_b1 : Stm := (sSet 2 (e2 vAdd (e2 vMul (eVar 2) (eVar 3)) (eVar 4)))
def m_place_at : Stm := (sSeq (sSet 2 (eC (.int 0))) (sSeq (sFor (iB2 (eVar 0) (eVar 1) itZM) (tTup [3, 4]) [3, 4] m_place_at_b1) (sRet (eVar 2))))
def f_place_at : List DV → M DV := fnM 5 m_place_at
theorem d_place_at {T : Tp} {X : Cx} {c : Cn} (hb : Blt T.mg)  (hX : XSt T X c N_place_at 0 (defScope s_place_at)) : PSs X (defBody s_place_at) (RS c m_place_at) :=
  (s_cons (k_set hX (i := 2) rfl (.inl rfl) c_int) (s_cons (k_for [3, 4] hX (i_zipM hX.e.kk (hX.e.gl rfl) (hX.e.no hb.zip) (k_var hX.e 0 rfl (.inl rfl)) (k_var hX.e 1 rfl (.inl rfl))) (g_tup hX.e.kk hX.e.calm (k_gs hX (i := 3) rfl (.inl rfl) (k_gs hX (i := 4) rfl (.inl rfl) gs_nil))) (s_one (k_set hX (i := 2) rfl (.inl rfl) (c_add hX.e.kk (c_toB (c_mul (k_var hX.e 2 rfl (.inl rfl)) (k_var hX.e 3 rfl (.inl rfl)))) (c_toB (k_var hX.e 4 rfl (.inl rfl))))))) (s_one (s_ret (k_var hX.e 2 rfl (.inl rfl))))))
abbrev s_index_of : Stmt := topS 25
abbrev N_index_of : List Str := ["sides", "place", "found", "size"]
theorem sc_index_of : FnScope N_index_of ["sides", "place"] (defScope s_index_of) := ⟨rfl, rfl, rfl, by decide +kernel, rfl, by decide +kernel, by decide +kernel⟩
def m_index_of_b1 : Stm := (sSeq (sApp 2 (e2 vMod (eVar 1) (eVar 3))) (sSet 1 (e2 vDiv (eVar 1) (eVar 3))))
def m_index_of : Stm := (sSeq (sSetO 2 aNil) (sSeq (sFor (iB (eVar 0) itR) (tName 3) [3] m_index_of_b1) (sRet (e1 vTupRevA (eBor 2)))))
def f_index_of : List DV → M DV := fnM 4 m_index_of
theorem d_index_of {T : Tp} {X : Cx} {c : Cn} (hb : Blt T.mg)  (hX : XSt T X c N_index_of 0 (defScope s_index_of)) : PSs X (defBody s_index_of) (RS c m_index_of) :=
  (s_cons (k_setO hX (i := 2) rfl (.inl rfl) (c_lst c_nil)) (s_cons (k_for [3] hX (i_rev hX.e.kk (hX.e.gl rfl) (hX.e.no hb.reversed) (k_var hX.e 0 rfl (.inl rfl))) (k_gn hX (i := 3) rfl (.inl rfl)) (s_cons (k_app hX (i := 2) rfl (.inl rfl) (c_mod (k_var hX.e 1 rfl (.inl rfl)) (k_var hX.e 3 rfl (.inl rfl)))) (s_one (k_set hX (i := 1) rfl (.inl rfl) (c_div (k_var hX.e 1 rfl (.inl rfl)) (k_var hX.e 3 rfl (.inl rfl))))))) (s_one (s_ret (c_tupRevA hX.e.kk hX.e.calm (hX.e.gl rfl) (hX.e.no hb.tuple) (hX.e.gl rfl) (hX.e.no hb.reversed) (k_bor hX.e 2 rfl (.inl rfl)))))))
abbrev s_sides_met : Stmt := topS 26
abbrev N_sides_met : List Str := ["one", "other", "many", "found", "k", "here", "there"]
theorem sc_sides_met : FnScope N_sides_met ["one", "other"] (defScope s_sides_met) := ⟨rfl, rfl, rfl, by decide +kernel, rfl, by decide +kernel, by decide +kernel⟩
def m_sides_met_b1 : Stm := (sSeq (sSet 5 (eC (.int 1))) (sSeq (sSet 6 (eC (.int 1))) (sSeq (sIf (tb (e2 vGe (eVar 4) (e2 vSub (eVar 2) (e1 vLen (eVar 0))))) (sSet 5 (e2 vIdx (eVar 0) (e2 vAdd (e2 vSub (eVar 4) (eVar 2)) (e1 vLen (eVar 0))))) sNext) (sSeq (sIf (tb (e2 vGe (eVar 4) (e2 vSub (eVar 2) (e1 vLen (eVar 1))))) (sSet 6 (e2 vIdx (eVar 1) (e2 vAdd (e2 vSub (eVar 4) (eVar 2)) (e1 vLen (eVar 1))))) sNext) (sSeq (sIf (tAnd (tb (e2 vNe (eVar 5) (eVar 6))) (tAnd (tb (e2 vNe (eVar 5) (eC (.int 1)))) (tb (e2 vNe (eVar 6) (eC (.int 1)))))) (sRet (eC .non)) sNext) (sSeq (sIf (tb (e2 vEq (eVar 5) (eC (.int 1)))) (sSet 5 (eVar 6)) sNext) (sApp 3 (eVar 5))))))))
def m_sides_met : Stm := (sSeq (sSet 2 (e2 vMax (e1 vLen (eVar 0)) (e1 vLen (eVar 1)))) (sSeq (sSetO 3 aNil) (sSeq (sFor (iB (eVar 2) itN) (tName 4) [4, 5, 6] m_sides_met_b1) (sRet (e1 vTup (eBor 3))))))
def f_sides_met : List DV → M DV := fnM 7 m_sides_met
theorem d_sides_met {T : Tp} {X : Cx} {c : Cn} (hb : Blt T.mg)  (hX : XSt T X c N_sides_met 0 (defScope s_sides_met)) : PSs X (defBody s_sides_met) (RS c m_sides_met) :=
  (s_cons (k_set hX (i := 2) rfl (.inl rfl) (c_max2 hX.e.calm (hX.e.gl rfl) (hX.e.no hb.max) (c_len hX.e.kk (hX.e.gl rfl) (hX.e.no hb.len) (c_toB (k_var hX.e 0 rfl (.inl rfl)))) (c_len hX.e.kk (hX.e.gl rfl) (hX.e.no hb.len) (c_toB (k_var hX.e 1 rfl (.inl rfl)))))) (s_cons (k_setO hX (i := 3) rfl (.inl rfl) (c_lst c_nil)) (s_cons (k_for [4, 5, 6] hX (i_rng (hX.e.gl rfl) (hX.e.no hb.range) (k_var hX.e 2 rfl (.inl rfl))) (k_gn hX (i := 4) rfl (.inl rfl)) (s_cons (k_set hX (i := 5) rfl (.inl rfl) c_int) (s_cons (k_set hX (i := 6) rfl (.inl rfl) c_int) (s_cons (s_if (t_ge (k_var hX.e 4 rfl (.inl rfl)) (c_sub (k_var hX.e 2 rfl (.inl rfl)) (c_len hX.e.kk (hX.e.gl rfl) (hX.e.no hb.len) (c_toB (k_var hX.e 0 rfl (.inl rfl)))))) (s_one (k_set hX (i := 5) rfl (.inl rfl) (c_idx hX.e.kk (c_toB (k_var hX.e 0 rfl (.inl rfl))) (c_add hX.e.kk (c_toB (c_sub (k_var hX.e 4 rfl (.inl rfl)) (k_var hX.e 2 rfl (.inl rfl)))) (c_toB (c_len hX.e.kk (hX.e.gl rfl) (hX.e.no hb.len) (c_toB (k_var hX.e 0 rfl (.inl rfl))))))))) s_nil) (s_cons (s_if (t_ge (k_var hX.e 4 rfl (.inl rfl)) (c_sub (k_var hX.e 2 rfl (.inl rfl)) (c_len hX.e.kk (hX.e.gl rfl) (hX.e.no hb.len) (c_toB (k_var hX.e 1 rfl (.inl rfl)))))) (s_one (k_set hX (i := 6) rfl (.inl rfl) (c_idx hX.e.kk (c_toB (k_var hX.e 1 rfl (.inl rfl))) (c_add hX.e.kk (c_toB (c_sub (k_var hX.e 4 rfl (.inl rfl)) (k_var hX.e 2 rfl (.inl rfl)))) (c_toB (c_len hX.e.kk (hX.e.gl rfl) (hX.e.no hb.len) (c_toB (k_var hX.e 1 rfl (.inl rfl))))))))) s_nil) (s_cons (s_if (PW.pt (t_and (t_ne hX.e.kk hX.e.u (c_toB (k_var hX.e 5 rfl (.inl rfl))) (c_toB (k_var hX.e 6 rfl (.inl rfl)))) (t_and (t_ne hX.e.kk hX.e.u (c_toB (k_var hX.e 5 rfl (.inl rfl))) (c_toB c_int)) (t_and1 (t_ne hX.e.kk hX.e.u (c_toB (k_var hX.e 6 rfl (.inl rfl))) (c_toB c_int)))))) (s_one (s_ret c_non)) s_nil) (s_cons (s_if (t_eq hX.e.kk hX.e.u (c_toB (k_var hX.e 5 rfl (.inl rfl))) (c_toB c_int)) (s_one (k_set hX (i := 5) rfl (.inl rfl) (k_var hX.e 6 rfl (.inl rfl)))) s_nil) (s_one (k_app hX (i := 3) rfl (.inl rfl) (k_var hX.e 5 rfl (.inl rfl))))))))))) (s_one (s_ret (c_tupOf hX.e.kk (hX.e.gl rfl) (hX.e.no hb.tuple) (k_bor hX.e 3 rfl (.inl rfl))))))))
abbrev s_read_by : Stmt := topS 30
abbrev N_read_by : List Str := ["line", "place"]
theorem sc_read_by : FnScope N_read_by ["line"] (defScope s_read_by) := ⟨rfl, rfl, rfl, by decide +kernel, rfl, by decide +kernel, by decide +kernel⟩
def m_read_by_c1 : En → M (List DV) := (mLc [1] (iB (e1 (vTab tab_READS) (e2 vIdx (eVar 0) (eC (.int 0)))) itS) (tName 1) mYes (e2 vIdx (eVar 0) (eVar 1)))
def m_read_by : Stm := (sRet (eFrz m_read_by_c1))
def f_read_by : List DV → M DV := fnM 2 m_read_by
theorem d_read_by {T : Tp} {X : Cx} {c : Cn} (hb : Blt T.mg) (hT_READS : TabOk T "READS" tab_READS) (hX : XSt T X c N_read_by 0 (defScope s_read_by)) : PSs X (defBody s_read_by) (RS c m_read_by) :=
  (s_one (s_ret (c_frz (k_lc hX.e [("place", 1)] (i_seq hX.e.kk (k_tab hX.e hT_READS (hX.e.gl rfl) (c_idx hX.e.kk (c_toB (k_var hX.e 0 rfl (.inr (.inl rfl)))) c_int))) (by decide +kernel) (fun X' b1 => (k_gnB b1 (i := 1) rfl (.inl rfl) (.inr rfl))) (fun X' b1 => ts_nil) (fun X' b1 => (c_idx b1.e.kk (c_toB (k_var b1.e 0 rfl (.inr (.inl rfl)))) (k_var b1.e 1 rfl (.inl rfl))))))))
abbrev s_without_side : Stmt := topS 31
abbrev N_without_side : List Str := ["sides", "side"]
theorem sc_without_side : FnScope N_without_side ["sides", "side"] (defScope s_without_side) := ⟨rfl, rfl, rfl, by decide +kernel, rfl, by decide +kernel, by decide +kernel⟩
def m_without_side : Stm := (sRet (e2 vAdd (eCut (eVar 0) oNone (oSome (eVar 1))) (eCut (eVar 0) (oSome (e2 vAdd (eVar 1) (eC (.int 1)))) oNone)))
def f_without_side : List DV → M DV := fnM 2 m_without_side
theorem d_without_side {T : Tp} {X : Cx} {c : Cn} (hb : Blt T.mg)  (hX : XSt T X c N_without_side 0 (defScope s_without_side)) : PSs X (defBody s_without_side) (RS c m_without_side) :=
  (s_one (s_ret (c_add hX.e.kk (c_toB (c_cut hX.e.kk (c_toB (k_var hX.e 0 rfl (.inl rfl))) c_pn (c_ps (k_var hX.e 1 rfl (.inl rfl))))) (c_toB (c_cut hX.e.kk (c_toB (k_var hX.e 0 rfl (.inl rfl))) (c_ps (c_add hX.e.kk (c_toB (k_var hX.e 1 rfl (.inl rfl))) (c_toB c_int))) c_pn)))))
abbrev s_fit_turn : Stmt := topS 32
abbrev N_fit_turn : List Str := ["line", "own", "side"]
theorem sc_fit_turn : FnScope N_fit_turn ["line", "own"] (defScope s_fit_turn) := ⟨rfl, rfl, rfl, by decide +kernel, rfl, by decide +kernel, by decide +kernel⟩
def m_fit_turn_c1 : En → M (List DV) := (mLc [2] (iB (e2 vIdx (eVar 0) (eC (.int 2))) itS) (tName 2) mYes (e2 vIdx (e2 vIdx (eVar 1) (eC (.int 0))) (eVar 2)))
def m_fit_turn : Stm := (sSeq (sIf (tb (e2 vNe (eFrz (iB (e2 vIdx (eVar 0) (eC (.int 2))) lSrt)) (eFrz (iB (e1 vLen (e2 vIdx (eVar 1) (eC (.int 0)))) itN)))) (sRet (eC .non)) sNext) (sRet (e1 vTup (eFrz m_fit_turn_c1))))
def f_fit_turn : List DV → M DV := fnM 3 m_fit_turn
theorem d_fit_turn {T : Tp} {X : Cx} {c : Cn} (hb : Blt T.mg)  (hX : XSt T X c N_fit_turn 0 (defScope s_fit_turn)) : PSs X (defBody s_fit_turn) (RS c m_fit_turn) :=
  (s_cons (s_if (t_ne hX.e.kk hX.e.u (c_oB (c_sorted hX.e.kk (hX.e.gl rfl) (hX.e.no hb.sorted) (c_toB (c_idx hX.e.kk (c_toB (k_var hX.e 0 rfl (.inl rfl))) c_int)))) (c_oB (c_listRng hX.e.kk hX.e.calm (hX.e.gl rfl) (hX.e.no hb.list) (hX.e.gl rfl) (hX.e.no hb.range) (c_len hX.e.kk (hX.e.gl rfl) (hX.e.no hb.len) (c_toB (c_idx hX.e.kk (c_toB (k_var hX.e 1 rfl (.inr (.inl rfl)))) c_int)))))) (s_one (s_ret c_non)) s_nil) (s_one (s_ret (c_tupOf hX.e.kk (hX.e.gl rfl) (hX.e.no hb.tuple) (c_oB (k_lc hX.e [("side", 2)] (i_seq hX.e.kk (c_idx hX.e.kk (c_toB (k_var hX.e 0 rfl (.inl rfl))) c_int)) (by decide +kernel) (fun X' b1 => (k_gnB b1 (i := 2) rfl (.inl rfl) (.inr rfl))) (fun X' b1 => ts_nil) (fun X' b1 => (c_idx b1.e.kk (c_toB (c_idx b1.e.kk (c_toB (k_var b1.e 1 rfl (.inr (.inl rfl)))) c_int)) (k_var b1.e 2 rfl (.inl rfl))))))))))
abbrev s_fit_cut : Stmt := topS 33
abbrev N_fit_cut : List Str := ["line", "own", "side", "last", "size"]
theorem sc_fit_cut : FnScope N_fit_cut ["line", "own"] (defScope s_fit_cut) := ⟨rfl, rfl, rfl, by decide +kernel, rfl, by decide +kernel, by decide +kernel⟩
def m_fit_cut : Stm := (sSeq (sSet 2 (e2 vIdx (eVar 0) (eC (.int 2)))) (sSeq (sSet 3 (e2 vAdd (e2 vIdx (eVar 0) (eC (.int 3))) (e2 vMul (e2 vIdx (eVar 0) (eC (.int 4))) (e2 vSub (e2 vIdx (eVar 0) (eC (.int 5))) (eC (.int 1)))))) (sSeq (sIf (tOr (tNot (tb (e3c vLe vLt (eC (.int 0)) (eVar 2) (e1 vLen (e2 vIdx (eVar 1) (eC (.int 0))))))) (tOr (tb (e2 vEq (e2 vIdx (eVar 0) (eC (.int 4))) (eC (.int 0)))) (tb (e2 vLt (e2 vIdx (eVar 0) (eC (.int 5))) (eC (.int 0)))))) (sRet (eC .non)) sNext) (sSeq (sSet 4 (e2 vIdx (e2 vIdx (eVar 1) (eC (.int 0))) (eVar 2))) (sSeq (sIf (tAnd (tb (e2 vGt (e2 vIdx (eVar 0) (eC (.int 5))) (eC (.int 0)))) (tNot (tAnd (tb (e3c vLe vLt (eC (.int 0)) (e2 vIdx (eVar 0) (eC (.int 3))) (eVar 4))) (tb (e3c vLe vLt (eC (.int 0)) (eVar 3) (eVar 4)))))) (sRet (eC .non)) sNext) (sRet (e2 vAdd (e2 vAdd (eCut (e2 vIdx (eVar 1) (eC (.int 0))) oNone (oSome (eVar 2))) (eTup (aCons (e2 vIdx (eVar 0) (eC (.int 5))) aNil))) (eCut (e2 vIdx (eVar 1) (eC (.int 0))) (oSome (e2 vAdd (eVar 2) (eC (.int 1)))) oNone))))))))
def f_fit_cut : List DV → M DV := fnM 5 m_fit_cut
theorem d_fit_cut {T : Tp} {X : Cx} {c : Cn} (hb : Blt T.mg)  (hX : XSt T X c N_fit_cut 0 (defScope s_fit_cut)) : PSs X (defBody s_fit_cut) (RS c m_fit_cut) :=
  (s_cons (k_set hX (i := 2) rfl (.inl rfl) (c_idx hX.e.kk (c_toB (k_var hX.e 0 rfl (.inl rfl))) c_int)) (s_cons (k_set hX (i := 3) rfl (.inl rfl) (c_add hX.e.kk (c_toB (c_idx hX.e.kk (c_toB (k_var hX.e 0 rfl (.inl rfl))) c_int)) (c_toB (c_mul (c_idx hX.e.kk (c_toB (k_var hX.e 0 rfl (.inl rfl))) c_int) (c_sub (c_idx hX.e.kk (c_toB (k_var hX.e 0 rfl (.inl rfl))) c_int) c_int))))) (s_cons (s_if (PW.pt (t_or (t_not (t_lelt c_int (k_var hX.e 2 rfl (.inl rfl)) (c_len hX.e.kk (hX.e.gl rfl) (hX.e.no hb.len) (c_toB (c_idx hX.e.kk (c_toB (k_var hX.e 1 rfl (.inl rfl))) c_int))))) (t_or (t_eq hX.e.kk hX.e.u (c_toB (c_idx hX.e.kk (c_toB (k_var hX.e 0 rfl (.inl rfl))) c_int)) (c_toB c_int)) (t_or1 (t_lt (c_idx hX.e.kk (c_toB (k_var hX.e 0 rfl (.inl rfl))) c_int) c_int))))) (s_one (s_ret c_non)) s_nil) (s_cons (k_set hX (i := 4) rfl (.inl rfl) (c_idx hX.e.kk (c_toB (c_idx hX.e.kk (c_toB (k_var hX.e 1 rfl (.inl rfl))) c_int)) (k_var hX.e 2 rfl (.inl rfl)))) (s_cons (s_if (PW.pt (t_and (t_gt (c_idx hX.e.kk (c_toB (k_var hX.e 0 rfl (.inl rfl))) c_int) c_int) (t_and1 (t_not (PW.pt (t_and (t_lelt c_int (c_idx hX.e.kk (c_toB (k_var hX.e 0 rfl (.inl rfl))) c_int) (k_var hX.e 4 rfl (.inl rfl))) (t_and1 (t_lelt c_int (k_var hX.e 3 rfl (.inl rfl)) (k_var hX.e 4 rfl (.inl rfl)))))))))) (s_one (s_ret c_non)) s_nil) (s_one (s_ret (c_add hX.e.kk (c_toB (c_add hX.e.kk (c_toB (c_cut hX.e.kk (c_toB (c_idx hX.e.kk (c_toB (k_var hX.e 1 rfl (.inl rfl))) c_int)) c_pn (c_ps (k_var hX.e 2 rfl (.inl rfl))))) (c_toB (c_tup (c_cons (c_idx hX.e.kk (c_toB (k_var hX.e 0 rfl (.inl rfl))) c_int) c_nil))))) (c_toB (c_cut hX.e.kk (c_toB (c_idx hX.e.kk (c_toB (k_var hX.e 1 rfl (.inl rfl))) c_int)) (c_ps (c_add hX.e.kk (c_toB (k_var hX.e 2 rfl (.inl rfl))) (c_toB c_int))) c_pn))))))))))
abbrev s_fit_drop : Stmt := topS 34
abbrev N_fit_drop : List Str := ["line", "own"]
theorem sc_fit_drop : FnScope N_fit_drop ["line", "own"] (defScope s_fit_drop) := ⟨rfl, rfl, rfl, by decide +kernel, rfl, by decide +kernel, by decide +kernel⟩
def m_fit_drop : Stm := (sSeq (sIf (tOr (tNot (tb (e3c vLe vLt (eC (.int 0)) (e2 vIdx (eVar 0) (eC (.int 2))) (e1 vLen (e2 vIdx (eVar 1) (eC (.int 0))))))) (tNot (tb (e3c vLe vLt (eC (.int 0)) (e2 vIdx (eVar 0) (eC (.int 3))) (e2 vIdx (e2 vIdx (eVar 1) (eC (.int 0))) (e2 vIdx (eVar 0) (eC (.int 2)))))))) (sRet (eC .non)) sNext) (sRet (eCall f_without_side (aCons (e2 vIdx (eVar 1) (eC (.int 0))) (aCons (e2 vIdx (eVar 0) (eC (.int 2))) aNil)))))
def f_fit_drop : List DV → M DV := fnM 2 m_fit_drop
theorem d_fit_drop {T : Tp} {X : Cx} {c : Cn} (hb : Blt T.mg) (F_without_side : Fo T "without_side" 16 1 2 f_without_side) (hX : XSt T X c N_fit_drop 1 (defScope s_fit_drop)) : PSs X (defBody s_fit_drop) (RS c m_fit_drop) :=
  (s_cons (s_if (PW.pt (t_or (t_not (t_lelt c_int (c_idx hX.e.kk (c_toB (k_var hX.e 0 rfl (.inl rfl))) c_int) (c_len hX.e.kk (hX.e.gl rfl) (hX.e.no hb.len) (c_toB (c_idx hX.e.kk (c_toB (k_var hX.e 1 rfl (.inl rfl))) c_int))))) (t_or1 (t_not (t_lelt c_int (c_idx hX.e.kk (c_toB (k_var hX.e 0 rfl (.inl rfl))) c_int) (c_idx hX.e.kk (c_toB (c_idx hX.e.kk (c_toB (k_var hX.e 1 rfl (.inl rfl))) c_int)) (c_idx hX.e.kk (c_toB (k_var hX.e 0 rfl (.inl rfl))) c_int))))))) (s_one (s_ret c_non)) s_nil) (s_one (s_ret (c_call hX.e F_without_side (by decide) (hX.e.gl rfl) (c_cons (c_idx hX.e.kk (c_toB (k_var hX.e 1 rfl (.inl rfl))) c_int) (c_cons (c_idx hX.e.kk (c_toB (k_var hX.e 0 rfl (.inl rfl))) c_int) c_nil))))))
abbrev s_fit_wide : Stmt := topS 35
abbrev N_fit_wide : List Str := ["line", "own"]
theorem sc_fit_wide : FnScope N_fit_wide ["line", "own"] (defScope s_fit_wide) := ⟨rfl, rfl, rfl, by decide +kernel, rfl, by decide +kernel, by decide +kernel⟩
def m_fit_wide : Stm := (sSeq (sIf (tNot (tb (e3c vLe vLe (eC (.int 0)) (e2 vIdx (eVar 0) (eC (.int 2))) (e1 vLen (e2 vIdx (eVar 1) (eC (.int 0))))))) (sRet (eC .non)) sNext) (sRet (e2 vAdd (e2 vAdd (eCut (e2 vIdx (eVar 1) (eC (.int 0))) oNone (oSome (e2 vIdx (eVar 0) (eC (.int 2))))) (eTup (aCons (eC (.int 1)) aNil))) (eCut (e2 vIdx (eVar 1) (eC (.int 0))) (oSome (e2 vIdx (eVar 0) (eC (.int 2)))) oNone))))
def f_fit_wide : List DV → M DV := fnM 2 m_fit_wide
theorem d_fit_wide {T : Tp} {X : Cx} {c : Cn} (hb : Blt T.mg)  (hX : XSt T X c N_fit_wide 0 (defScope s_fit_wide)) : PSs X (defBody s_fit_wide) (RS c m_fit_wide) :=
  (s_cons (s_if (t_not (t_lele c_int (c_idx hX.e.kk (c_toB (k_var hX.e 0 rfl (.inl rfl))) c_int) (c_len hX.e.kk (hX.e.gl rfl) (hX.e.no hb.len) (c_toB (c_idx hX.e.kk (c_toB (k_var hX.e 1 rfl (.inl rfl))) c_int))))) (s_one (s_ret c_non)) s_nil) (s_one (s_ret (c_add hX.e.kk (c_toB (c_add hX.e.kk (c_toB (c_cut hX.e.kk (c_toB (c_idx hX.e.kk (c_toB (k_var hX.e 1 rfl (.inl rfl))) c_int)) c_pn (c_ps (c_idx hX.e.kk (c_toB (k_var hX.e 0 rfl (.inl rfl))) c_int)))) (c_toB (c_tup (c_cons c_int c_nil))))) (c_toB (c_cut hX.e.kk (c_toB (c_idx hX.e.kk (c_toB (k_var hX.e 1 rfl (.inl rfl))) c_int)) (c_ps (c_idx hX.e.kk (c_toB (k_var hX.e 0 rfl (.inl rfl))) c_int)) c_pn))))))
abbrev s_fit_spread : Stmt := topS 36
abbrev N_fit_spread : List Str := ["line", "own"]
theorem sc_fit_spread : FnScope N_fit_spread ["line", "own"] (defScope s_fit_spread) := ⟨rfl, rfl, rfl, by decide +kernel, rfl, by decide +kernel, by decide +kernel⟩
def m_fit_spread : Stm := (sSeq (sIf (tb (e2 vNe (eCall f_sides_met (aCons (e2 vIdx (eVar 1) (eC (.int 0))) (aCons (e2 vIdx (eVar 0) (eC (.int 2))) aNil))) (e1 vTup (e2 vIdx (eVar 0) (eC (.int 2)))))) (sRet (eC .non)) sNext) (sRet (e1 vTup (e2 vIdx (eVar 0) (eC (.int 2))))))
def f_fit_spread : List DV → M DV := fnM 2 m_fit_spread
theorem d_fit_spread {T : Tp} {X : Cx} {c : Cn} (hb : Blt T.mg) (F_sides_met : Fo T "sides_met" 14 1 2 f_sides_met) (hX : XSt T X c N_fit_spread 1 (defScope s_fit_spread)) : PSs X (defBody s_fit_spread) (RS c m_fit_spread) :=
  (s_cons (s_if (t_ne hX.e.kk hX.e.u (c_toB (c_call hX.e F_sides_met (by decide) (hX.e.gl rfl) (c_cons (c_idx hX.e.kk (c_toB (k_var hX.e 1 rfl (.inl rfl))) c_int) (c_cons (c_idx hX.e.kk (c_toB (k_var hX.e 0 rfl (.inl rfl))) c_int) c_nil)))) (c_toB (c_tupOf hX.e.kk (hX.e.gl rfl) (hX.e.no hb.tuple) (c_toB (c_idx hX.e.kk (c_toB (k_var hX.e 0 rfl (.inl rfl))) c_int))))) (s_one (s_ret c_non)) s_nil) (s_one (s_ret (c_tupOf hX.e.kk (hX.e.gl rfl) (hX.e.no hb.tuple) (c_toB (c_idx hX.e.kk (c_toB (k_var hX.e 0 rfl (.inl rfl))) c_int))))))
abbrev s_fit_shape : Stmt := topS 37
abbrev N_fit_shape : List Str := ["line", "own"]
theorem sc_fit_shape : FnScope N_fit_shape ["line", "own"] (defScope s_fit_shape) := ⟨rfl, rfl, rfl, by decide +kernel, rfl, by decide +kernel, by decide +kernel⟩
def m_fit_shape : Stm := (sSeq (sIf (tOr (tNot (tb (eCall f_sides_fit (aCons (e2 vIdx (eVar 0) (eC (.int 2))) aNil)))) (tb (e2 vNe (eCall f_cells_in (aCons (e2 vIdx (eVar 0) (eC (.int 2))) aNil)) (eCall f_cells_in (aCons (e2 vIdx (eVar 1) (eC (.int 0))) aNil))))) (sRet (eC .non)) sNext) (sRet (e1 vTup (e2 vIdx (eVar 0) (eC (.int 2))))))
def f_fit_shape : List DV → M DV := fnM 2 m_fit_shape
theorem d_fit_shape {T : Tp} {X : Cx} {c : Cn} (hb : Blt T.mg) (F_cells_in : Fo T "cells_in" 10 1 1 f_cells_in) (F_sides_fit : Fo T "sides_fit" 11 2 1 f_sides_fit) (hX : XSt T X c N_fit_shape 2 (defScope s_fit_shape)) : PSs X (defBody s_fit_shape) (RS c m_fit_shape) :=
  (s_cons (s_if (PW.pt (t_or (t_not (t_val (c_call hX.e F_sides_fit (by decide) (hX.e.gl rfl) (c_cons (c_idx hX.e.kk (c_toB (k_var hX.e 0 rfl (.inl rfl))) c_int) c_nil)))) (t_or1 (t_ne hX.e.kk hX.e.u (c_toB (c_call hX.e F_cells_in (by decide) (hX.e.gl rfl) (c_cons (c_idx hX.e.kk (c_toB (k_var hX.e 0 rfl (.inl rfl))) c_int) c_nil))) (c_toB (c_call hX.e F_cells_in (by decide) (hX.e.gl rfl) (c_cons (c_idx hX.e.kk (c_toB (k_var hX.e 1 rfl (.inl rfl))) c_int) c_nil))))))) (s_one (s_ret c_non)) s_nil) (s_one (s_ret (c_tupOf hX.e.kk (hX.e.gl rfl) (hX.e.no hb.tuple) (c_toB (c_idx hX.e.kk (c_toB (k_var hX.e 0 rfl (.inl rfl))) c_int))))))
abbrev s_fit_along : Stmt := topS 38
abbrev N_fit_along : List Str := ["line", "own", "side"]
theorem sc_fit_along : FnScope N_fit_along ["line", "own"] (defScope s_fit_along) := ⟨rfl, rfl, rfl, by decide +kernel, rfl, by decide +kernel, by decide +kernel⟩
def m_fit_along : Stm := (sSeq (sSet 2 (e2 vIdx (eVar 0) (eC (.int 2)))) (sSeq (sIf (tb (e2 vEq (e2 vIdx (eVar 0) (eC (.int 0))) (eC (.str (Str.ofString "run"))))) (sSet 2 (e2 vIdx (eVar 0) (eC (.int 3)))) sNext) (sSeq (sIf (tNot (tb (e3c vLe vLt (eC (.int 0)) (eVar 2) (e1 vLen (e2 vIdx (eVar 1) (eC (.int 0))))))) (sRet (eC .non)) sNext) (sRet (e2 vIdx (eVar 1) (eC (.int 0)))))))
def f_fit_along : List DV → M DV := fnM 3 m_fit_along
theorem d_fit_along {T : Tp} {X : Cx} {c : Cn} (hb : Blt T.mg)  (hX : XSt T X c N_fit_along 0 (defScope s_fit_along)) : PSs X (defBody s_fit_along) (RS c m_fit_along) :=
  (s_cons (k_set hX (i := 2) rfl (.inl rfl) (c_idx hX.e.kk (c_toB (k_var hX.e 0 rfl (.inl rfl))) c_int)) (s_cons (s_if (t_eq hX.e.kk hX.e.u (c_toB (c_idx hX.e.kk (c_toB (k_var hX.e 0 rfl (.inl rfl))) c_int)) (c_toB c_str)) (s_one (k_set hX (i := 2) rfl (.inl rfl) (c_idx hX.e.kk (c_toB (k_var hX.e 0 rfl (.inl rfl))) c_int))) s_nil) (s_cons (s_if (t_not (t_lelt c_int (k_var hX.e 2 rfl (.inl rfl)) (c_len hX.e.kk (hX.e.gl rfl) (hX.e.no hb.len) (c_toB (c_idx hX.e.kk (c_toB (k_var hX.e 1 rfl (.inl rfl))) c_int))))) (s_one (s_ret c_non)) s_nil) (s_one (s_ret (c_idx hX.e.kk (c_toB (k_var hX.e 1 rfl (.inl rfl))) c_int))))))
abbrev s_fit_met : Stmt := topS 39
abbrev N_fit_met : List Str := ["line", "own", "found", "sides"]
theorem sc_fit_met : FnScope N_fit_met ["line", "own"] (defScope s_fit_met) := ⟨rfl, rfl, rfl, by decide +kernel, rfl, by decide +kernel, by decide +kernel⟩
def m_fit_met_b1 : Stm := (sSeq (sSet 2 (eCall f_sides_met (aCons (eVar 2) (aCons (eVar 3) aNil)))) (sIf (tb (e1 vIsN (eVar 2))) (sRet (eC .non)) sNext))
def m_fit_met : Stm := (sSeq (sSet 2 (e2 vIdx (eVar 1) (eC (.int 0)))) (sSeq (sFor (iB (eCut (eVar 1) (oSome (eC (.int 1))) oNone) itS) (tName 3) [3] m_fit_met_b1) (sRet (eVar 2))))
def f_fit_met : List DV → M DV := fnM 4 m_fit_met
theorem d_fit_met {T : Tp} {X : Cx} {c : Cn} (hb : Blt T.mg) (F_sides_met : Fo T "sides_met" 14 1 2 f_sides_met) (hX : XSt T X c N_fit_met 1 (defScope s_fit_met)) : PSs X (defBody s_fit_met) (RS c m_fit_met) :=
  (s_cons (k_set hX (i := 2) rfl (.inl rfl) (c_idx hX.e.kk (c_toB (k_var hX.e 1 rfl (.inl rfl))) c_int)) (s_cons (k_for [3] hX (i_seq hX.e.kk (c_cut hX.e.kk (c_toB (k_var hX.e 1 rfl (.inl rfl))) (c_ps c_int) c_pn)) (k_gn hX (i := 3) rfl (.inl rfl)) (s_cons (k_set hX (i := 2) rfl (.inl rfl) (c_call hX.e F_sides_met (by decide) (hX.e.gl rfl) (c_cons (k_var hX.e 2 rfl (.inl rfl)) (c_cons (k_var hX.e 3 rfl (.inl rfl)) c_nil)))) (s_one (s_if (t_isN (c_toB (k_var hX.e 2 rfl (.inl rfl)))) (s_one (s_ret c_non)) s_nil)))) (s_one (s_ret (k_var hX.e 2 rfl (.inl rfl))))))
abbrev s_fit_fold : Stmt := topS 40
abbrev N_fit_fold : List Str := ["line", "own"]
theorem sc_fit_fold : FnScope N_fit_fold ["line", "own"] (defScope s_fit_fold) := ⟨rfl, rfl, rfl, by decide +kernel, rfl, by decide +kernel, by decide +kernel⟩
def m_fit_fold : Stm := (sSeq (sIf (tNot (tb (e3c vLe vLt (eC (.int 0)) (e2 vIdx (eVar 0) (eC (.int 3))) (e1 vLen (e2 vIdx (eVar 1) (eC (.int 0))))))) (sRet (eC .non)) sNext) (sSeq (sIf (tAnd (tb (e2 vEq (e2 vIdx (e2 vIdx (eVar 1) (eC (.int 0))) (e2 vIdx (eVar 0) (eC (.int 3)))) (eC (.int 0)))) (tb (e2 (vIn false) (e2 vIdx (eVar 0) (eC (.int 1))) (eTup (aCons (eC (.str (Str.ofString "least"))) (aCons (eC (.str (Str.ofString "most"))) aNil)))))) (sRet (eC .non)) sNext) (sRet (eCall f_without_side (aCons (e2 vIdx (eVar 1) (eC (.int 0))) (aCons (e2 vIdx (eVar 0) (eC (.int 3))) aNil))))))
def f_fit_fold : List DV → M DV := fnM 2 m_fit_fold
theorem d_fit_fold {T : Tp} {X : Cx} {c : Cn} (hb : Blt T.mg) (F_without_side : Fo T "without_side" 16 1 2 f_without_side) (hX : XSt T X c N_fit_fold 1 (defScope s_fit_fold)) : PSs X (defBody s_fit_fold) (RS c m_fit_fold) :=
  (s_cons (s_if (t_not (t_lelt c_int (c_idx hX.e.kk (c_toB (k_var hX.e 0 rfl (.inl rfl))) c_int) (c_len hX.e.kk (hX.e.gl rfl) (hX.e.no hb.len) (c_toB (c_idx hX.e.kk (c_toB (k_var hX.e 1 rfl (.inl rfl))) c_int))))) (s_one (s_ret c_non)) s_nil) (s_cons (s_if (PW.pt (t_and (t_eq hX.e.kk hX.e.u (c_toB (c_idx hX.e.kk (c_toB (c_idx hX.e.kk (c_toB (k_var hX.e 1 rfl (.inl rfl))) c_int)) (c_idx hX.e.kk (c_toB (k_var hX.e 0 rfl (.inl rfl))) c_int))) (c_toB c_int)) (t_and1 (t_in hX.e.kk (c_idx hX.e.kk (c_toB (k_var hX.e 0 rfl (.inl rfl))) c_int) (c_toB (c_tup (c_cons c_str (c_cons c_str c_nil)))))))) (s_one (s_ret c_non)) s_nil) (s_one (s_ret (c_call hX.e F_without_side (by decide) (hX.e.gl rfl) (c_cons (c_idx hX.e.kk (c_toB (k_var hX.e 1 rfl (.inl rfl))) c_int) (c_cons (c_idx hX.e.kk (c_toB (k_var hX.e 0 rfl (.inl rfl))) c_int) c_nil)))))))
abbrev s_fit_pick : Stmt := topS 41
abbrev N_fit_pick : List Str := ["line", "own", "side"]
theorem sc_fit_pick : FnScope N_fit_pick ["line", "own"] (defScope s_fit_pick) := ⟨rfl, rfl, rfl, by decide +kernel, rfl, by decide +kernel, by decide +kernel⟩
def m_fit_pick : Stm := (sSeq (sSet 2 (e2 vIdx (eVar 0) (eC (.int 2)))) (sSeq (sIf (tOr (tNot (tb (e3c vLe vLt (eC (.int 0)) (eVar 2) (e1 vLen (e2 vIdx (eVar 1) (eC (.int 0))))))) (tb (e2 vNe (e1 vLen (e2 vIdx (eVar 1) (eC (.int 1)))) (eC (.int 1))))) (sRet (eC .non)) sNext) (sRet (e2 vAdd (e2 vAdd (eCut (e2 vIdx (eVar 1) (eC (.int 0))) oNone (oSome (eVar 2))) (e2 vIdx (eVar 1) (eC (.int 1)))) (eCut (e2 vIdx (eVar 1) (eC (.int 0))) (oSome (e2 vAdd (eVar 2) (eC (.int 1)))) oNone)))))
def f_fit_pick : List DV → M DV := fnM 3 m_fit_pick
theorem d_fit_pick {T : Tp} {X : Cx} {c : Cn} (hb : Blt T.mg)  (hX : XSt T X c N_fit_pick 0 (defScope s_fit_pick)) : PSs X (defBody s_fit_pick) (RS c m_fit_pick) :=
  (s_cons (k_set hX (i := 2) rfl (.inl rfl) (c_idx hX.e.kk (c_toB (k_var hX.e 0 rfl (.inl rfl))) c_int)) (s_cons (s_if (PW.pt (t_or (t_not (t_lelt c_int (k_var hX.e 2 rfl (.inl rfl)) (c_len hX.e.kk (hX.e.gl rfl) (hX.e.no hb.len) (c_toB (c_idx hX.e.kk (c_toB (k_var hX.e 1 rfl (.inl rfl))) c_int))))) (t_or1 (t_ne hX.e.kk hX.e.u (c_toB (c_len hX.e.kk (hX.e.gl rfl) (hX.e.no hb.len) (c_toB (c_idx hX.e.kk (c_toB (k_var hX.e 1 rfl (.inl rfl))) c_int)))) (c_toB c_int))))) (s_one (s_ret c_non)) s_nil) (s_one (s_ret (c_add hX.e.kk (c_toB (c_add hX.e.kk (c_toB (c_cut hX.e.kk (c_toB (c_idx hX.e.kk (c_toB (k_var hX.e 1 rfl (.inl rfl))) c_int)) c_pn (c_ps (k_var hX.e 2 rfl (.inl rfl))))) (c_toB (c_idx hX.e.kk (c_toB (k_var hX.e 1 rfl (.inl rfl))) c_int)))) (c_toB (c_cut hX.e.kk (c_toB (c_idx hX.e.kk (c_toB (k_var hX.e 1 rfl (.inl rfl))) c_int)) (c_ps (c_add hX.e.kk (c_toB (k_var hX.e 2 rfl (.inl rfl))) (c_toB c_int))) c_pn)))))))
abbrev s_fit_join : Stmt := topS 42
abbrev N_fit_join : List Str := ["line", "own", "side"]
theorem sc_fit_join : FnScope N_fit_join ["line", "own"] (defScope s_fit_join) := ⟨rfl, rfl, rfl, by decide +kernel, rfl, by decide +kernel, by decide +kernel⟩
def m_fit_join : Stm := (sSeq (sSet 2 (e2 vIdx (eVar 0) (eC (.int 3)))) (sSeq (sIf (tOr (tNot (tb (e3c vLe vLt (eC (.int 0)) (eVar 2) (e1 vLen (e2 vIdx (eVar 1) (eC (.int 0))))))) (tb (e2 vNe (e1 vLen (e2 vIdx (eVar 1) (eC (.int 0)))) (e1 vLen (e2 vIdx (eVar 1) (eC (.int 1))))))) (sRet (eC .non)) sNext) (sSeq (sIf (tb (e2 vNe (eCall f_without_side (aCons (e2 vIdx (eVar 1) (eC (.int 0))) (aCons (eVar 2) aNil))) (eCall f_without_side (aCons (e2 vIdx (eVar 1) (eC (.int 1))) (aCons (eVar 2) aNil))))) (sRet (eC .non)) sNext) (sRet (e2 vAdd (e2 vAdd (eCut (e2 vIdx (eVar 1) (eC (.int 0))) oNone (oSome (eVar 2))) (eTup (aCons (e2 vAdd (e2 vIdx (e2 vIdx (eVar 1) (eC (.int 0))) (eVar 2)) (e2 vIdx (e2 vIdx (eVar 1) (eC (.int 1))) (eVar 2))) aNil))) (eCut (e2 vIdx (eVar 1) (eC (.int 0))) (oSome (e2 vAdd (eVar 2) (eC (.int 1)))) oNone))))))
def f_fit_join : List DV → M DV := fnM 3 m_fit_join
theorem d_fit_join {T : Tp} {X : Cx} {c : Cn} (hb : Blt T.mg) (F_without_side : Fo T "without_side" 16 1 2 f_without_side) (hX : XSt T X c N_fit_join 1 (defScope s_fit_join)) : PSs X (defBody s_fit_join) (RS c m_fit_join) :=
  (s_cons (k_set hX (i := 2) rfl (.inl rfl) (c_idx hX.e.kk (c_toB (k_var hX.e 0 rfl (.inl rfl))) c_int)) (s_cons (s_if (PW.pt (t_or (t_not (t_lelt c_int (k_var hX.e 2 rfl (.inl rfl)) (c_len hX.e.kk (hX.e.gl rfl) (hX.e.no hb.len) (c_toB (c_idx hX.e.kk (c_toB (k_var hX.e 1 rfl (.inl rfl))) c_int))))) (t_or1 (t_ne hX.e.kk hX.e.u (c_toB (c_len hX.e.kk (hX.e.gl rfl) (hX.e.no hb.len) (c_toB (c_idx hX.e.kk (c_toB (k_var hX.e 1 rfl (.inl rfl))) c_int)))) (c_toB (c_len hX.e.kk (hX.e.gl rfl) (hX.e.no hb.len) (c_toB (c_idx hX.e.kk (c_toB (k_var hX.e 1 rfl (.inl rfl))) c_int)))))))) (s_one (s_ret c_non)) s_nil) (s_cons (s_if (t_ne hX.e.kk hX.e.u (c_toB (c_call hX.e F_without_side (by decide) (hX.e.gl rfl) (c_cons (c_idx hX.e.kk (c_toB (k_var hX.e 1 rfl (.inl rfl))) c_int) (c_cons (k_var hX.e 2 rfl (.inl rfl)) c_nil)))) (c_toB (c_call hX.e F_without_side (by decide) (hX.e.gl rfl) (c_cons (c_idx hX.e.kk (c_toB (k_var hX.e 1 rfl (.inl rfl))) c_int) (c_cons (k_var hX.e 2 rfl (.inl rfl)) c_nil))))) (s_one (s_ret c_non)) s_nil) (s_one (s_ret (c_add hX.e.kk (c_toB (c_add hX.e.kk (c_toB (c_cut hX.e.kk (c_toB (c_idx hX.e.kk (c_toB (k_var hX.e 1 rfl (.inl rfl))) c_int)) c_pn (c_ps (k_var hX.e 2 rfl (.inl rfl))))) (c_toB (c_tup (c_cons (c_add hX.e.kk (c_toB (c_idx hX.e.kk (c_toB (c_idx hX.e.kk (c_toB (k_var hX.e 1 rfl (.inl rfl))) c_int)) (k_var hX.e 2 rfl (.inl rfl)))) (c_toB (c_idx hX.e.kk (c_toB (c_idx hX.e.kk (c_toB (k_var hX.e 1 rfl (.inl rfl))) c_int)) (k_var hX.e 2 rfl (.inl rfl))))) c_nil))))) (c_toB (c_cut hX.e.kk (c_toB (c_idx hX.e.kk (c_toB (k_var hX.e 1 rfl (.inl rfl))) c_int)) (c_ps (c_add hX.e.kk (c_toB (k_var hX.e 2 rfl (.inl rfl))) (c_toB c_int))) c_pn))))))))
abbrev s_number_of : Stmt := topS 44
abbrev N_number_of : List Str := ["line"]
theorem sc_number_of : FnScope N_number_of ["line"] (defScope s_number_of) := ⟨rfl, rfl, rfl, by decide +kernel, rfl, by decide +kernel, by decide +kernel⟩
def m_number_of : Stm := (sSeq (sIf (tb (e2 vEq (e2 vIdx (eVar 0) (eC (.int 0))) (eC (.str (Str.ofString "even"))))) (sRet (e2 vIdx (eVar 0) (eC (.int 2)))) sNext) (sSeq (sIf (tb (e2 vEq (e2 vIdx (eVar 0) (eC (.int 0))) (eC (.str (Str.ofString "shift"))))) (sRet (e2 vIdx (eVar 0) (eC (.int 4)))) sNext) (sRet (eC (.int 0)))))
def f_number_of : List DV → M DV := fnM 1 m_number_of
theorem d_number_of {T : Tp} {X : Cx} {c : Cn} (hb : Blt T.mg)  (hX : XSt T X c N_number_of 0 (defScope s_number_of)) : PSs X (defBody s_number_of) (RS c m_number_of) :=
  (s_cons (s_if (t_eq hX.e.kk hX.e.u (c_toB (c_idx hX.e.kk (c_toB (k_var hX.e 0 rfl (.inl rfl))) c_int)) (c_toB c_str)) (s_one (s_ret (c_idx hX.e.kk (c_toB (k_var hX.e 0 rfl (.inl rfl))) c_int))) s_nil) (s_cons (s_if (t_eq hX.e.kk hX.e.u (c_toB (c_idx hX.e.kk (c_toB (k_var hX.e 0 rfl (.inl rfl))) c_int)) (c_toB c_str)) (s_one (s_ret (c_idx hX.e.kk (c_toB (k_var hX.e 0 rfl (.inl rfl))) c_int))) s_nil) (s_one (s_ret c_int))))
abbrev s_line_sides : Stmt := topS 45
abbrev N_line_sides : List Str := ["line", "at", "known", "given", "place", "found"]
theorem sc_line_sides : FnScope N_line_sides ["line", "at", "known", "given"] (defScope s_line_sides) := ⟨rfl, rfl, rfl, by decide +kernel, rfl, by decide +kernel, by decide +kernel⟩
abbrev fs_FITS : Fns := [(17, f_fit_turn), (18, f_fit_cut), (19, f_fit_drop), (20, f_fit_wide), (21, f_fit_spread), (22, f_fit_shape), (23, f_fit_along), (24, f_fit_met), (25, f_fit_fold), (26, f_fit_pick), (27, f_fit_join)]
def m_line_sides_b1 : Stm := (sIf (tNot (tb (e3c vLe vLt (eC (.int 0)) (eVar 4) (eVar 1)))) (sRaise 2 (aCons (eVar 1) (aCons (eC (.str (Str.ofString "place"))) aNil))) sNext)
def m_line_sides_c1 : En → M (List DV) := (mLc [4] (iB (eCall f_read_by (aCons (eVar 0) aNil)) itS) (tName 4) mYes (e2 vIdx (eVar 2) (eVar 4)))
def m_line_sides : Stm := (sSeq (sIf (tAnd (tb (e2 vEq (e2 vIdx (eVar 0) (eC (.int 0))) (eC (.str (Str.ofString "given"))))) (tNot (tb (e3c vLe vLt (eC (.int 0)) (e2 vIdx (eVar 0) (eC (.int 1))) (e1 vLen (eVar 3)))))) (sRaise 2 (aCons (eVar 1) (aCons (eC (.str (Str.ofString "place"))) aNil))) sNext) (sSeq (sFor (iB (eCall f_read_by (aCons (eVar 0) aNil)) itS) (tName 4) [4] m_line_sides_b1) (sSeq (sIf (tNot (tb (e3c vLe vLt (eC (.int 0)) (eCall f_number_of (aCons (eVar 0) aNil)) (eC (.int 1000003))))) (sRaise 2 (aCons (eVar 1) (aCons (eC (.str (Str.ofString "number"))) aNil))) sNext) (sSeq (sIf (tb (e2 vEq (e2 vIdx (eVar 0) (eC (.int 0))) (eC (.str (Str.ofString "given"))))) (sSet 5 (e1 vTup (e2 vIdx (eVar 3) (e2 vIdx (eVar 0) (eC (.int 1)))))) (sIf (tb (e2 vEq (e2 vIdx (eVar 0) (eC (.int 0))) (eC (.str (Str.ofString "even"))))) (sSet 5 (e1 vTup (e2 vIdx (eVar 0) (eC (.int 1))))) (sSet 5 (eCallF fs_FITS (e1 (vTab tab_FITS) (e2 vIdx (eVar 0) (eC (.int 0)))) (aCons (eVar 0) (aCons (eFrz m_line_sides_c1) aNil)))))) (sSeq (sIf (tOr (tb (e1 vIsN (eVar 5))) (tNot (tb (eCall f_sides_fit (aCons (eVar 5) aNil))))) (sRaise 2 (aCons (eVar 1) (aCons (eC (.str (Str.ofString "sides"))) aNil))) sNext) (sRet (eVar 5)))))))
def f_line_sides : List DV → M DV := fnM 6 m_line_sides
theorem d_line_sides {T : Tp} {X : Cx} {c : Cn} (hb : Blt T.mg) (F_sides_fit : Fo T "sides_fit" 11 2 1 f_sides_fit) (F_read_by : Fo T "read_by" 15 1 1 f_read_by) (F_fit_turn : Fo T "fit_turn" 17 1 2 f_fit_turn) (F_fit_cut : Fo T "fit_cut" 18 1 2 f_fit_cut) (F_fit_drop : Fo T "fit_drop" 19 2 2 f_fit_drop) (F_fit_wide : Fo T "fit_wide" 20 1 2 f_fit_wide) (F_fit_spread : Fo T "fit_spread" 21 2 2 f_fit_spread) (F_fit_shape : Fo T "fit_shape" 22 3 2 f_fit_shape) (F_fit_along : Fo T "fit_along" 23 1 2 f_fit_along) (F_fit_met : Fo T "fit_met" 24 2 2 f_fit_met) (F_fit_fold : Fo T "fit_fold" 25 2 2 f_fit_fold) (F_fit_pick : Fo T "fit_pick" 26 1 2 f_fit_pick) (F_fit_join : Fo T "fit_join" 27 2 2 f_fit_join) (F_number_of : Fo T "number_of" 28 1 1 f_number_of) (hE_BadLine : Eo2 T "BadLine" 2 "at" "why") (hT_FITS : TabOk T "FITS" tab_FITS) (hC_REST : ∃ t, T.mg "REST" = some (.int (1000003) t)) (hX : XSt T X c N_line_sides 3 (defScope s_line_sides)) : PSs X (defBody s_line_sides) (RS c m_line_sides) :=
  (s_cons (s_if (PW.pt (t_and (t_eq hX.e.kk hX.e.u (c_toB (c_idx hX.e.kk (c_toB (k_var hX.e 0 rfl (.inl rfl))) c_int)) (c_toB c_str)) (t_and1 (t_not (t_lelt c_int (c_idx hX.e.kk (c_toB (k_var hX.e 0 rfl (.inl rfl))) c_int) (c_len hX.e.kk (hX.e.gl rfl) (hX.e.no hb.len) (c_toB (k_var hX.e 3 rfl (.inl rfl))))))))) (s_one (s_raise2 hX hE_BadLine (by decide) (hX.e.gl rfl) (c_cons (k_var hX.e 1 rfl (.inl rfl)) (c_cons c_str c_nil)))) s_nil) (s_cons (k_for [4] hX (i_seq hX.e.kk (c_call hX.e F_read_by (by decide) (hX.e.gl rfl) (c_cons (k_var hX.e 0 rfl (.inl rfl)) c_nil))) (k_gn hX (i := 4) rfl (.inl rfl)) (s_one (s_if (t_not (t_lelt c_int (k_var hX.e 4 rfl (.inl rfl)) (k_var hX.e 1 rfl (.inl rfl)))) (s_one (s_raise2 hX hE_BadLine (by decide) (hX.e.gl rfl) (c_cons (k_var hX.e 1 rfl (.inl rfl)) (c_cons c_str c_nil)))) s_nil))) (s_cons (s_if (t_not (t_lelt c_int (c_call hX.e F_number_of (by decide) (hX.e.gl rfl) (c_cons (k_var hX.e 0 rfl (.inl rfl)) c_nil)) (k_cint hX.e (hX.e.gl rfl) hC_REST))) (s_one (s_raise2 hX hE_BadLine (by decide) (hX.e.gl rfl) (c_cons (k_var hX.e 1 rfl (.inl rfl)) (c_cons c_str c_nil)))) s_nil) (s_cons (s_if (t_eq hX.e.kk hX.e.u (c_toB (c_idx hX.e.kk (c_toB (k_var hX.e 0 rfl (.inl rfl))) c_int)) (c_toB c_str)) (s_one (k_set hX (i := 5) rfl (.inl rfl) (c_tupOf hX.e.kk (hX.e.gl rfl) (hX.e.no hb.tuple) (c_toB (c_idx hX.e.kk (c_toB (k_var hX.e 3 rfl (.inl rfl))) (c_idx hX.e.kk (c_toB (k_var hX.e 0 rfl (.inl rfl))) c_int)))))) (s_one (s_if (t_eq hX.e.kk hX.e.u (c_toB (c_idx hX.e.kk (c_toB (k_var hX.e 0 rfl (.inl rfl))) c_int)) (c_toB c_str)) (s_one (k_set hX (i := 5) rfl (.inl rfl) (c_tupOf hX.e.kk (hX.e.gl rfl) (hX.e.no hb.tuple) (c_toB (c_idx hX.e.kk (c_toB (k_var hX.e 0 rfl (.inl rfl))) c_int))))) (s_one (k_set hX (i := 5) rfl (.inl rfl) (c_callF hX.e (FoL.cons F_fit_turn (by decide) (FoL.cons F_fit_cut (by decide) (FoL.cons F_fit_drop (by decide) (FoL.cons F_fit_wide (by decide) (FoL.cons F_fit_spread (by decide) (FoL.cons F_fit_shape (by decide) (FoL.cons F_fit_along (by decide) (FoL.cons F_fit_met (by decide) (FoL.cons F_fit_fold (by decide) (FoL.cons F_fit_pick (by decide) (FoL.cons F_fit_join (by decide) FoL.nil))))))))))) (k_tab hX.e hT_FITS (hX.e.gl rfl) (c_idx hX.e.kk (c_toB (k_var hX.e 0 rfl (.inl rfl))) c_int)) (c_cons (k_var hX.e 0 rfl (.inl rfl)) (c_cons (c_frz (k_lc hX.e [("place", 4)] (i_seq hX.e.kk (c_call hX.e F_read_by (by decide) (hX.e.gl rfl) (c_cons (k_var hX.e 0 rfl (.inl rfl)) c_nil))) (by decide +kernel) (fun X' b1 => (k_gnB b1 (i := 4) rfl (.inl rfl) (.inr rfl))) (fun X' b1 => ts_nil) (fun X' b1 => (c_idx b1.e.kk (c_toB (k_var b1.e 2 rfl (.inr (.inl rfl)))) (k_var b1.e 4 rfl (.inl rfl)))))) c_nil)))))))) (s_cons (s_if (PW.pt (t_or (t_isN (c_toB (k_var hX.e 5 rfl (.inl rfl)))) (t_or1 (t_not (t_val (c_call hX.e F_sides_fit (by decide) (hX.e.gl rfl) (c_cons (k_var hX.e 5 rfl (.inl rfl)) c_nil))))))) (s_one (s_raise2 hX hE_BadLine (by decide) (hX.e.gl rfl) (c_cons (k_var hX.e 1 rfl (.inl rfl)) (c_cons c_str c_nil)))) s_nil) (s_one (s_ret (k_var hX.e 5 rfl (.inl rfl)))))))))
abbrev s_sides_of : Stmt := topS 46
abbrev N_sides_of : List Str := ["program", "given", "found", "at", "line"]
theorem sc_sides_of : FnScope N_sides_of ["program", "given"] (defScope s_sides_of) := ⟨rfl, rfl, rfl, by decide +kernel, rfl, by decide +kernel, by decide +kernel⟩
def m_sides_of_b1 : Stm := (sApp 2 (eCallL f_line_sides (aCons (eVar 4) (aCons (eVar 3) (aCons (eBor 2) (aCons (eVar 1) aNil))))))
def m_sides_of : Stm := (sSeq (sIf (tb (e2 vEq (eVar 0) (eFrz aNil))) (sRaise 2 (aCons (eC (.int 0)) (aCons (eC (.str (Str.ofString "many"))) aNil))) sNext) (sSeq (sIf (tb (e2 vGt (e1 vLen (eVar 0)) (eC (.int 40)))) (sRaise 2 (aCons (eC (.int 40)) (aCons (eC (.str (Str.ofString "many"))) aNil))) sNext) (sSeq (sSetO 2 aNil) (sSeq (sFor (iB (eVar 0) itE) (tTup [3, 4]) [3, 4] m_sides_of_b1) (sSeq (sFrz 2) (sRet (eVar 2)))))))
def f_sides_of : List DV → M DV := fnM 5 m_sides_of
theorem d_sides_of {T : Tp} {X : Cx} {c : Cn} (hb : Blt T.mg) (F_line_sides : Fo T "line_sides" 29 4 4 f_line_sides) (hE_BadLine : Eo2 T "BadLine" 2 "at" "why") (hC_MOST_LINES : ∃ t, T.mg "MOST_LINES" = some (.int (40) t)) (hX : XSt T X c N_sides_of 4 (defScope s_sides_of)) : PSs X (defBody s_sides_of) (RS c m_sides_of) :=
  (s_cons (s_if (t_eq hX.e.kk hX.e.u (c_toB (k_var hX.e 0 rfl (.inl rfl))) (c_oB (c_lst c_nil))) (s_one (s_raise2 hX hE_BadLine (by decide) (hX.e.gl rfl) (c_cons c_int (c_cons c_str c_nil)))) s_nil) (s_cons (s_if (t_gt (c_len hX.e.kk (hX.e.gl rfl) (hX.e.no hb.len) (c_toB (k_var hX.e 0 rfl (.inl rfl)))) (k_cint hX.e (hX.e.gl rfl) hC_MOST_LINES)) (s_one (s_raise2 hX hE_BadLine (by decide) (hX.e.gl rfl) (c_cons (k_cint hX.e (hX.e.gl rfl) hC_MOST_LINES) (c_cons c_str c_nil)))) s_nil) (s_cons (k_setO hX (i := 2) rfl (.inl rfl) (c_lst c_nil)) (s_cons (k_for [3, 4] hX (i_enum hX.e.kk (hX.e.gl rfl) (hX.e.no hb.enumerate) (k_var hX.e 0 rfl (.inl rfl))) (g_tup hX.e.kk hX.e.calm (k_gs hX (i := 3) rfl (.inl rfl) (k_gs hX (i := 4) rfl (.inl rfl) gs_nil))) (s_one (k_app hX (i := 2) rfl (.inl rfl) (c_callL hX.e F_line_sides (by decide) (hX.e.gl rfl) (cb_cons (c_toB (k_var hX.e 4 rfl (.inl rfl))) (cb_cons (c_toB (k_var hX.e 3 rfl (.inl rfl))) (cb_cons (k_bor hX.e 2 rfl (.inl rfl)) (cb_cons (c_toB (k_var hX.e 1 rfl (.inl rfl))) cb_nil)))))))) (s_one (s_frz (i := 2) (s_ret (k_var hX.e 2 rfl (.inl rfl)))))))))
abbrev s_wanted_lines : Stmt := topS 48
abbrev N_wanted_lines : List Str := ["program", "found", "at", "place"]
theorem sc_wanted_lines : FnScope N_wanted_lines ["program"] (defScope s_wanted_lines) := ⟨rfl, rfl, rfl, by decide +kernel, rfl, by decide +kernel, by decide +kernel⟩
def m_wanted_lines_b1 : Stm := (sSetI 1 (eC (.bl true)) (eVar 3))
def m_wanted_lines_b2 : Stm := (sIf (tb (e2 vIdx (eBor 1) (eVar 2))) (sFor (iB (eCall f_read_by (aCons (e2 vIdx (eVar 0) (eVar 2)) aNil)) itS) (tName 3) [3] m_wanted_lines_b1) sNext)
def m_wanted_lines : Stm := (sSeq (sSetO 1 (iB2 (eFrz (aCons (eC (.bl false)) aNil)) (e1 vLen (eVar 0)) lMul)) (sSeq (sSetI 1 (eC (.bl true)) (e1 vNeg (eC (.int 1)))) (sSeq (sFor (iB (e1 vLen (eVar 0)) itRR) (tName 2) [2, 3] m_wanted_lines_b2) (sSeq (sFrz 1) (sRet (eVar 1))))))
def f_wanted_lines : List DV → M DV := fnM 4 m_wanted_lines
theorem d_wanted_lines {T : Tp} {X : Cx} {c : Cn} (hb : Blt T.mg) (F_read_by : Fo T "read_by" 15 1 1 f_read_by) (hX : XSt T X c N_wanted_lines 1 (defScope s_wanted_lines)) : PSs X (defBody s_wanted_lines) (RS c m_wanted_lines) :=
  (s_cons (k_setO hX (i := 1) rfl (.inl rfl) (c_mulO (c_oB (c_lst (c_cons c_bl c_nil))) (c_len hX.e.kk (hX.e.gl rfl) (hX.e.no hb.len) (c_toB (k_var hX.e 0 rfl (.inl rfl)))))) (s_cons (k_setI hX (s0 := 1) rfl (.inl rfl) c_bl (c_neg c_int)) (s_cons (k_for [2, 3] hX (i_revRng (hX.e.gl rfl) (hX.e.no hb.reversed) (hX.e.gl rfl) (hX.e.no hb.range) (c_len hX.e.kk (hX.e.gl rfl) (hX.e.no hb.len) (c_toB (k_var hX.e 0 rfl (.inl rfl))))) (k_gn hX (i := 2) rfl (.inl rfl)) (s_one (s_if (t_val (c_idx hX.e.kk (k_bor hX.e 1 rfl (.inl rfl)) (k_var hX.e 2 rfl (.inl rfl)))) (s_one (k_for [3] hX (i_seq hX.e.kk (c_call hX.e F_read_by (by decide) (hX.e.gl rfl) (c_cons (c_idx hX.e.kk (c_toB (k_var hX.e 0 rfl (.inl rfl))) (k_var hX.e 2 rfl (.inl rfl))) c_nil))) (k_gn hX (i := 3) rfl (.inl rfl)) (s_one (k_setI hX (s0 := 1) rfl (.inl rfl) c_bl (k_var hX.e 3 rfl (.inl rfl)))))) s_nil))) (s_one (s_frz (i := 1) (s_ret (k_var hX.e 1 rfl (.inl rfl))))))))
abbrev s_with_place : Stmt := topS 52
abbrev N_with_place : List Str := ["at", "side", "place"]
theorem sc_with_place : FnScope N_with_place ["at", "side", "place"] (defScope s_with_place) := ⟨rfl, rfl, rfl, by decide +kernel, rfl, by decide +kernel, by decide +kernel⟩
def m_with_place : Stm := (sRet (e2 vAdd (e2 vAdd (eCut (eVar 0) oNone (oSome (eVar 1))) (eTup (aCons (eVar 2) aNil))) (eCut (eVar 0) (oSome (e2 vAdd (eVar 1) (eC (.int 1)))) oNone)))
def f_with_place : List DV → M DV := fnM 3 m_with_place
theorem d_with_place {T : Tp} {X : Cx} {c : Cn} (hb : Blt T.mg)  (hX : XSt T X c N_with_place 0 (defScope s_with_place)) : PSs X (defBody s_with_place) (RS c m_with_place) :=
  (s_one (s_ret (c_add hX.e.kk (c_toB (c_add hX.e.kk (c_toB (c_cut hX.e.kk (c_toB (k_var hX.e 0 rfl (.inl rfl))) c_pn (c_ps (k_var hX.e 1 rfl (.inl rfl))))) (c_toB (c_tup (c_cons (k_var hX.e 2 rfl (.inl rfl)) c_nil))))) (c_toB (c_cut hX.e.kk (c_toB (k_var hX.e 0 rfl (.inl rfl))) (c_ps (c_add hX.e.kk (c_toB (k_var hX.e 1 rfl (.inl rfl))) (c_toB c_int))) c_pn)))))
abbrev s_Table_cell : Stmt := inClass (topS 50) 1
abbrev N_Table_cell : List Str := ["self", "at"]
theorem sc_Table_cell : FnScope N_Table_cell ["self", "at"] (defScope s_Table_cell) := ⟨rfl, rfl, rfl, by decide +kernel, rfl, by decide +kernel, by decide +kernel⟩
def fl_cells : List (Nat × Nat) := [(4, 1)]
def fl_sides : List (Nat × Nat) := [(4, 0)]
def m_Table_cell : Stm := (sRet (e2 vIdx (e1 (vFld fl_cells) (eVar 0)) (eCall f_place_at (aCons (e1 (vFld fl_sides) (eVar 0)) (aCons (eVar 1) aNil)))))
def f_Table_cell : List DV → M DV := fnM 2 m_Table_cell
theorem d_Table_cell {T : Tp} {X : Cx} {c : Cn} (hb : Blt T.mg) (F_place_at : Fo T "place_at" 12 1 2 f_place_at) (hF_cells : FldL T "cells" fl_cells) (hF_sides : FldL T "sides" fl_sides) (hX : XSt T X c N_Table_cell 1 (defScope s_Table_cell)) : PSs X (defBody s_Table_cell) (RS c m_Table_cell) :=
  (s_one (s_ret (c_idx hX.e.kk (c_toB (c_fld hX.e hF_cells (k_var hX.e 0 rfl (.inl rfl)))) (c_call hX.e F_place_at (by decide) (hX.e.gl rfl) (c_cons (c_fld hX.e hF_sides (k_var hX.e 0 rfl (.inl rfl))) (c_cons (k_var hX.e 1 rfl (.inl rfl)) c_nil))))))
abbrev s_spread_cell : Stmt := topS 53
abbrev N_spread_cell : List Str := ["table", "at", "own", "where", "size"]
theorem sc_spread_cell : FnScope N_spread_cell ["table", "at"] (defScope s_spread_cell) := ⟨rfl, rfl, rfl, by decide +kernel, rfl, by decide +kernel, by decide +kernel⟩
abbrev mt_cell : Fns := [(4, f_Table_cell)]
def m_spread_cell_b1 : Stm := (sApp 2 (e2 vMul (eVar 3) (e1 vInt (e2 vNe (eVar 4) (eC (.int 1))))))
def m_spread_cell : Stm := (sSeq (sSetO 2 aNil) (sSeq (sFor (iB2 (eCut (eVar 1) (oSome (e2 vSub (e1 vLen (eVar 1)) (e1 vLen (e1 (vFld fl_sides) (eVar 0))))) oNone) (e1 (vFld fl_sides) (eVar 0)) itZM) (tTup [3, 4]) [3, 4] m_spread_cell_b1) (sRet (eMeth mt_cell (eVar 0) (aCons (e1 vTup (eBor 2)) aNil)))))
def f_spread_cell : List DV → M DV := fnM 5 m_spread_cell
theorem d_spread_cell {T : Tp} {X : Cx} {c : Cn} (hb : Blt T.mg) (hF_sides : FldL T "sides" fl_sides) (hMo_cell : MoL T "cell" 2 2 mt_cell) (hX : XSt T X c N_spread_cell 2 (defScope s_spread_cell)) : PSs X (defBody s_spread_cell) (RS c m_spread_cell) :=
  (s_cons (k_setO hX (i := 2) rfl (.inl rfl) (c_lst c_nil)) (s_cons (k_for [3, 4] hX (i_zipM hX.e.kk (hX.e.gl rfl) (hX.e.no hb.zip) (c_cut hX.e.kk (c_toB (k_var hX.e 1 rfl (.inl rfl))) (c_ps (c_sub (c_len hX.e.kk (hX.e.gl rfl) (hX.e.no hb.len) (c_toB (k_var hX.e 1 rfl (.inl rfl)))) (c_len hX.e.kk (hX.e.gl rfl) (hX.e.no hb.len) (c_toB (c_fld hX.e hF_sides (k_var hX.e 0 rfl (.inl rfl))))))) c_pn) (c_fld hX.e hF_sides (k_var hX.e 0 rfl (.inl rfl)))) (g_tup hX.e.kk hX.e.calm (k_gs hX (i := 3) rfl (.inl rfl) (k_gs hX (i := 4) rfl (.inl rfl) gs_nil))) (s_one (k_app hX (i := 2) rfl (.inl rfl) (c_mul (k_var hX.e 3 rfl (.inl rfl)) (c_intOf (hX.e.gl rfl) (hX.e.no hb.int) (c_ne hX.e.kk hX.e.u (c_toB (k_var hX.e 4 rfl (.inl rfl))) (c_toB c_int))))))) (s_one (s_ret (c_meth hX.e (hMo_cell.mono (by decide)) (k_var hX.e 0 rfl (.inl rfl)) (c_cons (c_tupOf hX.e.kk (hX.e.gl rfl) (hX.e.no hb.tuple) (k_bor hX.e 2 rfl (.inl rfl))) c_nil))))))
abbrev s_cell_turn : Stmt := topS 54
abbrev N_cell_turn : List Str := ["line", "own", "at", "where", "k", "side"]
theorem sc_cell_turn : FnScope N_cell_turn ["line", "own", "at"] (defScope s_cell_turn) := ⟨rfl, rfl, rfl, by decide +kernel, rfl, by decide +kernel, by decide +kernel⟩
def m_cell_turn_b1 : Stm := (sSetI 3 (e2 vIdx (eVar 2) (eVar 4)) (eVar 5))
def m_cell_turn : Stm := (sSeq (sSetO 3 (iB2 (eFrz (aCons (eC (.int 0)) aNil)) (e1 vLen (eVar 2)) lMul)) (sSeq (sFor (iB (e2 vIdx (eVar 0) (eC (.int 2))) itE) (tTup [4, 5]) [4, 5] m_cell_turn_b1) (sSeq (sFrz 3) (sRet (eMeth mt_cell (e2 vIdx (eVar 1) (eC (.int 0))) (aCons (eVar 3) aNil))))))
def f_cell_turn : List DV → M DV := fnM 6 m_cell_turn
theorem d_cell_turn {T : Tp} {X : Cx} {c : Cn} (hb : Blt T.mg) (hMo_cell : MoL T "cell" 2 2 mt_cell) (hX : XSt T X c N_cell_turn 2 (defScope s_cell_turn)) : PSs X (defBody s_cell_turn) (RS c m_cell_turn) :=
  (s_cons (k_setO hX (i := 3) rfl (.inl rfl) (c_mulO (c_oB (c_lst (c_cons c_int c_nil))) (c_len hX.e.kk (hX.e.gl rfl) (hX.e.no hb.len) (c_toB (k_var hX.e 2 rfl (.inl rfl)))))) (s_cons (k_for [4, 5] hX (i_enum hX.e.kk (hX.e.gl rfl) (hX.e.no hb.enumerate) (c_idx hX.e.kk (c_toB (k_var hX.e 0 rfl (.inl rfl))) c_int)) (g_tup hX.e.kk hX.e.calm (k_gs hX (i := 4) rfl (.inl rfl) (k_gs hX (i := 5) rfl (.inl rfl) gs_nil))) (s_one (k_setI hX (s0 := 3) rfl (.inl rfl) (c_idx hX.e.kk (c_toB (k_var hX.e 2 rfl (.inl rfl))) (k_var hX.e 4 rfl (.inl rfl))) (k_var hX.e 5 rfl (.inl rfl))))) (s_one (s_frz (i := 3) (s_ret (c_meth hX.e (hMo_cell.mono (by decide)) (c_idx hX.e.kk (c_toB (k_var hX.e 1 rfl (.inl rfl))) c_int) (c_cons (k_var hX.e 3 rfl (.inl rfl)) c_nil)))))))
abbrev s_cell_cut : Stmt := topS 55
abbrev N_cell_cut : List Str := ["line", "own", "at"]
theorem sc_cell_cut : FnScope N_cell_cut ["line", "own", "at"] (defScope s_cell_cut) := ⟨rfl, rfl, rfl, by decide +kernel, rfl, by decide +kernel, by decide +kernel⟩
def m_cell_cut : Stm := (sRet (eMeth mt_cell (e2 vIdx (eVar 1) (eC (.int 0))) (aCons (eCall f_with_place (aCons (eVar 2) (aCons (e2 vIdx (eVar 0) (eC (.int 2))) (aCons (e2 vAdd (e2 vIdx (eVar 0) (eC (.int 3))) (e2 vMul (e2 vIdx (eVar 0) (eC (.int 4))) (e2 vIdx (eVar 2) (e2 vIdx (eVar 0) (eC (.int 2)))))) aNil)))) aNil)))
def f_cell_cut : List DV → M DV := fnM 3 m_cell_cut
theorem d_cell_cut {T : Tp} {X : Cx} {c : Cn} (hb : Blt T.mg) (F_with_place : Fo T "with_place" 32 1 3 f_with_place) (hMo_cell : MoL T "cell" 2 2 mt_cell) (hX : XSt T X c N_cell_cut 2 (defScope s_cell_cut)) : PSs X (defBody s_cell_cut) (RS c m_cell_cut) :=
  (s_one (s_ret (c_meth hX.e (hMo_cell.mono (by decide)) (c_idx hX.e.kk (c_toB (k_var hX.e 1 rfl (.inl rfl))) c_int) (c_cons (c_call hX.e F_with_place (by decide) (hX.e.gl rfl) (c_cons (k_var hX.e 2 rfl (.inl rfl)) (c_cons (c_idx hX.e.kk (c_toB (k_var hX.e 0 rfl (.inl rfl))) c_int) (c_cons (c_add hX.e.kk (c_toB (c_idx hX.e.kk (c_toB (k_var hX.e 0 rfl (.inl rfl))) c_int)) (c_toB (c_mul (c_idx hX.e.kk (c_toB (k_var hX.e 0 rfl (.inl rfl))) c_int) (c_idx hX.e.kk (c_toB (k_var hX.e 2 rfl (.inl rfl))) (c_idx hX.e.kk (c_toB (k_var hX.e 0 rfl (.inl rfl))) c_int))))) c_nil)))) c_nil))))
abbrev s_cell_drop : Stmt := topS 56
abbrev N_cell_drop : List Str := ["line", "own", "at"]
theorem sc_cell_drop : FnScope N_cell_drop ["line", "own", "at"] (defScope s_cell_drop) := ⟨rfl, rfl, rfl, by decide +kernel, rfl, by decide +kernel, by decide +kernel⟩
def m_cell_drop : Stm := (sRet (eMeth mt_cell (e2 vIdx (eVar 1) (eC (.int 0))) (aCons (e2 vAdd (e2 vAdd (eCut (eVar 2) oNone (oSome (e2 vIdx (eVar 0) (eC (.int 2))))) (eTup (aCons (e2 vIdx (eVar 0) (eC (.int 3))) aNil))) (eCut (eVar 2) (oSome (e2 vIdx (eVar 0) (eC (.int 2)))) oNone)) aNil)))
def f_cell_drop : List DV → M DV := fnM 3 m_cell_drop
theorem d_cell_drop {T : Tp} {X : Cx} {c : Cn} (hb : Blt T.mg) (hMo_cell : MoL T "cell" 2 2 mt_cell) (hX : XSt T X c N_cell_drop 2 (defScope s_cell_drop)) : PSs X (defBody s_cell_drop) (RS c m_cell_drop) :=
  (s_one (s_ret (c_meth hX.e (hMo_cell.mono (by decide)) (c_idx hX.e.kk (c_toB (k_var hX.e 1 rfl (.inl rfl))) c_int) (c_cons (c_add hX.e.kk (c_toB (c_add hX.e.kk (c_toB (c_cut hX.e.kk (c_toB (k_var hX.e 2 rfl (.inl rfl))) c_pn (c_ps (c_idx hX.e.kk (c_toB (k_var hX.e 0 rfl (.inl rfl))) c_int)))) (c_toB (c_tup (c_cons (c_idx hX.e.kk (c_toB (k_var hX.e 0 rfl (.inl rfl))) c_int) c_nil))))) (c_toB (c_cut hX.e.kk (c_toB (k_var hX.e 2 rfl (.inl rfl))) (c_ps (c_idx hX.e.kk (c_toB (k_var hX.e 0 rfl (.inl rfl))) c_int)) c_pn))) c_nil))))
abbrev s_cell_wide : Stmt := topS 57
abbrev N_cell_wide : List Str := ["line", "own", "at"]
theorem sc_cell_wide : FnScope N_cell_wide ["line", "own", "at"] (defScope s_cell_wide) := ⟨rfl, rfl, rfl, by decide +kernel, rfl, by decide +kernel, by decide +kernel⟩
def m_cell_wide : Stm := (sRet (eMeth mt_cell (e2 vIdx (eVar 1) (eC (.int 0))) (aCons (e2 vAdd (eCut (eVar 2) oNone (oSome (e2 vIdx (eVar 0) (eC (.int 2))))) (eCut (eVar 2) (oSome (e2 vAdd (e2 vIdx (eVar 0) (eC (.int 2))) (eC (.int 1)))) oNone)) aNil)))
def f_cell_wide : List DV → M DV := fnM 3 m_cell_wide
theorem d_cell_wide {T : Tp} {X : Cx} {c : Cn} (hb : Blt T.mg) (hMo_cell : MoL T "cell" 2 2 mt_cell) (hX : XSt T X c N_cell_wide 2 (defScope s_cell_wide)) : PSs X (defBody s_cell_wide) (RS c m_cell_wide) :=
  (s_one (s_ret (c_meth hX.e (hMo_cell.mono (by decide)) (c_idx hX.e.kk (c_toB (k_var hX.e 1 rfl (.inl rfl))) c_int) (c_cons (c_add hX.e.kk (c_toB (c_cut hX.e.kk (c_toB (k_var hX.e 2 rfl (.inl rfl))) c_pn (c_ps (c_idx hX.e.kk (c_toB (k_var hX.e 0 rfl (.inl rfl))) c_int)))) (c_toB (c_cut hX.e.kk (c_toB (k_var hX.e 2 rfl (.inl rfl))) (c_ps (c_add hX.e.kk (c_toB (c_idx hX.e.kk (c_toB (k_var hX.e 0 rfl (.inl rfl))) c_int)) (c_toB c_int))) c_pn))) c_nil))))
abbrev s_cell_spread : Stmt := topS 58
abbrev N_cell_spread : List Str := ["line", "own", "at"]
theorem sc_cell_spread : FnScope N_cell_spread ["line", "own", "at"] (defScope s_cell_spread) := ⟨rfl, rfl, rfl, by decide +kernel, rfl, by decide +kernel, by decide +kernel⟩
def m_cell_spread : Stm := (sRet (eCall f_spread_cell (aCons (e2 vIdx (eVar 1) (eC (.int 0))) (aCons (eVar 2) aNil))))
def f_cell_spread : List DV → M DV := fnM 3 m_cell_spread
theorem d_cell_spread {T : Tp} {X : Cx} {c : Cn} (hb : Blt T.mg) (F_spread_cell : Fo T "spread_cell" 33 3 2 f_spread_cell) (hX : XSt T X c N_cell_spread 3 (defScope s_cell_spread)) : PSs X (defBody s_cell_spread) (RS c m_cell_spread) :=
  (s_one (s_ret (c_call hX.e F_spread_cell (by decide) (hX.e.gl rfl) (c_cons (c_idx hX.e.kk (c_toB (k_var hX.e 1 rfl (.inl rfl))) c_int) (c_cons (k_var hX.e 2 rfl (.inl rfl)) c_nil)))))
abbrev s_cell_shift : Stmt := topS 59
abbrev N_cell_shift : List Str := ["line", "own", "at", "where"]
theorem sc_cell_shift : FnScope N_cell_shift ["line", "own", "at"] (defScope s_cell_shift) := ⟨rfl, rfl, rfl, by decide +kernel, rfl, by decide +kernel, by decide +kernel⟩
def m_cell_shift : Stm := (sSeq (sSet 3 (e2 vSub (e2 vIdx (eVar 2) (e2 vIdx (eVar 0) (eC (.int 2)))) (e2 vIdx (eVar 0) (eC (.int 3))))) (sSeq (sIf (tNot (tb (e3c vLe vLt (eC (.int 0)) (eVar 3) (e2 vIdx (e1 (vFld fl_sides) (e2 vIdx (eVar 1) (eC (.int 0)))) (e2 vIdx (eVar 0) (eC (.int 2))))))) (sRet (e2 vIdx (eVar 0) (eC (.int 4)))) sNext) (sRet (eMeth mt_cell (e2 vIdx (eVar 1) (eC (.int 0))) (aCons (eCall f_with_place (aCons (eVar 2) (aCons (e2 vIdx (eVar 0) (eC (.int 2))) (aCons (eVar 3) aNil)))) aNil)))))
def f_cell_shift : List DV → M DV := fnM 4 m_cell_shift
theorem d_cell_shift {T : Tp} {X : Cx} {c : Cn} (hb : Blt T.mg) (F_with_place : Fo T "with_place" 32 1 3 f_with_place) (hF_sides : FldL T "sides" fl_sides) (hMo_cell : MoL T "cell" 2 2 mt_cell) (hX : XSt T X c N_cell_shift 2 (defScope s_cell_shift)) : PSs X (defBody s_cell_shift) (RS c m_cell_shift) :=
  (s_cons (k_set hX (i := 3) rfl (.inl rfl) (c_sub (c_idx hX.e.kk (c_toB (k_var hX.e 2 rfl (.inl rfl))) (c_idx hX.e.kk (c_toB (k_var hX.e 0 rfl (.inl rfl))) c_int)) (c_idx hX.e.kk (c_toB (k_var hX.e 0 rfl (.inl rfl))) c_int))) (s_cons (s_if (t_not (t_lelt c_int (k_var hX.e 3 rfl (.inl rfl)) (c_idx hX.e.kk (c_toB (c_fld hX.e hF_sides (c_idx hX.e.kk (c_toB (k_var hX.e 1 rfl (.inl rfl))) c_int))) (c_idx hX.e.kk (c_toB (k_var hX.e 0 rfl (.inl rfl))) c_int)))) (s_one (s_ret (c_idx hX.e.kk (c_toB (k_var hX.e 0 rfl (.inl rfl))) c_int))) s_nil) (s_one (s_ret (c_meth hX.e (hMo_cell.mono (by decide)) (c_idx hX.e.kk (c_toB (k_var hX.e 1 rfl (.inl rfl))) c_int) (c_cons (c_call hX.e F_with_place (by decide) (hX.e.gl rfl) (c_cons (k_var hX.e 2 rfl (.inl rfl)) (c_cons (c_idx hX.e.kk (c_toB (k_var hX.e 0 rfl (.inl rfl))) c_int) (c_cons (k_var hX.e 3 rfl (.inl rfl)) c_nil)))) c_nil))))))
abbrev s_cell_one : Stmt := topS 60
abbrev N_cell_one : List Str := ["line", "own", "at"]
theorem sc_cell_one : FnScope N_cell_one ["line", "own", "at"] (defScope s_cell_one) := ⟨rfl, rfl, rfl, by decide +kernel, rfl, by decide +kernel, by decide +kernel⟩
def m_cell_one : Stm := (sRet (eCall f_one_deed (aCons (e2 vIdx (eVar 0) (eC (.int 1))) (aCons (eMeth mt_cell (e2 vIdx (eVar 1) (eC (.int 0))) (aCons (eVar 2) aNil)) aNil))))
def f_cell_one : List DV → M DV := fnM 3 m_cell_one
theorem d_cell_one {T : Tp} {X : Cx} {c : Cn} (hb : Blt T.mg) (F_one_deed : Fo T "one_deed" 0 1 2 f_one_deed) (hMo_cell : MoL T "cell" 2 2 mt_cell) (hX : XSt T X c N_cell_one 2 (defScope s_cell_one)) : PSs X (defBody s_cell_one) (RS c m_cell_one) :=
  (s_one (s_ret (c_call hX.e F_one_deed (by decide) (hX.e.gl rfl) (c_cons (c_idx hX.e.kk (c_toB (k_var hX.e 0 rfl (.inl rfl))) c_int) (c_cons (c_meth hX.e (hMo_cell.mono (by decide)) (c_idx hX.e.kk (c_toB (k_var hX.e 1 rfl (.inl rfl))) c_int) (c_cons (k_var hX.e 2 rfl (.inl rfl)) c_nil)) c_nil)))))
abbrev s_cell_both : Stmt := topS 61
abbrev N_cell_both : List Str := ["line", "own", "at"]
theorem sc_cell_both : FnScope N_cell_both ["line", "own", "at"] (defScope s_cell_both) := ⟨rfl, rfl, rfl, by decide +kernel, rfl, by decide +kernel, by decide +kernel⟩
def m_cell_both : Stm := (sRet (eCall f_both_deed (aCons (e2 vIdx (eVar 0) (eC (.int 1))) (aCons (eCall f_spread_cell (aCons (e2 vIdx (eVar 1) (eC (.int 0))) (aCons (eVar 2) aNil))) (aCons (eCall f_spread_cell (aCons (e2 vIdx (eVar 1) (eC (.int 1))) (aCons (eVar 2) aNil))) aNil)))))
def f_cell_both : List DV → M DV := fnM 3 m_cell_both
theorem d_cell_both {T : Tp} {X : Cx} {c : Cn} (hb : Blt T.mg) (F_both_deed : Fo T "both_deed" 8 2 3 f_both_deed) (F_spread_cell : Fo T "spread_cell" 33 3 2 f_spread_cell) (hX : XSt T X c N_cell_both 3 (defScope s_cell_both)) : PSs X (defBody s_cell_both) (RS c m_cell_both) :=
  (s_one (s_ret (c_call hX.e F_both_deed (by decide) (hX.e.gl rfl) (c_cons (c_idx hX.e.kk (c_toB (k_var hX.e 0 rfl (.inl rfl))) c_int) (c_cons (c_call hX.e F_spread_cell (by decide) (hX.e.gl rfl) (c_cons (c_idx hX.e.kk (c_toB (k_var hX.e 1 rfl (.inl rfl))) c_int) (c_cons (k_var hX.e 2 rfl (.inl rfl)) c_nil))) (c_cons (c_call hX.e F_spread_cell (by decide) (hX.e.gl rfl) (c_cons (c_idx hX.e.kk (c_toB (k_var hX.e 1 rfl (.inl rfl))) c_int) (c_cons (k_var hX.e 2 rfl (.inl rfl)) c_nil))) c_nil))))))
abbrev s_cell_where : Stmt := topS 62
abbrev N_cell_where : List Str := ["line", "own", "at"]
theorem sc_cell_where : FnScope N_cell_where ["line", "own", "at"] (defScope s_cell_where) := ⟨rfl, rfl, rfl, by decide +kernel, rfl, by decide +kernel, by decide +kernel⟩
def m_cell_where : Stm := (sSeq (sIf (tb (e2 vNe (eCall f_spread_cell (aCons (e2 vIdx (eVar 1) (eC (.int 0))) (aCons (eVar 2) aNil))) (eC (.int 0)))) (sRet (eCall f_spread_cell (aCons (e2 vIdx (eVar 1) (eC (.int 1))) (aCons (eVar 2) aNil)))) sNext) (sRet (eCall f_spread_cell (aCons (e2 vIdx (eVar 1) (eC (.int 2))) (aCons (eVar 2) aNil)))))
def f_cell_where : List DV → M DV := fnM 3 m_cell_where
theorem d_cell_where {T : Tp} {X : Cx} {c : Cn} (hb : Blt T.mg) (F_spread_cell : Fo T "spread_cell" 33 3 2 f_spread_cell) (hX : XSt T X c N_cell_where 3 (defScope s_cell_where)) : PSs X (defBody s_cell_where) (RS c m_cell_where) :=
  (s_cons (s_if (t_ne hX.e.kk hX.e.u (c_toB (c_call hX.e F_spread_cell (by decide) (hX.e.gl rfl) (c_cons (c_idx hX.e.kk (c_toB (k_var hX.e 1 rfl (.inl rfl))) c_int) (c_cons (k_var hX.e 2 rfl (.inl rfl)) c_nil)))) (c_toB c_int)) (s_one (s_ret (c_call hX.e F_spread_cell (by decide) (hX.e.gl rfl) (c_cons (c_idx hX.e.kk (c_toB (k_var hX.e 1 rfl (.inl rfl))) c_int) (c_cons (k_var hX.e 2 rfl (.inl rfl)) c_nil))))) s_nil) (s_one (s_ret (c_call hX.e F_spread_cell (by decide) (hX.e.gl rfl) (c_cons (c_idx hX.e.kk (c_toB (k_var hX.e 1 rfl (.inl rfl))) c_int) (c_cons (k_var hX.e 2 rfl (.inl rfl)) c_nil))))))
abbrev s_folded : Stmt := topS 63
abbrev N_folded : List Str := ["deed", "numbers", "found", "number"]
theorem sc_folded : FnScope N_folded ["deed", "numbers"] (defScope s_folded) := ⟨rfl, rfl, rfl, by decide +kernel, rfl, by decide +kernel, by decide +kernel⟩
def m_folded_b1 : Stm := (sSet 2 (eCall f_both_deed (aCons (eVar 0) (aCons (eVar 2) (aCons (eVar 3) aNil)))))
def m_folded : Stm := (sSeq (sIf (tb (e2 vEq (eVar 1) (eFrz aNil))) (sRet (eCall f_folded_none (aCons (eVar 0) aNil))) sNext) (sSeq (sSet 2 (e2 vIdx (eVar 1) (eC (.int 0)))) (sSeq (sFor (iB (eCut (eVar 1) (oSome (eC (.int 1))) oNone) itS) (tName 3) [3] m_folded_b1) (sRet (eVar 2)))))
def f_folded : List DV → M DV := fnM 4 m_folded
theorem d_folded {T : Tp} {X : Cx} {c : Cn} (hb : Blt T.mg) (F_both_deed : Fo T "both_deed" 8 2 3 f_both_deed) (F_folded_none : Fo T "folded_none" 9 1 1 f_folded_none) (hX : XSt T X c N_folded 2 (defScope s_folded)) : PSs X (defBody s_folded) (RS c m_folded) :=
  (s_cons (s_if (t_eq hX.e.kk hX.e.u (c_toB (k_var hX.e 1 rfl (.inl rfl))) (c_oB (c_lst c_nil))) (s_one (s_ret (c_call hX.e F_folded_none (by decide) (hX.e.gl rfl) (c_cons (k_var hX.e 0 rfl (.inl rfl)) c_nil)))) s_nil) (s_cons (k_set hX (i := 2) rfl (.inl rfl) (c_idx hX.e.kk (c_toB (k_var hX.e 1 rfl (.inl rfl))) c_int)) (s_cons (k_for [3] hX (i_seq hX.e.kk (c_cut hX.e.kk (c_toB (k_var hX.e 1 rfl (.inl rfl))) (c_ps c_int) c_pn)) (k_gn hX (i := 3) rfl (.inl rfl)) (s_one (k_set hX (i := 2) rfl (.inl rfl) (c_call hX.e F_both_deed (by decide) (hX.e.gl rfl) (c_cons (k_var hX.e 0 rfl (.inl rfl)) (c_cons (k_var hX.e 2 rfl (.inl rfl)) (c_cons (k_var hX.e 3 rfl (.inl rfl)) c_nil))))))) (s_one (s_ret (k_var hX.e 2 rfl (.inl rfl)))))))
abbrev s_cell_fold : Stmt := topS 64
abbrev N_cell_fold : List Str := ["line", "own", "at", "side", "size", "k"]
theorem sc_cell_fold : FnScope N_cell_fold ["line", "own", "at"] (defScope s_cell_fold) := ⟨rfl, rfl, rfl, by decide +kernel, rfl, by decide +kernel, by decide +kernel⟩
def m_cell_fold_c1 : En → M (List DV) := (mLc [5] (iB (eVar 4) itN) (tName 5) mYes (eMeth mt_cell (e2 vIdx (eVar 1) (eC (.int 0))) (aCons (e2 vAdd (e2 vAdd (eCut (eVar 2) oNone (oSome (eVar 3))) (eTup (aCons (eVar 5) aNil))) (eCut (eVar 2) (oSome (eVar 3)) oNone)) aNil)))
def m_cell_fold : Stm := (sSeq (sSet 3 (e2 vIdx (eVar 0) (eC (.int 3)))) (sSeq (sSet 4 (e2 vIdx (e1 (vFld fl_sides) (e2 vIdx (eVar 1) (eC (.int 0)))) (eVar 3))) (sRet (eCall f_folded (aCons (e2 vIdx (eVar 0) (eC (.int 1))) (aCons (eFrz m_cell_fold_c1) aNil))))))
def f_cell_fold : List DV → M DV := fnM 6 m_cell_fold
theorem d_cell_fold {T : Tp} {X : Cx} {c : Cn} (hb : Blt T.mg) (F_folded : Fo T "folded" 43 3 2 f_folded) (hF_sides : FldL T "sides" fl_sides) (hMo_cell : MoL T "cell" 2 2 mt_cell) (hX : XSt T X c N_cell_fold 3 (defScope s_cell_fold)) : PSs X (defBody s_cell_fold) (RS c m_cell_fold) :=
  (s_cons (k_set hX (i := 3) rfl (.inr rfl) (c_idx hX.e.kk (c_toB (k_var hX.e 0 rfl (.inl rfl))) c_int)) (s_cons (k_set hX (i := 4) rfl (.inl rfl) (c_idx hX.e.kk (c_toB (c_fld hX.e hF_sides (c_idx hX.e.kk (c_toB (k_var hX.e 1 rfl (.inr (.inl rfl)))) c_int))) (k_var hX.e 3 rfl (.inr (.inl rfl))))) (s_one (s_ret (c_call hX.e F_folded (by decide) (hX.e.gl rfl) (c_cons (c_idx hX.e.kk (c_toB (k_var hX.e 0 rfl (.inl rfl))) c_int) (c_cons (c_frz (k_lc hX.e [("k", 5)] (i_rng (hX.e.gl rfl) (hX.e.no hb.range) (k_var hX.e 4 rfl (.inl rfl))) (by decide +kernel) (fun X' b1 => (k_gnB b1 (i := 5) rfl (.inl rfl) (.inr rfl))) (fun X' b1 => ts_nil) (fun X' b1 => (c_meth b1.e (hMo_cell.mono (by decide)) (c_idx b1.e.kk (c_toB (k_var b1.e 1 rfl (.inr (.inl rfl)))) c_int) (c_cons (c_add b1.e.kk (c_toB (c_add b1.e.kk (c_toB (c_cut b1.e.kk (c_toB (k_var b1.e 2 rfl (.inr (.inl rfl)))) c_pn (c_ps (k_var b1.e 3 rfl (.inr (.inl rfl)))))) (c_toB (c_tup (c_cons (k_var b1.e 5 rfl (.inl rfl)) c_nil))))) (c_toB (c_cut b1.e.kk (c_toB (k_var b1.e 2 rfl (.inr (.inl rfl)))) (c_ps (k_var b1.e 3 rfl (.inr (.inl rfl)))) c_pn))) c_nil))))) c_nil)))))))
abbrev s_cell_run : Stmt := topS 65
abbrev N_cell_run : List Str := ["line", "own", "at", "side", "k"]
theorem sc_cell_run : FnScope N_cell_run ["line", "own", "at"] (defScope s_cell_run) := ⟨rfl, rfl, rfl, by decide +kernel, rfl, by decide +kernel, by decide +kernel⟩
def m_cell_run_c1 : En → M (List DV) := (mLc [4] (iB (e2 vAdd (e2 vIdx (eVar 2) (eVar 3)) (eC (.int 1))) itN) (tName 4) mYes (eMeth mt_cell (e2 vIdx (eVar 1) (eC (.int 0))) (aCons (eCall f_with_place (aCons (eVar 2) (aCons (eVar 3) (aCons (eVar 4) aNil)))) aNil)))
def m_cell_run : Stm := (sSeq (sSet 3 (e2 vIdx (eVar 0) (eC (.int 3)))) (sRet (eCall f_folded (aCons (e2 vIdx (eVar 0) (eC (.int 1))) (aCons (eFrz m_cell_run_c1) aNil)))))
def f_cell_run : List DV → M DV := fnM 5 m_cell_run
theorem d_cell_run {T : Tp} {X : Cx} {c : Cn} (hb : Blt T.mg) (F_with_place : Fo T "with_place" 32 1 3 f_with_place) (F_folded : Fo T "folded" 43 3 2 f_folded) (hMo_cell : MoL T "cell" 2 2 mt_cell) (hX : XSt T X c N_cell_run 3 (defScope s_cell_run)) : PSs X (defBody s_cell_run) (RS c m_cell_run) :=
  (s_cons (k_set hX (i := 3) rfl (.inr rfl) (c_idx hX.e.kk (c_toB (k_var hX.e 0 rfl (.inl rfl))) c_int)) (s_one (s_ret (c_call hX.e F_folded (by decide) (hX.e.gl rfl) (c_cons (c_idx hX.e.kk (c_toB (k_var hX.e 0 rfl (.inl rfl))) c_int) (c_cons (c_frz (k_lc hX.e [("k", 4)] (i_rng (hX.e.gl rfl) (hX.e.no hb.range) (c_add hX.e.kk (c_toB (c_idx hX.e.kk (c_toB (k_var hX.e 2 rfl (.inr (.inl rfl)))) (k_var hX.e 3 rfl (.inr (.inl rfl))))) (c_toB c_int))) (by decide +kernel) (fun X' b1 => (k_gnB b1 (i := 4) rfl (.inl rfl) (.inr rfl))) (fun X' b1 => ts_nil) (fun X' b1 => (c_meth b1.e (hMo_cell.mono (by decide)) (c_idx b1.e.kk (c_toB (k_var b1.e 1 rfl (.inr (.inl rfl)))) c_int) (c_cons (c_call b1.e F_with_place (by decide) (b1.e.gl rfl) (c_cons (k_var b1.e 2 rfl (.inr (.inl rfl))) (c_cons (k_var b1.e 3 rfl (.inr (.inl rfl))) (c_cons (k_var b1.e 4 rfl (.inl rfl)) c_nil)))) c_nil))))) c_nil))))))
abbrev s_cell_pick : Stmt := topS 66
abbrev N_cell_pick : List Str := ["line", "own", "at", "side", "where"]
theorem sc_cell_pick : FnScope N_cell_pick ["line", "own", "at"] (defScope s_cell_pick) := ⟨rfl, rfl, rfl, by decide +kernel, rfl, by decide +kernel, by decide +kernel⟩
def m_cell_pick : Stm := (sSeq (sSet 3 (e2 vIdx (eVar 0) (eC (.int 2)))) (sSeq (sSet 4 (e2 vIdx (e1 (vFld fl_cells) (e2 vIdx (eVar 1) (eC (.int 1)))) (e2 vIdx (eVar 2) (eVar 3)))) (sSeq (sIf (tb (e2 vGe (eVar 4) (e2 vIdx (e1 (vFld fl_sides) (e2 vIdx (eVar 1) (eC (.int 0)))) (eVar 3)))) (sRaise0 3) sNext) (sRet (eMeth mt_cell (e2 vIdx (eVar 1) (eC (.int 0))) (aCons (eCall f_with_place (aCons (eVar 2) (aCons (eVar 3) (aCons (eVar 4) aNil)))) aNil))))))
def f_cell_pick : List DV → M DV := fnM 5 m_cell_pick
theorem d_cell_pick {T : Tp} {X : Cx} {c : Cn} (hb : Blt T.mg) (F_with_place : Fo T "with_place" 32 1 3 f_with_place) (hE0_NoCell : Eo0 T "NoCell" 3) (hF_cells : FldL T "cells" fl_cells) (hF_sides : FldL T "sides" fl_sides) (hMo_cell : MoL T "cell" 2 2 mt_cell) (hX : XSt T X c N_cell_pick 2 (defScope s_cell_pick)) : PSs X (defBody s_cell_pick) (RS c m_cell_pick) :=
  (s_cons (k_set hX (i := 3) rfl (.inl rfl) (c_idx hX.e.kk (c_toB (k_var hX.e 0 rfl (.inl rfl))) c_int)) (s_cons (k_set hX (i := 4) rfl (.inl rfl) (c_idx hX.e.kk (c_toB (c_fld hX.e hF_cells (c_idx hX.e.kk (c_toB (k_var hX.e 1 rfl (.inl rfl))) c_int))) (c_idx hX.e.kk (c_toB (k_var hX.e 2 rfl (.inl rfl))) (k_var hX.e 3 rfl (.inl rfl))))) (s_cons (s_if (t_ge (k_var hX.e 4 rfl (.inl rfl)) (c_idx hX.e.kk (c_toB (c_fld hX.e hF_sides (c_idx hX.e.kk (c_toB (k_var hX.e 1 rfl (.inl rfl))) c_int))) (k_var hX.e 3 rfl (.inl rfl)))) (s_one (s_raise0 hX hE0_NoCell (hX.e.gl rfl))) s_nil) (s_one (s_ret (c_meth hX.e (hMo_cell.mono (by decide)) (c_idx hX.e.kk (c_toB (k_var hX.e 1 rfl (.inl rfl))) c_int) (c_cons (c_call hX.e F_with_place (by decide) (hX.e.gl rfl) (c_cons (k_var hX.e 2 rfl (.inl rfl)) (c_cons (k_var hX.e 3 rfl (.inl rfl)) (c_cons (k_var hX.e 4 rfl (.inl rfl)) c_nil)))) c_nil)))))))
abbrev s_cell_join : Stmt := topS 67
abbrev N_cell_join : List Str := ["line", "own", "at", "side", "size"]
theorem sc_cell_join : FnScope N_cell_join ["line", "own", "at"] (defScope s_cell_join) := ⟨rfl, rfl, rfl, by decide +kernel, rfl, by decide +kernel, by decide +kernel⟩
def m_cell_join : Stm := (sSeq (sSet 3 (e2 vIdx (eVar 0) (eC (.int 3)))) (sSeq (sSet 4 (e2 vIdx (e1 (vFld fl_sides) (e2 vIdx (eVar 1) (eC (.int 0)))) (eVar 3))) (sSeq (sIf (tb (e2 vLt (e2 vIdx (eVar 2) (eVar 3)) (eVar 4))) (sRet (eMeth mt_cell (e2 vIdx (eVar 1) (eC (.int 0))) (aCons (eVar 2) aNil))) sNext) (sRet (eMeth mt_cell (e2 vIdx (eVar 1) (eC (.int 1))) (aCons (eCall f_with_place (aCons (eVar 2) (aCons (eVar 3) (aCons (e2 vSub (e2 vIdx (eVar 2) (eVar 3)) (eVar 4)) aNil)))) aNil))))))
def f_cell_join : List DV → M DV := fnM 5 m_cell_join
theorem d_cell_join {T : Tp} {X : Cx} {c : Cn} (hb : Blt T.mg) (F_with_place : Fo T "with_place" 32 1 3 f_with_place) (hF_sides : FldL T "sides" fl_sides) (hMo_cell : MoL T "cell" 2 2 mt_cell) (hX : XSt T X c N_cell_join 2 (defScope s_cell_join)) : PSs X (defBody s_cell_join) (RS c m_cell_join) :=
  (s_cons (k_set hX (i := 3) rfl (.inl rfl) (c_idx hX.e.kk (c_toB (k_var hX.e 0 rfl (.inl rfl))) c_int)) (s_cons (k_set hX (i := 4) rfl (.inl rfl) (c_idx hX.e.kk (c_toB (c_fld hX.e hF_sides (c_idx hX.e.kk (c_toB (k_var hX.e 1 rfl (.inl rfl))) c_int))) (k_var hX.e 3 rfl (.inl rfl)))) (s_cons (s_if (t_lt (c_idx hX.e.kk (c_toB (k_var hX.e 2 rfl (.inl rfl))) (k_var hX.e 3 rfl (.inl rfl))) (k_var hX.e 4 rfl (.inl rfl))) (s_one (s_ret (c_meth hX.e (hMo_cell.mono (by decide)) (c_idx hX.e.kk (c_toB (k_var hX.e 1 rfl (.inl rfl))) c_int) (c_cons (k_var hX.e 2 rfl (.inl rfl)) c_nil)))) s_nil) (s_one (s_ret (c_meth hX.e (hMo_cell.mono (by decide)) (c_idx hX.e.kk (c_toB (k_var hX.e 1 rfl (.inl rfl))) c_int) (c_cons (c_call hX.e F_with_place (by decide) (hX.e.gl rfl) (c_cons (k_var hX.e 2 rfl (.inl rfl)) (c_cons (k_var hX.e 3 rfl (.inl rfl)) (c_cons (c_sub (c_idx hX.e.kk (c_toB (k_var hX.e 2 rfl (.inl rfl))) (k_var hX.e 3 rfl (.inl rfl))) (k_var hX.e 4 rfl (.inl rfl))) c_nil)))) c_nil)))))))
abbrev s_Table_init_ : Stmt := inClass (topS 50) 0
abbrev N_Table_init_ : List Str := ["self", "sides", "cells", "number"]
theorem sc_Table_init_ : FnScope N_Table_init_ ["self", "sides", "cells"] (defScope s_Table_init_) := ⟨rfl, rfl, rfl, by decide +kernel, rfl, by decide +kernel, by decide +kernel⟩
def m_Table_init__b1 : Stm := (sIf (tNot (tb (e3c vLe vLt (eC (.int 0)) (eVar 3) (eC (.int 1000003))))) (sRaise0 1) sNext)
def m_Table_init_ : En → M (List DV) := (iSeq (sIf (tOr (tNot (tb (eCall f_sides_fit (aCons (eVar 1) aNil)))) (tb (e2 vNe (e1 vLen (eVar 2)) (eCall f_cells_in (aCons (eVar 1) aNil))))) (sRaise0 1) sNext) (iSeq (sForX false (eVar 2) (tName 3) [3] m_Table_init__b1) (iTail (iSet (e1 vTup (eVar 1)) (iSet (eNew (iB (eVar 2) lLst)) iNil)))))
def i_Table : List DV → M (List DV) := fnI 4 m_Table_init_
theorem d_Table_init_ {T : Tp} {X : Cx} {c : Cn} (hb : Blt T.mg) (F_cells_in : Fo T "cells_in" 10 1 1 f_cells_in) (F_sides_fit : Fo T "sides_fit" 11 2 1 f_sides_fit) (hE0_NoTable : Eo0 T "NoTable" 1) (hC_REST : ∃ t, T.mg "REST" = some (.int (1000003) t)) (hX : XSt T X c N_Table_init_ 2 (defScope s_Table_init_)) : PSs X (defBody s_Table_init_) (RII c ["sides", "cells"] m_Table_init_) :=
  (i_cons (s_if (PW.pt (t_or (t_not (t_val (c_call hX.e F_sides_fit (by decide) (hX.e.gl rfl) (c_cons (k_var hX.e 1 rfl (.inl rfl)) c_nil)))) (t_or1 (t_ne hX.e.kk hX.e.u (c_toB (c_len hX.e.kk (hX.e.gl rfl) (hX.e.no hb.len) (c_toB (k_var hX.e 2 rfl (.inl rfl))))) (c_toB (c_call hX.e F_cells_in (by decide) (hX.e.gl rfl) (c_cons (k_var hX.e 1 rfl (.inl rfl)) c_nil))))))) (s_one (s_raise0 hX hE0_NoTable (hX.e.gl rfl))) s_nil) (i_cons (k_forX [3] hX (ix_list (k_var hX.e 2 rfl (.inl rfl))) (k_gn hX (i := 3) rfl (.inl rfl)) (s_one (s_if (t_not (t_lelt c_int (k_var hX.e 3 rfl (.inl rfl)) (k_cint hX.e (hX.e.gl rfl) hC_REST))) (s_one (s_raise0 hX hE0_NoTable (hX.e.gl rfl))) s_nil))) (i_tail (k_iset hX rfl (.inl rfl) (fun c' eg ex => have hZ := hX.e.ofc eg ex; (c_tupOf hZ.kk (hZ.gl rfl) (hZ.no hb.tuple) (c_toB (k_var hZ 1 rfl (.inl rfl))))) (k_iset hX rfl (.inl rfl) (fun c' eg ex => have hZ := hX.e.ofc eg ex; (c_new (c_listOf hZ.kk (hZ.gl rfl) (hZ.no hb.list) (c_toB (k_var hZ 2 rfl (.inl rfl)))))) i_nil)))))
abbrev s_plain_table : Stmt := topS 69
abbrev N_plain_table : List Str := ["line", "sides", "own", "tables", "work", "place"]
theorem sc_plain_table : FnScope N_plain_table ["line", "sides", "own", "tables"] (defScope s_plain_table) := ⟨rfl, rfl, rfl, by decide +kernel, rfl, by decide +kernel, by decide +kernel⟩
abbrev fs_CELLS : Fns := [(34, f_cell_turn), (35, f_cell_cut), (36, f_cell_drop), (37, f_cell_wide), (38, f_cell_spread), (39, f_cell_shift), (40, f_cell_one), (41, f_cell_both), (42, f_cell_where), (44, f_cell_fold), (45, f_cell_run), (46, f_cell_pick), (47, f_cell_join)]
def m_plain_table_c1 : En → M (List DV) := (mLc [5] (iB (eCall f_cells_in (aCons (eVar 1) aNil)) itN) (tName 5) mYes (eCallF fs_CELLS (eVar 4) (aCons (eVar 0) (aCons (eVar 2) (aCons (eCall f_index_of (aCons (eVar 1) (aCons (eVar 5) aNil))) aNil)))))
def m_plain_table : Stm := (sSeq (sIf (tb (e2 vEq (e2 vIdx (eVar 0) (eC (.int 0))) (eC (.str (Str.ofString "given"))))) (sRet (e2 vIdx (eVar 3) (e2 vIdx (eVar 0) (eC (.int 1))))) sNext) (sSeq (sIf (tb (e2 vEq (e2 vIdx (eVar 0) (eC (.int 0))) (eC (.str (Str.ofString "even"))))) (sRet (eMake 4 i_Table (aCons (eVar 1) (aCons (eFrz (iB2 (eFrz (aCons (e2 vIdx (eVar 0) (eC (.int 2))) aNil)) (eCall f_cells_in (aCons (eVar 1) aNil)) lMul)) aNil)))) sNext) (sSeq (sIf (tb (e2 vEq (e2 vIdx (eVar 0) (eC (.int 0))) (eC (.str (Str.ofString "shape"))))) (sRet (eMake 4 i_Table (aCons (eVar 1) (aCons (e1 (vFld fl_cells) (e2 vIdx (eVar 2) (eC (.int 0)))) aNil)))) sNext) (sSeq (sSet 4 (e1 (vTab tab_CELLS) (e2 vIdx (eVar 0) (eC (.int 0))))) (sRet (eMake 4 i_Table (aCons (eVar 1) (aCons (eFrz m_plain_table_c1) aNil))))))))
def f_plain_table : List DV → M DV := fnM 6 m_plain_table
theorem d_plain_table {T : Tp} {X : Cx} {c : Cn} (hb : Blt T.mg) (F_cells_in : Fo T "cells_in" 10 1 1 f_cells_in) (F_index_of : Fo T "index_of" 13 1 2 f_index_of) (F_cell_turn : Fo T "cell_turn" 34 3 3 f_cell_turn) (F_cell_cut : Fo T "cell_cut" 35 3 3 f_cell_cut) (F_cell_drop : Fo T "cell_drop" 36 3 3 f_cell_drop) (F_cell_wide : Fo T "cell_wide" 37 3 3 f_cell_wide) (F_cell_spread : Fo T "cell_spread" 38 4 3 f_cell_spread) (F_cell_shift : Fo T "cell_shift" 39 3 3 f_cell_shift) (F_cell_one : Fo T "cell_one" 40 3 3 f_cell_one) (F_cell_both : Fo T "cell_both" 41 4 3 f_cell_both) (F_cell_where : Fo T "cell_where" 42 4 3 f_cell_where) (F_cell_fold : Fo T "cell_fold" 44 4 3 f_cell_fold) (F_cell_run : Fo T "cell_run" 45 4 3 f_cell_run) (F_cell_pick : Fo T "cell_pick" 46 3 3 f_cell_pick) (F_cell_join : Fo T "cell_join" 47 3 3 f_cell_join) (hF_cells : FldL T "cells" fl_cells) (hMk_Table : MkOk T "Table" 4 3 2 i_Table) (hT_CELLS : TabOk T "CELLS" tab_CELLS) (hX : XSt T X c N_plain_table 4 (defScope s_plain_table)) : PSs X (defBody s_plain_table) (RS c m_plain_table) :=
  (s_cons (s_if (t_eq hX.e.kk hX.e.u (c_toB (c_idx hX.e.kk (c_toB (k_var hX.e 0 rfl (.inr (.inl rfl)))) c_int)) (c_toB c_str)) (s_one (s_ret (c_idx hX.e.kk (c_toB (k_var hX.e 3 rfl (.inl rfl))) (c_idx hX.e.kk (c_toB (k_var hX.e 0 rfl (.inr (.inl rfl)))) c_int)))) s_nil) (s_cons (s_if (t_eq hX.e.kk hX.e.u (c_toB (c_idx hX.e.kk (c_toB (k_var hX.e 0 rfl (.inr (.inl rfl)))) c_int)) (c_toB c_str)) (s_one (s_ret (c_make hX.e hMk_Table (by decide) (hX.e.gl rfl) (c_cons (k_var hX.e 1 rfl (.inr (.inl rfl))) (c_cons (c_frz (c_mulO (c_oB (c_lst (c_cons (c_idx hX.e.kk (c_toB (k_var hX.e 0 rfl (.inr (.inl rfl)))) c_int) c_nil))) (c_call hX.e F_cells_in (by decide) (hX.e.gl rfl) (c_cons (k_var hX.e 1 rfl (.inr (.inl rfl))) c_nil)))) c_nil))))) s_nil) (s_cons (s_if (t_eq hX.e.kk hX.e.u (c_toB (c_idx hX.e.kk (c_toB (k_var hX.e 0 rfl (.inr (.inl rfl)))) c_int)) (c_toB c_str)) (s_one (s_ret (c_make hX.e hMk_Table (by decide) (hX.e.gl rfl) (c_cons (k_var hX.e 1 rfl (.inr (.inl rfl))) (c_cons (c_fld hX.e hF_cells (c_idx hX.e.kk (c_toB (k_var hX.e 2 rfl (.inr (.inl rfl)))) c_int)) c_nil))))) s_nil) (s_cons (k_set hX (i := 4) rfl (.inr rfl) (k_tab hX.e hT_CELLS (hX.e.gl rfl) (c_idx hX.e.kk (c_toB (k_var hX.e 0 rfl (.inr (.inl rfl)))) c_int))) (s_one (s_ret (c_make hX.e hMk_Table (by decide) (hX.e.gl rfl) (c_cons (k_var hX.e 1 rfl (.inr (.inl rfl))) (c_cons (c_frz (k_lc hX.e [("place", 5)] (i_rng (hX.e.gl rfl) (hX.e.no hb.range) (c_call hX.e F_cells_in (by decide) (hX.e.gl rfl) (c_cons (k_var hX.e 1 rfl (.inr (.inl rfl))) c_nil))) (by decide +kernel) (fun X' b1 => (k_gnB b1 (i := 5) rfl (.inl rfl) (.inr rfl))) (fun X' b1 => ts_nil) (fun X' b1 => (c_callFN b1.e (FoL.cons F_cell_turn (by decide) (FoL.cons F_cell_cut (by decide) (FoL.cons F_cell_drop (by decide) (FoL.cons F_cell_wide (by decide) (FoL.cons F_cell_spread (by decide) (FoL.cons F_cell_shift (by decide) (FoL.cons F_cell_one (by decide) (FoL.cons F_cell_both (by decide) (FoL.cons F_cell_where (by decide) (FoL.cons F_cell_fold (by decide) (FoL.cons F_cell_run (by decide) (FoL.cons F_cell_pick (by decide) (FoL.cons F_cell_join (by decide) FoL.nil))))))))))))) (k_var b1.e 4 rfl (.inr (.inl rfl))) (c_cons (k_var b1.e 0 rfl (.inr (.inl rfl))) (c_cons (k_var b1.e 2 rfl (.inr (.inl rfl))) (c_cons (c_call b1.e F_index_of (by decide) (b1.e.gl rfl) (c_cons (k_var b1.e 1 rfl (.inr (.inl rfl))) (c_cons (k_var b1.e 5 rfl (.inl rfl)) c_nil))) c_nil))))))) c_nil)))))))))
abbrev s_plain_answer : Stmt := topS 70
abbrev N_plain_answer : List Str := ["program", "tables", "sides", "wanted", "found", "at", "line", "own", "table", "place"]
theorem sc_plain_answer : FnScope N_plain_answer ["program", "tables"] (defScope s_plain_answer) := ⟨rfl, rfl, rfl, by decide +kernel, rfl, by decide +kernel, by decide +kernel⟩
def m_plain_answer_c1 : En → M (List DV) := (mLc [8] (iB (eVar 1) itS) (tName 8) mYes (e1 (vFld fl_sides) (eVar 8)))
def m_plain_answer_c2 : En → M (List DV) := (mLc [9] (iB (eCall f_read_by (aCons (eVar 6) aNil)) itS) (tName 9) mYes (e2 vIdx (eBor 4) (eVar 9)))
def m_plain_answer_b1 : Stm := (sIf (tb (e2 vIdx (eVar 3) (eVar 5))) (sSeq (sSetL 7 m_plain_answer_c2) (sApp 4 (eCall f_plain_table (aCons (eVar 6) (aCons (e2 vIdx (eVar 2) (eVar 5)) (aCons (eVar 7) (aCons (eVar 1) aNil))))))) (sApp 4 (eC .non)))
def m_plain_answer : Stm := (sSeq (sSet 2 (eCall f_sides_of (aCons (eVar 0) (aCons (eFrz m_plain_answer_c1) aNil)))) (sSeq (sSet 3 (eCall f_wanted_lines (aCons (eVar 0) aNil))) (sSeq (sSetO 4 aNil) (sSeq (sFor (iB (eVar 0) itE) (tTup [5, 6]) [5, 6, 7] m_plain_answer_b1) (sRet (eMake 4 i_Table (aCons (e1 (vFld fl_sides) (e2 vIdx (eBor 4) (e1 vNeg (eC (.int 1))))) (aCons (e1 (vFld fl_cells) (e2 vIdx (eBor 4) (e1 vNeg (eC (.int 1))))) aNil))))))))
def f_plain_answer : List DV → M DV := fnM 10 m_plain_answer
theorem d_plain_answer {T : Tp} {X : Cx} {c : Cn} (hb : Blt T.mg) (F_read_by : Fo T "read_by" 15 1 1 f_read_by) (F_sides_of : Fo T "sides_of" 30 5 2 f_sides_of) (F_wanted_lines : Fo T "wanted_lines" 31 2 1 f_wanted_lines) (F_plain_table : Fo T "plain_table" 48 5 4 f_plain_table) (hF_cells : FldL T "cells" fl_cells) (hF_sides : FldL T "sides" fl_sides) (hMk_Table : MkOk T "Table" 4 3 2 i_Table) (hX : XSt T X c N_plain_answer 5 (defScope s_plain_answer)) : PSs X (defBody s_plain_answer) (RS c m_plain_answer) :=
  (s_cons (k_set hX (i := 2) rfl (.inl rfl) (c_call hX.e F_sides_of (by decide) (hX.e.gl rfl) (c_cons (k_var hX.e 0 rfl (.inl rfl)) (c_cons (c_frz (k_lc hX.e [("table", 8)] (i_seq hX.e.kk (k_var hX.e 1 rfl (.inl rfl))) (by decide +kernel) (fun X' b1 => (k_gnB b1 (i := 8) rfl (.inl rfl) (.inr rfl))) (fun X' b1 => ts_nil) (fun X' b1 => (c_fld b1.e hF_sides (k_var b1.e 8 rfl (.inl rfl)))))) c_nil)))) (s_cons (k_set hX (i := 3) rfl (.inl rfl) (c_call hX.e F_wanted_lines (by decide) (hX.e.gl rfl) (c_cons (k_var hX.e 0 rfl (.inl rfl)) c_nil))) (s_cons (k_setO hX (i := 4) rfl (.inr rfl) (c_lst c_nil)) (s_cons (k_for [5, 6, 7] hX (i_enum hX.e.kk (hX.e.gl rfl) (hX.e.no hb.enumerate) (k_var hX.e 0 rfl (.inl rfl))) (g_tup hX.e.kk hX.e.calm (k_gs hX (i := 5) rfl (.inl rfl) (k_gs hX (i := 6) rfl (.inl rfl) gs_nil))) (s_one (s_if (t_val (c_idx hX.e.kk (c_toB (k_var hX.e 3 rfl (.inl rfl))) (k_var hX.e 5 rfl (.inl rfl)))) (s_cons (s_after (k_setLc hX (i := 7) [("place", 9)] rfl rfl rfl (by decide +kernel) rfl (i_seq hX.e.kk (c_call hX.e F_read_by (by decide) (hX.e.gl rfl) (c_cons (k_var hX.e 6 rfl (.inl rfl)) c_nil))) (by decide +kernel) (fun X' b2 => (k_gnB b2 (i := 9) rfl (.inl rfl) (.inr rfl))) (fun X' b2 => ts_nil) (fun X' b2 => (c_idx b2.e.kk (k_bor b2.e 4 rfl (.inr (.inl rfl))) (k_var b2.e 9 rfl (.inl rfl)))))) (s_one (k_app hX (i := 4) rfl (.inr (.inl rfl)) (c_call hX.e F_plain_table (by decide) (hX.e.gl rfl) (c_cons (k_var hX.e 6 rfl (.inl rfl)) (c_cons (c_idx hX.e.kk (c_toB (k_var hX.e 2 rfl (.inl rfl))) (k_var hX.e 5 rfl (.inl rfl))) (c_cons (k_var hX.e 7 rfl (.inl rfl)) (c_cons (k_var hX.e 1 rfl (.inl rfl)) c_nil)))))))) (s_one (k_app hX (i := 4) rfl (.inr (.inl rfl)) c_non))))) (s_one (s_ret (c_make hX.e hMk_Table (by decide) (hX.e.gl rfl) (c_cons (c_fld hX.e hF_sides (c_idx hX.e.kk (k_bor hX.e 4 rfl (.inr (.inl rfl))) (c_neg c_int))) (c_cons (c_fld hX.e hF_cells (c_idx hX.e.kk (k_bor hX.e 4 rfl (.inr (.inl rfl))) (c_neg c_int))) c_nil)))))))))
abbrev s_law_taken : Stmt := topS 72
abbrev N_law_taken : List Str := ["_law_row", "_law_many", "_law_at"]
theorem sc_law_taken : FnScope N_law_taken ["_law_row", "_law_many"] (defScope s_law_taken) := ⟨rfl, rfl, rfl, by decide +kernel, rfl, by decide +kernel, by decide +kernel⟩
def m_law_taken : Stm := (sSeq (sSet 2 (e2 vIdx (eVar 0) (eC (.int 1)))) (sSeq (sSetH (e2 vAdd (eVar 2) (eC (.int 1))) (eVar 0) (eC (.int 1))) (sSeq (sIf (tb (e2 vLt (eVar 2) (e1 vLen (e2 vIdx (eVar 0) (eC (.int 0)))))) (sRet (e2 vMod (e2 vIdx (e2 vIdx (eVar 0) (eC (.int 0))) (eVar 2)) (eVar 1))) sNext) (sRet (eC (.int 0))))))
def f_law_taken : List DV → M DV := fnM 3 m_law_taken
theorem d_law_taken {T : Tp} {X : Cx} {c : Cn} (hb : Blt T.mg)  (hX : XSt T X c N_law_taken 0 (defScope s_law_taken)) : PSs X (defBody s_law_taken) (RS c m_law_taken) :=
  (s_cons (k_set hX (i := 2) rfl (.inl rfl) (c_idx hX.e.kk (c_toB (k_var hX.e 0 rfl (.inl rfl))) c_int)) (s_cons (s_setH (c_add hX.e.kk (c_toB (k_var hX.e 2 rfl (.inl rfl))) (c_toB c_int)) (k_var hX.e 0 rfl (.inl rfl)) c_int) (s_cons (s_if (t_lt (k_var hX.e 2 rfl (.inl rfl)) (c_len hX.e.kk (hX.e.gl rfl) (hX.e.no hb.len) (c_toB (c_idx hX.e.kk (c_toB (k_var hX.e 0 rfl (.inl rfl))) c_int)))) (s_one (s_ret (c_mod (c_idx hX.e.kk (c_toB (c_idx hX.e.kk (c_toB (k_var hX.e 0 rfl (.inl rfl))) c_int)) (k_var hX.e 2 rfl (.inl rfl))) (k_var hX.e 1 rfl (.inl rfl))))) s_nil) (s_one (s_ret c_int)))))
abbrev s_law_whole : Stmt := topS 73
abbrev N_law_whole : List Str := ["_law_found"]
theorem sc_law_whole : FnScope N_law_whole ["_law_found"] (defScope s_law_whole) := ⟨rfl, rfl, rfl, by decide +kernel, rfl, by decide +kernel, by decide +kernel⟩
def m_law_whole : Stm := (sRet (eAnd (e1 (vIsI .int) (eVar 0)) (e1 vNot (e1 (vIsI .bool) (eVar 0)))))
def f_law_whole : List DV → M DV := fnM 1 m_law_whole
theorem d_law_whole {T : Tp} {X : Cx} {c : Cn} (hb : Blt T.mg)  (hX : XSt T X c N_law_whole 0 (defScope s_law_whole)) : PSs X (defBody s_law_whole) (RS c m_law_whole) :=
  (s_one (s_ret (c_and (c_isI .int hX.e.kk (hX.e.gl rfl) (hX.e.no hb.isinstance) (hX.e.gl rfl) (hX.e.no hb.int) (by decide +kernel) (c_toB (k_var hX.e 0 rfl (.inl rfl)))) (c_one (c_not (c_isI .bool hX.e.kk (hX.e.gl rfl) (hX.e.no hb.isinstance) (hX.e.gl rfl) (hX.e.no hb.bool) (by decide +kernel) (c_toB (k_var hX.e 0 rfl (.inl rfl)))))))))
abbrev s_law_numbers : Stmt := topS 74
abbrev N_law_numbers : List Str := ["_law_found", "_law_due", "_law_number"]
theorem sc_law_numbers : FnScope N_law_numbers ["_law_found", "_law_due"] (defScope s_law_numbers) := ⟨rfl, rfl, rfl, by decide +kernel, rfl, by decide +kernel, by decide +kernel⟩
def m_law_numbers_b1 : Stm := (sIf (tNot (tb (eCall f_law_whole (aCons (eVar 2) aNil)))) (sRet (eC (.bl false))) sNext)
def m_law_numbers : Stm := (sSeq (sIf (tOr (tNot (tb (e1 (vIsI .tuple) (eVar 0)))) (tb (e2 vNe (e1 vLen (eVar 0)) (e1 vLen (eVar 1))))) (sRet (eC (.bl false))) sNext) (sSeq (sFor (iB (eVar 0) itS) (tName 2) [2] m_law_numbers_b1) (sRet (e2 vEq (eVar 0) (eVar 1)))))
def f_law_numbers : List DV → M DV := fnM 3 m_law_numbers
theorem d_law_numbers {T : Tp} {X : Cx} {c : Cn} (hb : Blt T.mg) (F_law_whole : Fo T "_law_whole" 51 1 1 f_law_whole) (hX : XSt T X c N_law_numbers 1 (defScope s_law_numbers)) : PSs X (defBody s_law_numbers) (RS c m_law_numbers) :=
  (s_cons (s_if (PW.pt (t_or (t_not (t_val (c_isI .tuple hX.e.kk (hX.e.gl rfl) (hX.e.no hb.isinstance) (hX.e.gl rfl) (hX.e.no hb.tuple) (by decide +kernel) (c_toB (k_var hX.e 0 rfl (.inl rfl)))))) (t_or1 (t_ne hX.e.kk hX.e.u (c_toB (c_len hX.e.kk (hX.e.gl rfl) (hX.e.no hb.len) (c_toB (k_var hX.e 0 rfl (.inl rfl))))) (c_toB (c_len hX.e.kk (hX.e.gl rfl) (hX.e.no hb.len) (c_toB (k_var hX.e 1 rfl (.inl rfl))))))))) (s_one (s_ret c_bl)) s_nil) (s_cons (k_for [2] hX (i_seq hX.e.kk (k_var hX.e 0 rfl (.inl rfl))) (k_gn hX (i := 2) rfl (.inl rfl)) (s_one (s_if (t_not (t_val (c_call hX.e F_law_whole (by decide) (hX.e.gl rfl) (c_cons (k_var hX.e 2 rfl (.inl rfl)) c_nil)))) (s_one (s_ret c_bl)) s_nil))) (s_one (s_ret (c_eq hX.e.kk hX.e.u (c_toB (k_var hX.e 0 rfl (.inl rfl))) (c_toB (k_var hX.e 1 rfl (.inl rfl))))))))
abbrev s_law_cells : Stmt := topS 75
abbrev N_law_cells : List Str := ["_law_sides", "_law_found", "_law_size"]
theorem sc_law_cells : FnScope N_law_cells ["_law_sides"] (defScope s_law_cells) := ⟨rfl, rfl, rfl, by decide +kernel, rfl, by decide +kernel, by decide +kernel⟩
def m_law_cells_b1 : Stm := (sSet 1 (e2 vMul (eVar 1) (eVar 2)))
def m_law_cells : Stm := (sSeq (sSet 1 (eC (.int 1))) (sSeq (sFor (iB (eVar 0) itS) (tName 2) [2] m_law_cells_b1) (sRet (eVar 1))))
def f_law_cells : List DV → M DV := fnM 3 m_law_cells
theorem d_law_cells {T : Tp} {X : Cx} {c : Cn} (hb : Blt T.mg)  (hX : XSt T X c N_law_cells 0 (defScope s_law_cells)) : PSs X (defBody s_law_cells) (RS c m_law_cells) :=
  (s_cons (k_set hX (i := 1) rfl (.inl rfl) c_int) (s_cons (k_for [2] hX (i_seq hX.e.kk (k_var hX.e 0 rfl (.inl rfl))) (k_gn hX (i := 2) rfl (.inl rfl)) (s_one (k_set hX (i := 1) rfl (.inl rfl) (c_mul (k_var hX.e 1 rfl (.inl rfl)) (k_var hX.e 2 rfl (.inl rfl)))))) (s_one (s_ret (k_var hX.e 1 rfl (.inl rfl))))))
abbrev s_law_index : Stmt := topS 76
abbrev N_law_index : List Str := ["_law_sides", "_law_place", "_law_found", "_law_k", "_law_behind"]
theorem sc_law_index : FnScope N_law_index ["_law_sides", "_law_place"] (defScope s_law_index) := ⟨rfl, rfl, rfl, by decide +kernel, rfl, by decide +kernel, by decide +kernel⟩
def m_law_index_b1 : Stm := (sSeq (sSet 4 (eCall f_law_cells (aCons (eCut (eVar 0) (oSome (e2 vAdd (eVar 3) (eC (.int 1)))) oNone) aNil))) (sSet 2 (e2 vAdd (eVar 2) (eTup (aCons (e2 vMod (e2 vDiv (eVar 1) (eVar 4)) (e2 vIdx (eVar 0) (eVar 3))) aNil)))))
def m_law_index : Stm := (sSeq (sSet 2 (eTup aNil)) (sSeq (sFor (iB (e1 vLen (eVar 0)) itN) (tName 3) [3, 4] m_law_index_b1) (sRet (eVar 2))))
def f_law_index : List DV → M DV := fnM 5 m_law_index
theorem d_law_index {T : Tp} {X : Cx} {c : Cn} (hb : Blt T.mg) (F_law_cells : Fo T "_law_cells" 53 1 1 f_law_cells) (hX : XSt T X c N_law_index 1 (defScope s_law_index)) : PSs X (defBody s_law_index) (RS c m_law_index) :=
  (s_cons (k_set hX (i := 2) rfl (.inl rfl) (c_tup c_nil)) (s_cons (k_for [3, 4] hX (i_rng (hX.e.gl rfl) (hX.e.no hb.range) (c_len hX.e.kk (hX.e.gl rfl) (hX.e.no hb.len) (c_toB (k_var hX.e 0 rfl (.inl rfl))))) (k_gn hX (i := 3) rfl (.inl rfl)) (s_cons (k_set hX (i := 4) rfl (.inl rfl) (c_call hX.e F_law_cells (by decide) (hX.e.gl rfl) (c_cons (c_cut hX.e.kk (c_toB (k_var hX.e 0 rfl (.inl rfl))) (c_ps (c_add hX.e.kk (c_toB (k_var hX.e 3 rfl (.inl rfl))) (c_toB c_int))) c_pn) c_nil))) (s_one (k_set hX (i := 2) rfl (.inl rfl) (c_add hX.e.kk (c_toB (k_var hX.e 2 rfl (.inl rfl))) (c_toB (c_tup (c_cons (c_mod (c_div (k_var hX.e 1 rfl (.inl rfl)) (k_var hX.e 4 rfl (.inl rfl))) (c_idx hX.e.kk (c_toB (k_var hX.e 0 rfl (.inl rfl))) (k_var hX.e 3 rfl (.inl rfl)))) c_nil)))))))) (s_one (s_ret (k_var hX.e 2 rfl (.inl rfl))))))
abbrev s_law_look : Stmt := topS 77
abbrev N_law_look : List Str := ["_law_sides", "_law_cells_here", "_law_at", "_law_place", "_law_k", "_law_where"]
theorem sc_law_look : FnScope N_law_look ["_law_sides", "_law_cells_here", "_law_at"] (defScope s_law_look) := ⟨rfl, rfl, rfl, by decide +kernel, rfl, by decide +kernel, by decide +kernel⟩
def m_law_look_b1 : Stm := (sSeq (sSet 5 (e2 vIdx (eVar 2) (e2 vAdd (e2 vSub (e1 vLen (eVar 2)) (e1 vLen (eVar 0))) (eVar 4)))) (sSeq (sIf (tb (e2 vEq (e2 vIdx (eVar 0) (eVar 4)) (eC (.int 1)))) (sSet 5 (eC (.int 0))) sNext) (sSet 3 (e2 vAdd (e2 vMul (eVar 3) (e2 vIdx (eVar 0) (eVar 4))) (eVar 5)))))
def m_law_look : Stm := (sSeq (sSet 3 (eC (.int 0))) (sSeq (sFor (iB (e1 vLen (eVar 0)) itN) (tName 4) [4, 5] m_law_look_b1) (sRet (e2 vIdx (eVar 1) (eVar 3)))))
def f_law_look : List DV → M DV := fnM 6 m_law_look
theorem d_law_look {T : Tp} {X : Cx} {c : Cn} (hb : Blt T.mg)  (hX : XSt T X c N_law_look 0 (defScope s_law_look)) : PSs X (defBody s_law_look) (RS c m_law_look) :=
  (s_cons (k_set hX (i := 3) rfl (.inl rfl) c_int) (s_cons (k_for [4, 5] hX (i_rng (hX.e.gl rfl) (hX.e.no hb.range) (c_len hX.e.kk (hX.e.gl rfl) (hX.e.no hb.len) (c_toB (k_var hX.e 0 rfl (.inl rfl))))) (k_gn hX (i := 4) rfl (.inl rfl)) (s_cons (k_set hX (i := 5) rfl (.inl rfl) (c_idx hX.e.kk (c_toB (k_var hX.e 2 rfl (.inl rfl))) (c_add hX.e.kk (c_toB (c_sub (c_len hX.e.kk (hX.e.gl rfl) (hX.e.no hb.len) (c_toB (k_var hX.e 2 rfl (.inl rfl)))) (c_len hX.e.kk (hX.e.gl rfl) (hX.e.no hb.len) (c_toB (k_var hX.e 0 rfl (.inl rfl)))))) (c_toB (k_var hX.e 4 rfl (.inl rfl)))))) (s_cons (s_if (t_eq hX.e.kk hX.e.u (c_toB (c_idx hX.e.kk (c_toB (k_var hX.e 0 rfl (.inl rfl))) (k_var hX.e 4 rfl (.inl rfl)))) (c_toB c_int)) (s_one (k_set hX (i := 5) rfl (.inl rfl) c_int)) s_nil) (s_one (k_set hX (i := 3) rfl (.inl rfl) (c_add hX.e.kk (c_toB (c_mul (k_var hX.e 3 rfl (.inl rfl)) (c_idx hX.e.kk (c_toB (k_var hX.e 0 rfl (.inl rfl))) (k_var hX.e 4 rfl (.inl rfl))))) (c_toB (k_var hX.e 5 rfl (.inl rfl))))))))) (s_one (s_ret (c_idx hX.e.kk (c_toB (k_var hX.e 1 rfl (.inl rfl))) (k_var hX.e 3 rfl (.inl rfl)))))))
abbrev s_law_is_table : Stmt := topS 78
abbrev N_law_is_table : List Str := ["_law_found", "_law_sides", "_law_cells_here"]
theorem sc_law_is_table : FnScope N_law_is_table ["_law_found", "_law_sides", "_law_cells_here"] (defScope s_law_is_table) := ⟨rfl, rfl, rfl, by decide +kernel, rfl, by decide +kernel, by decide +kernel⟩
def is_Table : List (Nat × Bool) := [(4, true)]
def m_law_is_table : Stm := (sSeq (sIf (tOr (tNot (tb (e1 (vIsO is_Table) (eVar 0)))) (tNot (tb (eCall f_law_numbers (aCons (e1 (vFld fl_sides) (eVar 0)) (aCons (eVar 1) aNil)))))) (sRet (eC (.bl false))) sNext) (sRet (eAnd (e1 (vIsI .list) (e1 (vFld fl_cells) (eVar 0))) (eCall f_law_numbers (aCons (e1 vTup (e1 (vFld fl_cells) (eVar 0))) (aCons (e1 vTup (eVar 2)) aNil))))))
def f_law_is_table : List DV → M DV := fnM 3 m_law_is_table
theorem d_law_is_table {T : Tp} {X : Cx} {c : Cn} (hb : Blt T.mg) (F_law_numbers : Fo T "_law_numbers" 52 2 2 f_law_numbers) (hF_cells : FldL T "cells" fl_cells) (hF_sides : FldL T "sides" fl_sides) (hIs_Table : IsL T 4 is_Table) (hG_Table : T.mg "Table" = some (.ref (T.g.cA 4))) (hX : XSt T X c N_law_is_table 2 (defScope s_law_is_table)) : PSs X (defBody s_law_is_table) (RS c m_law_is_table) :=
  (s_cons (s_if (PW.pt (t_or (t_not (t_val (c_isO hX.e hIs_Table (hX.e.gl rfl) (hX.e.no hb.isinstance) (hX.e.gl rfl) hG_Table (k_var hX.e 0 rfl (.inl rfl))))) (t_or1 (t_not (t_val (c_call hX.e F_law_numbers (by decide) (hX.e.gl rfl) (c_cons (c_fld hX.e hF_sides (k_var hX.e 0 rfl (.inl rfl))) (c_cons (k_var hX.e 1 rfl (.inl rfl)) c_nil)))))))) (s_one (s_ret c_bl)) s_nil) (s_one (s_ret (c_and (c_isI .list hX.e.kk (hX.e.gl rfl) (hX.e.no hb.isinstance) (hX.e.gl rfl) (hX.e.no hb.list) (by decide +kernel) (c_toB (c_fld hX.e hF_cells (k_var hX.e 0 rfl (.inl rfl))))) (c_one (c_call hX.e F_law_numbers (by decide) (hX.e.gl rfl) (c_cons (c_tupOf hX.e.kk (hX.e.gl rfl) (hX.e.no hb.tuple) (c_toB (c_fld hX.e hF_cells (k_var hX.e 0 rfl (.inl rfl))))) (c_cons (c_tupOf hX.e.kk (hX.e.gl rfl) (hX.e.no hb.tuple) (c_toB (k_var hX.e 2 rfl (.inl rfl)))) c_nil))))))))
abbrev s_law_changed : Stmt := topS 79
abbrev N_law_changed : List Str := ["_law_sides", "_law_side", "_law_size"]
theorem sc_law_changed : FnScope N_law_changed ["_law_sides", "_law_side", "_law_size"] (defScope s_law_changed) := ⟨rfl, rfl, rfl, by decide +kernel, rfl, by decide +kernel, by decide +kernel⟩
def m_law_changed : Stm := (sRet (e2 vAdd (e2 vAdd (eCut (eVar 0) oNone (oSome (eVar 1))) (eTup (aCons (eVar 2) aNil))) (eCut (eVar 0) (oSome (e2 vAdd (eVar 1) (eC (.int 1)))) oNone)))
def f_law_changed : List DV → M DV := fnM 3 m_law_changed
theorem d_law_changed {T : Tp} {X : Cx} {c : Cn} (hb : Blt T.mg)  (hX : XSt T X c N_law_changed 0 (defScope s_law_changed)) : PSs X (defBody s_law_changed) (RS c m_law_changed) :=
  (s_one (s_ret (c_add hX.e.kk (c_toB (c_add hX.e.kk (c_toB (c_cut hX.e.kk (c_toB (k_var hX.e 0 rfl (.inl rfl))) c_pn (c_ps (k_var hX.e 1 rfl (.inl rfl))))) (c_toB (c_tup (c_cons (k_var hX.e 2 rfl (.inl rfl)) c_nil))))) (c_toB (c_cut hX.e.kk (c_toB (k_var hX.e 0 rfl (.inl rfl))) (c_ps (c_add hX.e.kk (c_toB (k_var hX.e 1 rfl (.inl rfl))) (c_toB c_int))) c_pn)))))
abbrev s_law_view : Stmt := topS 80
abbrev N_law_view : List Str := ["_law_row", "_law_a", "_law_own_here", "_law_way", "_law_many", "_law_cells_here", "_law_sides", "_law_turn", "_law_order", "_law_at", "_law_k", "_law_size"]
theorem sc_law_view : FnScope N_law_view ["_law_row", "_law_a", "_law_own_here", "_law_way"] (defScope s_law_view) := ⟨rfl, rfl, rfl, by decide +kernel, rfl, by decide +kernel, by decide +kernel⟩
def m_law_view_c1 : En → M (List DV) := (mLc [10] (iB (eVar 4) itN) (tName 10) mYes (e2 vMod (e2 vAdd (eVar 10) (eVar 7)) (eVar 4)))
def m_law_view_c2 : En → M (List DV) := (mLc [10] (iB (eVar 8) itS) (tName 10) mYes (e2 vIdx (eVar 2) (eVar 10)))
def m_law_view_c3 : En → M (List DV) := (mLc [11] (iB (eVar 2) itS) (tName 11) mYes (e2 vIdx (eFrz (aCons (eVar 11) (aCons (eCall f_law_taken (aCons (eVar 0) (aCons (eC (.int 4)) aNil))) aNil))) (e1 vInt (e2 vEq (eVar 11) (eC (.int 1))))))
def m_law_view_r6 : Stm := (sRet (eTup (aCons (eTup (aCons (eC (.str (Str.ofString "shape"))) (aCons (eVar 1) (aCons (eVar 6) aNil)))) (aCons (eVar 6) aNil))))
def m_law_view_r5 : Stm := (sSeq (sSet 6 (e2 vIdx (eFrz (aCons (e1 vTupRevA (eVar 2)) (aCons (eTup (aCons (eVar 5) aNil)) (aCons (eTup (aCons (eC (.int 1)) (aCons (eVar 5) aNil))) (aCons (eTup (aCons (eVar 5) (aCons (eC (.int 1)) aNil))) aNil))))) (eCall f_law_taken (aCons (eVar 0) (aCons (eC (.int 4)) aNil))))) m_law_view_r6)
def m_law_view_r4 : Stm := (sSeq (sSet 5 (eCall f_law_cells (aCons (eVar 2) aNil))) m_law_view_r5)
def m_law_view_r3 : Stm := (sSeq (sIf (tb (e2 vEq (eVar 3) (eC (.int 2)))) (sSeq (sSet 6 (e1 vTup (eFrz m_law_view_c3))) (sSeq (sIf (tb (e2 vEq (eCall f_law_taken (aCons (eVar 0) (aCons (eC (.int 2)) aNil))) (eC (.int 1)))) (sSet 6 (e2 vAdd (eTup (aCons (eCall f_law_taken (aCons (eVar 0) (aCons (eC (.int 4)) aNil))) aNil)) (eVar 6))) sNext) (sRet (eTup (aCons (eTup (aCons (eC (.str (Str.ofString "spread"))) (aCons (eVar 1) (aCons (eVar 6) aNil)))) (aCons (eVar 6) aNil)))))) sNext) m_law_view_r4)
def m_law_view_r2 : Stm := (sSeq (sIf (tb (e2 vEq (eVar 3) (eC (.int 1)))) (sSeq (sSet 9 (eCall f_law_taken (aCons (eVar 0) (aCons (e2 vAdd (eVar 4) (eC (.int 1))) aNil)))) (sRet (eTup (aCons (eTup (aCons (eC (.str (Str.ofString "wide"))) (aCons (eVar 1) (aCons (eVar 9) aNil)))) (aCons (e2 vAdd (e2 vAdd (eCut (eVar 2) oNone (oSome (eVar 9))) (eTup (aCons (eC (.int 1)) aNil))) (eCut (eVar 2) (oSome (eVar 9)) oNone)) aNil))))) sNext) m_law_view_r3)
def m_law_view_r1 : Stm := (sSeq (sIf (tb (e2 vEq (eVar 3) (eC (.int 0)))) (sSeq (sSet 7 (eCall f_law_taken (aCons (eVar 0) (aCons (e2 vMax (eC (.int 1)) (eVar 4)) aNil)))) (sSeq (sSetL 8 m_law_view_c1) (sSeq (sIf (tb (e2 vEq (eCall f_law_taken (aCons (eVar 0) (aCons (eC (.int 2)) aNil))) (eC (.int 1)))) (sSet 8 (eFrz (iB (eVar 8) lLstRev))) sNext) (sRet (eTup (aCons (eTup (aCons (eC (.str (Str.ofString "turn"))) (aCons (eVar 1) (aCons (e1 vTup (eVar 8)) aNil)))) (aCons (e1 vTup (eFrz m_law_view_c2)) aNil))))))) sNext) m_law_view_r2)
def m_law_view : Stm := (sSeq (sSet 4 (e1 vLen (eVar 2))) m_law_view_r1)
def f_law_view : List DV → M DV := fnM 12 m_law_view
theorem d_law_view {T : Tp} {X : Cx} {c : Cn} (hb : Blt T.mg) (F_law_taken : Fo T "_law_taken" 50 1 2 f_law_taken) (F_law_cells : Fo T "_law_cells" 53 1 1 f_law_cells) (hX : XSt T X c N_law_view 1 (defScope s_law_view)) : PSs X (defBody s_law_view) (RS c m_law_view) :=
  (s_cons (k_set hX (i := 4) rfl (.inr rfl) (c_len hX.e.kk (hX.e.gl rfl) (hX.e.no hb.len) (c_toB (k_var hX.e 2 rfl (.inr (.inl rfl)))))) (s_cons (s_if (t_eq hX.e.kk hX.e.u (c_toB (k_var hX.e 3 rfl (.inl rfl))) (c_toB c_int)) (s_cons (k_set hX (i := 7) rfl (.inr rfl) (c_call hX.e F_law_taken (by decide) (hX.e.gl rfl) (c_cons (k_var hX.e 0 rfl (.inr (.inl rfl))) (c_cons (c_max2 hX.e.calm (hX.e.gl rfl) (hX.e.no hb.max) c_int (k_var hX.e 4 rfl (.inr (.inl rfl)))) c_nil)))) (s_cons (s_after (k_setLc hX (i := 8) [("_law_k", 10)] rfl rfl rfl (by decide +kernel) rfl (i_rng (hX.e.gl rfl) (hX.e.no hb.range) (k_var hX.e 4 rfl (.inr (.inl rfl)))) (by decide +kernel) (fun X' b1 => (k_gnB b1 (i := 10) rfl (.inl rfl) (.inr rfl))) (fun X' b1 => ts_nil) (fun X' b1 => (c_mod (c_add b1.e.kk (c_toB (k_var b1.e 10 rfl (.inl rfl))) (c_toB (k_var b1.e 7 rfl (.inr (.inl rfl))))) (k_var b1.e 4 rfl (.inr (.inl rfl))))))) (s_cons (s_if (t_eq hX.e.kk hX.e.u (c_toB (c_call hX.e F_law_taken (by decide) (hX.e.gl rfl) (c_cons (k_var hX.e 0 rfl (.inr (.inl rfl))) (c_cons c_int c_nil)))) (c_toB c_int)) (s_one (k_set hX (i := 8) rfl (.inl rfl) (c_frz (c_listRev hX.e.kk hX.e.calm (hX.e.gl rfl) (hX.e.no hb.list) (hX.e.gl rfl) (hX.e.no hb.reversed) (c_toB (k_var hX.e 8 rfl (.inl rfl))))))) s_nil) (s_one (s_ret (c_tup (c_cons (c_tup (c_cons c_str (c_cons (k_var hX.e 1 rfl (.inl rfl)) (c_cons (c_tupOf hX.e.kk (hX.e.gl rfl) (hX.e.no hb.tuple) (c_toB (k_var hX.e 8 rfl (.inl rfl)))) c_nil)))) (c_cons (c_tupOf hX.e.kk (hX.e.gl rfl) (hX.e.no hb.tuple) (c_oB (k_lc hX.e [("_law_k", 10)] (i_seq hX.e.kk (k_var hX.e 8 rfl (.inl rfl))) (by decide +kernel) (fun X' b2 => (k_gnB b2 (i := 10) rfl (.inl rfl) (.inr rfl))) (fun X' b2 => ts_nil) (fun X' b2 => (c_idx b2.e.kk (c_toB (k_var b2.e 2 rfl (.inr (.inl rfl)))) (k_var b2.e 10 rfl (.inl rfl))))))) c_nil)))))))) s_nil) (s_cons (s_if (t_eq hX.e.kk hX.e.u (c_toB (k_var hX.e 3 rfl (.inl rfl))) (c_toB c_int)) (s_cons (k_set hX (i := 9) rfl (.inl rfl) (c_call hX.e F_law_taken (by decide) (hX.e.gl rfl) (c_cons (k_var hX.e 0 rfl (.inr (.inl rfl))) (c_cons (c_add hX.e.kk (c_toB (k_var hX.e 4 rfl (.inr (.inl rfl)))) (c_toB c_int)) c_nil)))) (s_one (s_ret (c_tup (c_cons (c_tup (c_cons c_str (c_cons (k_var hX.e 1 rfl (.inl rfl)) (c_cons (k_var hX.e 9 rfl (.inl rfl)) c_nil)))) (c_cons (c_add hX.e.kk (c_toB (c_add hX.e.kk (c_toB (c_cut hX.e.kk (c_toB (k_var hX.e 2 rfl (.inr (.inl rfl)))) c_pn (c_ps (k_var hX.e 9 rfl (.inl rfl))))) (c_toB (c_tup (c_cons c_int c_nil))))) (c_toB (c_cut hX.e.kk (c_toB (k_var hX.e 2 rfl (.inr (.inl rfl)))) (c_ps (k_var hX.e 9 rfl (.inl rfl))) c_pn))) c_nil)))))) s_nil) (s_cons (s_if (t_eq hX.e.kk hX.e.u (c_toB (k_var hX.e 3 rfl (.inl rfl))) (c_toB c_int)) (s_cons (k_set hX (i := 6) rfl (.inl rfl) (c_tupOf hX.e.kk (hX.e.gl rfl) (hX.e.no hb.tuple) (c_oB (k_lc hX.e [("_law_size", 11)] (i_seq hX.e.kk (k_var hX.e 2 rfl (.inr (.inl rfl)))) (by decide +kernel) (fun X' b3 => (k_gnB b3 (i := 11) rfl (.inl rfl) (.inr rfl))) (fun X' b3 => ts_nil) (fun X' b3 => (c_idx b3.e.kk (c_oB (c_lst (c_cons (k_var b3.e 11 rfl (.inl rfl)) (c_cons (c_call b3.e F_law_taken (by decide) (b3.e.gl rfl) (c_cons (k_var b3.e 0 rfl (.inr (.inl rfl))) (c_cons c_int c_nil))) c_nil)))) (c_intOf (b3.e.gl rfl) (b3.e.no hb.int) (c_eq b3.e.kk b3.e.u (c_toB (k_var b3.e 11 rfl (.inl rfl))) (c_toB c_int))))))))) (s_cons (s_if (t_eq hX.e.kk hX.e.u (c_toB (c_call hX.e F_law_taken (by decide) (hX.e.gl rfl) (c_cons (k_var hX.e 0 rfl (.inr (.inl rfl))) (c_cons c_int c_nil)))) (c_toB c_int)) (s_one (k_set hX (i := 6) rfl (.inl rfl) (c_add hX.e.kk (c_toB (c_tup (c_cons (c_call hX.e F_law_taken (by decide) (hX.e.gl rfl) (c_cons (k_var hX.e 0 rfl (.inr (.inl rfl))) (c_cons c_int c_nil))) c_nil))) (c_toB (k_var hX.e 6 rfl (.inl rfl)))))) s_nil) (s_one (s_ret (c_tup (c_cons (c_tup (c_cons c_str (c_cons (k_var hX.e 1 rfl (.inl rfl)) (c_cons (k_var hX.e 6 rfl (.inl rfl)) c_nil)))) (c_cons (k_var hX.e 6 rfl (.inl rfl)) c_nil))))))) s_nil) (s_cons (k_set hX (i := 5) rfl (.inl rfl) (c_call hX.e F_law_cells (by decide) (hX.e.gl rfl) (c_cons (k_var hX.e 2 rfl (.inr (.inl rfl))) c_nil))) (s_cons (k_set hX (i := 6) rfl (.inl rfl) (c_idx hX.e.kk (c_oB (c_lst (c_cons (c_tupRevA hX.e.kk hX.e.calm (hX.e.gl rfl) (hX.e.no hb.tuple) (hX.e.gl rfl) (hX.e.no hb.reversed) (c_toB (k_var hX.e 2 rfl (.inr (.inl rfl))))) (c_cons (c_tup (c_cons (k_var hX.e 5 rfl (.inl rfl)) c_nil)) (c_cons (c_tup (c_cons c_int (c_cons (k_var hX.e 5 rfl (.inl rfl)) c_nil))) (c_cons (c_tup (c_cons (k_var hX.e 5 rfl (.inl rfl)) (c_cons c_int c_nil))) c_nil)))))) (c_call hX.e F_law_taken (by decide) (hX.e.gl rfl) (c_cons (k_var hX.e 0 rfl (.inr (.inl rfl))) (c_cons c_int c_nil))))) (s_one (s_ret (c_tup (c_cons (c_tup (c_cons c_str (c_cons (k_var hX.e 1 rfl (.inl rfl)) (c_cons (k_var hX.e 6 rfl (.inl rfl)) c_nil)))) (c_cons (k_var hX.e 6 rfl (.inl rfl)) c_nil)))))))))))
abbrev s_law_sided : Stmt := topS 81
abbrev N_law_sided : List Str := ["_law_row", "_law_a", "_law_own_here", "_law_way", "_law_side", "_law_size", "_law_folds", "_law_begin", "_law_step", "_law_room", "_law_many", "_law_by", "_law_deed"]
theorem sc_law_sided : FnScope N_law_sided ["_law_row", "_law_a", "_law_own_here", "_law_way"] (defScope s_law_sided) := ⟨rfl, rfl, rfl, by decide +kernel, rfl, by decide +kernel, by decide +kernel⟩
def m_law_sided_r13 : Stm := (sRet (eTup (aCons (eTup (aCons (eC (.str (Str.ofString "cut"))) (aCons (eVar 1) (aCons (eVar 4) (aCons (eVar 7) (aCons (eVar 8) (aCons (eVar 10) aNil))))))) (aCons (eCall f_law_changed (aCons (eVar 2) (aCons (eVar 4) (aCons (eVar 10) aNil)))) aNil))))
def m_law_sided_r12 : Stm := (sSeq (sSet 10 (e2 vSub (e2 vAdd (eVar 9) (eC (.int 1))) (eCall f_law_taken (aCons (eVar 0) (aCons (e2 vAdd (eVar 9) (eC (.int 2))) aNil))))) m_law_sided_r13)
def m_law_sided_r11 : Stm := (sSeq (sIf (tb (e2 vEq (eCall f_law_taken (aCons (eVar 0) (aCons (eC (.int 2)) aNil))) (eC (.int 1)))) (sSeq (sSet 9 (e2 vDiv (eVar 7) (eVar 8))) (sSet 8 (e2 vSub (eC (.int 0)) (eVar 8)))) sNext) m_law_sided_r12)
def m_law_sided_r10 : Stm := (sSeq (sSet 9 (e2 vDiv (e2 vSub (e2 vSub (eVar 5) (eC (.int 1))) (eVar 7)) (eVar 8))) m_law_sided_r11)
def m_law_sided_r9 : Stm := (sSeq (sSet 8 (e2 vAdd (eC (.int 1)) (eCall f_law_taken (aCons (eVar 0) (aCons (eC (.int 3)) aNil))))) m_law_sided_r10)
def m_law_sided_r8 : Stm := (sSeq (sIf (tb (e2 vEq (eVar 3) (eC (.int 7)))) (sRet (eTup (aCons (eTup (aCons (eC (.str (Str.ofString "drop"))) (aCons (eVar 1) (aCons (eVar 4) (aCons (eVar 7) aNil))))) (aCons (e2 vAdd (eCut (eVar 2) oNone (oSome (eVar 4))) (eCut (eVar 2) (oSome (e2 vAdd (eVar 4) (eC (.int 1)))) oNone)) aNil)))) sNext) m_law_sided_r9)
def m_law_sided_r7 : Stm := (sSeq (sSet 7 (eCall f_law_taken (aCons (eVar 0) (aCons (eVar 5) aNil)))) m_law_sided_r8)
def m_law_sided_r6 : Stm := (sSeq (sIf (tb (e2 vEq (eVar 5) (eC (.int 0)))) (sRet (eTup (aCons (eTup (aCons (eC (.str (Str.ofString "one"))) (aCons (eC (.str (Str.ofString "none"))) (aCons (eVar 1) aNil)))) (aCons (eVar 2) aNil)))) sNext) m_law_sided_r7)
def m_law_sided_r5 : Stm := (sSeq (sIf (tb (e2 vEq (eVar 3) (eC (.int 6)))) (sRet (eTup (aCons (eTup (aCons (eC (.str (Str.ofString "run"))) (aCons (e2 vIdx (eVar 6) (eCall f_law_taken (aCons (eVar 0) (aCons (eC (.int 4)) aNil)))) (aCons (eVar 1) (aCons (eVar 4) aNil))))) (aCons (eVar 2) aNil)))) sNext) m_law_sided_r6)
def m_law_sided_r4 : Stm := (sSeq (sIf (tb (e2 vEq (eVar 3) (eC (.int 5)))) (sSeq (sSet 12 (e2 vIdx (eVar 6) (e2 vMod (eCall f_law_taken (aCons (eVar 0) (aCons (eC (.int 4)) aNil))) (e2 vIdx (eFrz (aCons (eC (.int 2)) (aCons (eC (.int 4)) aNil))) (e1 vInt (e2 vGt (eVar 5) (eC (.int 0)))))))) (sRet (eTup (aCons (eTup (aCons (eC (.str (Str.ofString "fold"))) (aCons (eVar 12) (aCons (eVar 1) (aCons (eVar 4) aNil))))) (aCons (e2 vAdd (eCut (eVar 2) oNone (oSome (eVar 4))) (eCut (eVar 2) (oSome (e2 vAdd (eVar 4) (eC (.int 1)))) oNone)) aNil))))) sNext) m_law_sided_r5)
def m_law_sided_r3 : Stm := (sSeq (sIf (tb (e2 vEq (eVar 3) (eC (.int 4)))) (sSeq (sSet 11 (e2 vSub (eCall f_law_taken (aCons (eVar 0) (aCons (eC (.int 9)) aNil))) (eC (.int 4)))) (sRet (eTup (aCons (eTup (aCons (eC (.str (Str.ofString "shift"))) (aCons (eVar 1) (aCons (eVar 4) (aCons (eVar 11) (aCons (eCall f_law_taken (aCons (eVar 0) (aCons (eC (.int 1000003)) aNil))) aNil)))))) (aCons (eVar 2) aNil))))) sNext) m_law_sided_r4)
def m_law_sided_r2 : Stm := (sSeq (sSet 6 (eFrz (aCons (eC (.str (Str.ofString "add"))) (aCons (eC (.str (Str.ofString "times"))) (aCons (eC (.str (Str.ofString "least"))) (aCons (eC (.str (Str.ofString "most"))) aNil)))))) m_law_sided_r3)
def m_law_sided_r1 : Stm := (sSeq (sSet 5 (e2 vIdx (eVar 2) (eVar 4))) m_law_sided_r2)
def m_law_sided : Stm := (sSeq (sSet 4 (eCall f_law_taken (aCons (eVar 0) (aCons (e1 vLen (eVar 2)) aNil)))) m_law_sided_r1)
def f_law_sided : List DV → M DV := fnM 13 m_law_sided
theorem d_law_sided {T : Tp} {X : Cx} {c : Cn} (hb : Blt T.mg) (F_law_taken : Fo T "_law_taken" 50 1 2 f_law_taken) (F_law_changed : Fo T "_law_changed" 57 1 3 f_law_changed) (hX : XSt T X c N_law_sided 1 (defScope s_law_sided)) : PSs X (defBody s_law_sided) (RS c m_law_sided) :=
  (s_cons (k_set hX (i := 4) rfl (.inl rfl) (c_call hX.e F_law_taken (by decide) (hX.e.gl rfl) (c_cons (k_var hX.e 0 rfl (.inl rfl)) (c_cons (c_len hX.e.kk (hX.e.gl rfl) (hX.e.no hb.len) (c_toB (k_var hX.e 2 rfl (.inl rfl)))) c_nil)))) (s_cons (k_set hX (i := 5) rfl (.inl rfl) (c_idx hX.e.kk (c_toB (k_var hX.e 2 rfl (.inl rfl))) (k_var hX.e 4 rfl (.inl rfl)))) (s_cons (k_set hX (i := 6) rfl (.inl rfl) (c_frz (c_lst (c_cons c_str (c_cons c_str (c_cons c_str (c_cons c_str c_nil))))))) (s_cons (s_if (t_eq hX.e.kk hX.e.u (c_toB (k_var hX.e 3 rfl (.inl rfl))) (c_toB c_int)) (s_cons (k_set hX (i := 11) rfl (.inl rfl) (c_sub (c_call hX.e F_law_taken (by decide) (hX.e.gl rfl) (c_cons (k_var hX.e 0 rfl (.inl rfl)) (c_cons c_int c_nil))) c_int)) (s_one (s_ret (c_tup (c_cons (c_tup (c_cons c_str (c_cons (k_var hX.e 1 rfl (.inl rfl)) (c_cons (k_var hX.e 4 rfl (.inl rfl)) (c_cons (k_var hX.e 11 rfl (.inl rfl)) (c_cons (c_call hX.e F_law_taken (by decide) (hX.e.gl rfl) (c_cons (k_var hX.e 0 rfl (.inl rfl)) (c_cons c_int c_nil))) c_nil)))))) (c_cons (k_var hX.e 2 rfl (.inl rfl)) c_nil)))))) s_nil) (s_cons (s_if (t_eq hX.e.kk hX.e.u (c_toB (k_var hX.e 3 rfl (.inl rfl))) (c_toB c_int)) (s_cons (k_set hX (i := 12) rfl (.inl rfl) (c_idx hX.e.kk (c_toB (k_var hX.e 6 rfl (.inl rfl))) (c_mod (c_call hX.e F_law_taken (by decide) (hX.e.gl rfl) (c_cons (k_var hX.e 0 rfl (.inl rfl)) (c_cons c_int c_nil))) (c_idx hX.e.kk (c_oB (c_lst (c_cons c_int (c_cons c_int c_nil)))) (c_intOf (hX.e.gl rfl) (hX.e.no hb.int) (c_gt (k_var hX.e 5 rfl (.inl rfl)) c_int)))))) (s_one (s_ret (c_tup (c_cons (c_tup (c_cons c_str (c_cons (k_var hX.e 12 rfl (.inl rfl)) (c_cons (k_var hX.e 1 rfl (.inl rfl)) (c_cons (k_var hX.e 4 rfl (.inl rfl)) c_nil))))) (c_cons (c_add hX.e.kk (c_toB (c_cut hX.e.kk (c_toB (k_var hX.e 2 rfl (.inl rfl))) c_pn (c_ps (k_var hX.e 4 rfl (.inl rfl))))) (c_toB (c_cut hX.e.kk (c_toB (k_var hX.e 2 rfl (.inl rfl))) (c_ps (c_add hX.e.kk (c_toB (k_var hX.e 4 rfl (.inl rfl))) (c_toB c_int))) c_pn))) c_nil)))))) s_nil) (s_cons (s_if (t_eq hX.e.kk hX.e.u (c_toB (k_var hX.e 3 rfl (.inl rfl))) (c_toB c_int)) (s_one (s_ret (c_tup (c_cons (c_tup (c_cons c_str (c_cons (c_idx hX.e.kk (c_toB (k_var hX.e 6 rfl (.inl rfl))) (c_call hX.e F_law_taken (by decide) (hX.e.gl rfl) (c_cons (k_var hX.e 0 rfl (.inl rfl)) (c_cons c_int c_nil)))) (c_cons (k_var hX.e 1 rfl (.inl rfl)) (c_cons (k_var hX.e 4 rfl (.inl rfl)) c_nil))))) (c_cons (k_var hX.e 2 rfl (.inl rfl)) c_nil))))) s_nil) (s_cons (s_if (t_eq hX.e.kk hX.e.u (c_toB (k_var hX.e 5 rfl (.inl rfl))) (c_toB c_int)) (s_one (s_ret (c_tup (c_cons (c_tup (c_cons c_str (c_cons c_str (c_cons (k_var hX.e 1 rfl (.inl rfl)) c_nil)))) (c_cons (k_var hX.e 2 rfl (.inl rfl)) c_nil))))) s_nil) (s_cons (k_set hX (i := 7) rfl (.inl rfl) (c_call hX.e F_law_taken (by decide) (hX.e.gl rfl) (c_cons (k_var hX.e 0 rfl (.inl rfl)) (c_cons (k_var hX.e 5 rfl (.inl rfl)) c_nil)))) (s_cons (s_if (t_eq hX.e.kk hX.e.u (c_toB (k_var hX.e 3 rfl (.inl rfl))) (c_toB c_int)) (s_one (s_ret (c_tup (c_cons (c_tup (c_cons c_str (c_cons (k_var hX.e 1 rfl (.inl rfl)) (c_cons (k_var hX.e 4 rfl (.inl rfl)) (c_cons (k_var hX.e 7 rfl (.inl rfl)) c_nil))))) (c_cons (c_add hX.e.kk (c_toB (c_cut hX.e.kk (c_toB (k_var hX.e 2 rfl (.inl rfl))) c_pn (c_ps (k_var hX.e 4 rfl (.inl rfl))))) (c_toB (c_cut hX.e.kk (c_toB (k_var hX.e 2 rfl (.inl rfl))) (c_ps (c_add hX.e.kk (c_toB (k_var hX.e 4 rfl (.inl rfl))) (c_toB c_int))) c_pn))) c_nil))))) s_nil) (s_cons (k_set hX (i := 8) rfl (.inl rfl) (c_add hX.e.kk (c_toB c_int) (c_toB (c_call hX.e F_law_taken (by decide) (hX.e.gl rfl) (c_cons (k_var hX.e 0 rfl (.inl rfl)) (c_cons c_int c_nil)))))) (s_cons (k_set hX (i := 9) rfl (.inl rfl) (c_div (c_sub (c_sub (k_var hX.e 5 rfl (.inl rfl)) c_int) (k_var hX.e 7 rfl (.inl rfl))) (k_var hX.e 8 rfl (.inl rfl)))) (s_cons (s_if (t_eq hX.e.kk hX.e.u (c_toB (c_call hX.e F_law_taken (by decide) (hX.e.gl rfl) (c_cons (k_var hX.e 0 rfl (.inl rfl)) (c_cons c_int c_nil)))) (c_toB c_int)) (s_cons (k_set hX (i := 9) rfl (.inl rfl) (c_div (k_var hX.e 7 rfl (.inl rfl)) (k_var hX.e 8 rfl (.inl rfl)))) (s_one (k_set hX (i := 8) rfl (.inl rfl) (c_sub c_int (k_var hX.e 8 rfl (.inl rfl)))))) s_nil) (s_cons (k_set hX (i := 10) rfl (.inl rfl) (c_sub (c_add hX.e.kk (c_toB (k_var hX.e 9 rfl (.inl rfl))) (c_toB c_int)) (c_call hX.e F_law_taken (by decide) (hX.e.gl rfl) (c_cons (k_var hX.e 0 rfl (.inl rfl)) (c_cons (c_add hX.e.kk (c_toB (k_var hX.e 9 rfl (.inl rfl))) (c_toB c_int)) c_nil))))) (s_one (s_ret (c_tup (c_cons (c_tup (c_cons c_str (c_cons (k_var hX.e 1 rfl (.inl rfl)) (c_cons (k_var hX.e 4 rfl (.inl rfl)) (c_cons (k_var hX.e 7 rfl (.inl rfl)) (c_cons (k_var hX.e 8 rfl (.inl rfl)) (c_cons (k_var hX.e 10 rfl (.inl rfl)) c_nil))))))) (c_cons (c_call hX.e F_law_changed (by decide) (hX.e.gl rfl) (c_cons (k_var hX.e 2 rfl (.inl rfl)) (c_cons (k_var hX.e 4 rfl (.inl rfl)) (c_cons (k_var hX.e 10 rfl (.inl rfl)) c_nil)))) c_nil))))))))))))))))))
abbrev s_law_own : Stmt := topS 82
abbrev N_law_own : List Str := ["_law_row", "_law_sides", "_law_k"]
theorem sc_law_own : FnScope N_law_own ["_law_row"] (defScope s_law_own) := ⟨rfl, rfl, rfl, by decide +kernel, rfl, by decide +kernel, by decide +kernel⟩
def m_law_own_c1 : En → M (List DV) := (mLc [2] (iB (eCall f_law_taken (aCons (eVar 0) (aCons (eC (.int 5)) aNil))) itN) (tName 2) mYes (e2 vIdx (eFrz (aCons (eC (.int 2)) (aCons (eC (.int 3)) (aCons (eC (.int 1)) (aCons (eC (.int 2)) (aCons (eC (.int 3)) (aCons (eC (.int 1)) (aCons (eC (.int 4)) (aCons (eC (.int 0)) aNil))))))))) (eCall f_law_taken (aCons (eVar 0) (aCons (eC (.int 8)) aNil)))))
def m_law_own : Stm := (sSeq (sSetL 1 m_law_own_c1) (sSeq (sIf (tb (e2 vGt (eCall f_law_cells (aCons (eVar 1) aNil)) (eC (.int 54)))) (sSet 1 (eCut (eVar 1) (oSome (eC (.int 1))) oNone)) sNext) (sRet (e1 vTup (eVar 1)))))
def f_law_own : List DV → M DV := fnM 3 m_law_own
theorem d_law_own {T : Tp} {X : Cx} {c : Cn} (hb : Blt T.mg) (F_law_taken : Fo T "_law_taken" 50 1 2 f_law_taken) (F_law_cells : Fo T "_law_cells" 53 1 1 f_law_cells) (hX : XSt T X c N_law_own 1 (defScope s_law_own)) : PSs X (defBody s_law_own) (RS c m_law_own) :=
  (s_cons (s_after (k_setLc hX (i := 1) [("_law_k", 2)] rfl rfl rfl (by decide +kernel) rfl (i_rng (hX.e.gl rfl) (hX.e.no hb.range) (c_call hX.e F_law_taken (by decide) (hX.e.gl rfl) (c_cons (k_var hX.e 0 rfl (.inr (.inl rfl))) (c_cons c_int c_nil)))) (by decide +kernel) (fun X' b1 => (k_gnB b1 (i := 2) rfl (.inl rfl) (.inr rfl))) (fun X' b1 => ts_nil) (fun X' b1 => (c_idx b1.e.kk (c_oB (c_lst (c_cons c_int (c_cons c_int (c_cons c_int (c_cons c_int (c_cons c_int (c_cons c_int (c_cons c_int (c_cons c_int c_nil)))))))))) (c_call b1.e F_law_taken (by decide) (b1.e.gl rfl) (c_cons (k_var b1.e 0 rfl (.inr (.inl rfl))) (c_cons c_int c_nil))))))) (s_cons (s_if (t_gt (c_call hX.e F_law_cells (by decide) (hX.e.gl rfl) (c_cons (k_var hX.e 1 rfl (.inl rfl)) c_nil)) c_int) (s_one (k_set hX (i := 1) rfl (.inl rfl) (c_cut hX.e.kk (c_toB (k_var hX.e 1 rfl (.inl rfl))) (c_ps c_int) c_pn))) s_nil) (s_one (s_ret (c_tupOf hX.e.kk (hX.e.gl rfl) (hX.e.no hb.tuple) (c_toB (k_var hX.e 1 rfl (.inl rfl))))))))
abbrev s_law_numbered : Stmt := topS 83
abbrev N_law_numbered : List Str := ["_law_row", "_law_sides", "_law_seed", "_law_found", "_law_p", "_law_number"]
theorem sc_law_numbered : FnScope N_law_numbered ["_law_row", "_law_sides"] (defScope s_law_numbered) := ⟨rfl, rfl, rfl, by decide +kernel, rfl, by decide +kernel, by decide +kernel⟩
def m_law_numbered_c1 : En → M (List DV) := (mLc [4] (iB (eCall f_law_cells (aCons (eVar 1) aNil)) itN) (tName 4) mYes (e2 vMod (e2 vAdd (eVar 2) (e2 vMul (e2 vMul (eC (.int 48271)) (eVar 4)) (e2 vAdd (eVar 4) (e2 vMod (eVar 2) (eC (.int 7)))))) (eC (.int 1000003))))
def m_law_numbered_c2 : En → M (List DV) := (mLc [5] (iB (eVar 3) itS) (tName 5) mYes (e2 vMod (eVar 5) (eC (.int 3))))
def m_law_numbered : Stm := (sSeq (sSet 2 (eCall f_law_taken (aCons (eVar 0) (aCons (eC (.int 1000003)) aNil)))) (sSeq (sSetL 3 m_law_numbered_c1) (sSeq (sIf (tb (e2 vEq (e2 vMod (eVar 2) (eC (.int 3))) (eC (.int 1)))) (sSetL 3 m_law_numbered_c2) sNext) (sRet (eVar 3)))))
def f_law_numbered : List DV → M DV := fnM 6 m_law_numbered
theorem d_law_numbered {T : Tp} {X : Cx} {c : Cn} (hb : Blt T.mg) (F_law_taken : Fo T "_law_taken" 50 1 2 f_law_taken) (F_law_cells : Fo T "_law_cells" 53 1 1 f_law_cells) (hX : XSt T X c N_law_numbered 1 (defScope s_law_numbered)) : PSs X (defBody s_law_numbered) (RS c m_law_numbered) :=
  (s_cons (k_set hX (i := 2) rfl (.inr rfl) (c_call hX.e F_law_taken (by decide) (hX.e.gl rfl) (c_cons (k_var hX.e 0 rfl (.inl rfl)) (c_cons c_int c_nil)))) (s_cons (s_after (k_setLc hX (i := 3) [("_law_p", 4)] rfl rfl rfl (by decide +kernel) rfl (i_rng (hX.e.gl rfl) (hX.e.no hb.range) (c_call hX.e F_law_cells (by decide) (hX.e.gl rfl) (c_cons (k_var hX.e 1 rfl (.inl rfl)) c_nil))) (by decide +kernel) (fun X' b1 => (k_gnB b1 (i := 4) rfl (.inl rfl) (.inr rfl))) (fun X' b1 => ts_nil) (fun X' b1 => (c_mod (c_add b1.e.kk (c_toB (k_var b1.e 2 rfl (.inr (.inl rfl)))) (c_toB (c_mul (c_mul c_int (k_var b1.e 4 rfl (.inl rfl))) (c_add b1.e.kk (c_toB (k_var b1.e 4 rfl (.inl rfl))) (c_toB (c_mod (k_var b1.e 2 rfl (.inr (.inl rfl))) c_int)))))) c_int)))) (s_cons (s_if (t_eq hX.e.kk hX.e.u (c_toB (c_mod (k_var hX.e 2 rfl (.inr (.inl rfl))) c_int)) (c_toB c_int)) (s_one (s_after (k_setLc hX (i := 3) [("_law_number", 5)] rfl rfl rfl (by decide +kernel) rfl (i_seq hX.e.kk (k_var hX.e 3 rfl (.inl rfl))) (by decide +kernel) (fun X' b2 => (k_gnB b2 (i := 5) rfl (.inl rfl) (.inr rfl))) (fun X' b2 => ts_nil) (fun X' b2 => (c_mod (k_var b2.e 5 rfl (.inl rfl)) c_int))))) s_nil) (s_one (s_ret (k_var hX.e 3 rfl (.inl rfl)))))))
abbrev s_law_under : Stmt := topS 84
abbrev N_law_under : List Str := ["_law_line", "_law_own_here", "_law_at", "_law_k"]
theorem sc_law_under : FnScope N_law_under ["_law_line", "_law_own_here", "_law_at"] (defScope s_law_under) := ⟨rfl, rfl, rfl, by decide +kernel, rfl, by decide +kernel, by decide +kernel⟩
def m_law_under_c1 : En → M (List DV) := (mLc [3] (iB (e1 vLen (eVar 1)) itN) (tName 3) mYes (e2 vIdx (eVar 2) (eIndex (eFrz (iB (e2 vIdx (eVar 0) (eC (.int 2))) lLst)) (eVar 3))))
def m_law_under : Stm := (sSeq (sIf (tb (e2 vEq (e2 vIdx (eVar 0) (eC (.int 0))) (eC (.str (Str.ofString "turn"))))) (sRet (e1 vTup (eFrz m_law_under_c1))) sNext) (sSeq (sIf (tb (e2 vEq (e2 vIdx (eVar 0) (eC (.int 0))) (eC (.str (Str.ofString "wide"))))) (sRet (e2 vAdd (eCut (eVar 2) oNone (oSome (e2 vIdx (eVar 0) (eC (.int 2))))) (eCut (eVar 2) (oSome (e2 vAdd (e2 vIdx (eVar 0) (eC (.int 2))) (eC (.int 1)))) oNone))) sNext) (sSeq (sIf (tb (e2 vEq (e2 vIdx (eVar 0) (eC (.int 0))) (eC (.str (Str.ofString "spread"))))) (sRet (eCut (eVar 2) (oSome (e2 vSub (e1 vLen (eVar 2)) (e1 vLen (eVar 1)))) oNone)) sNext) (sSeq (sIf (tb (e2 vEq (e2 vIdx (eVar 0) (eC (.int 0))) (eC (.str (Str.ofString "drop"))))) (sRet (e2 vAdd (e2 vAdd (eCut (eVar 2) oNone (oSome (e2 vIdx (eVar 0) (eC (.int 2))))) (eTup (aCons (e2 vIdx (eVar 0) (eC (.int 3))) aNil))) (eCut (eVar 2) (oSome (e2 vIdx (eVar 0) (eC (.int 2)))) oNone))) sNext) (sRet (eCall f_law_changed (aCons (eVar 2) (aCons (e2 vIdx (eVar 0) (eC (.int 2))) (aCons (e2 vAdd (e2 vIdx (eVar 0) (eC (.int 3))) (e2 vMul (e2 vIdx (eVar 2) (e2 vIdx (eVar 0) (eC (.int 2)))) (e2 vIdx (eVar 0) (eC (.int 4))))) aNil)))))))))
def f_law_under : List DV → M DV := fnM 4 m_law_under
theorem d_law_under {T : Tp} {X : Cx} {c : Cn} (hb : Blt T.mg) (F_law_changed : Fo T "_law_changed" 57 1 3 f_law_changed) (hX : XSt T X c N_law_under 1 (defScope s_law_under)) : PSs X (defBody s_law_under) (RS c m_law_under) :=
  (s_cons (s_if (t_eq hX.e.kk hX.e.u (c_toB (c_idx hX.e.kk (c_toB (k_var hX.e 0 rfl (.inr (.inl rfl)))) c_int)) (c_toB c_str)) (s_one (s_ret (c_tupOf hX.e.kk (hX.e.gl rfl) (hX.e.no hb.tuple) (c_oB (k_lc hX.e [("_law_k", 3)] (i_rng (hX.e.gl rfl) (hX.e.no hb.range) (c_len hX.e.kk (hX.e.gl rfl) (hX.e.no hb.len) (c_toB (k_var hX.e 1 rfl (.inl rfl))))) (by decide +kernel) (fun X' b1 => (k_gnB b1 (i := 3) rfl (.inl rfl) (.inr rfl))) (fun X' b1 => ts_nil) (fun X' b1 => (c_idx b1.e.kk (c_toB (k_var b1.e 2 rfl (.inr (.inl rfl)))) (c_index b1.e.kk (c_frz (c_listOf b1.e.kk (b1.e.gl rfl) (b1.e.no hb.list) (c_toB (c_idx b1.e.kk (c_toB (k_var b1.e 0 rfl (.inr (.inl rfl)))) c_int)))) (k_var b1.e 3 rfl (.inl rfl)))))))))) s_nil) (s_cons (s_if (t_eq hX.e.kk hX.e.u (c_toB (c_idx hX.e.kk (c_toB (k_var hX.e 0 rfl (.inr (.inl rfl)))) c_int)) (c_toB c_str)) (s_one (s_ret (c_add hX.e.kk (c_toB (c_cut hX.e.kk (c_toB (k_var hX.e 2 rfl (.inr (.inl rfl)))) c_pn (c_ps (c_idx hX.e.kk (c_toB (k_var hX.e 0 rfl (.inr (.inl rfl)))) c_int)))) (c_toB (c_cut hX.e.kk (c_toB (k_var hX.e 2 rfl (.inr (.inl rfl)))) (c_ps (c_add hX.e.kk (c_toB (c_idx hX.e.kk (c_toB (k_var hX.e 0 rfl (.inr (.inl rfl)))) c_int)) (c_toB c_int))) c_pn))))) s_nil) (s_cons (s_if (t_eq hX.e.kk hX.e.u (c_toB (c_idx hX.e.kk (c_toB (k_var hX.e 0 rfl (.inr (.inl rfl)))) c_int)) (c_toB c_str)) (s_one (s_ret (c_cut hX.e.kk (c_toB (k_var hX.e 2 rfl (.inr (.inl rfl)))) (c_ps (c_sub (c_len hX.e.kk (hX.e.gl rfl) (hX.e.no hb.len) (c_toB (k_var hX.e 2 rfl (.inr (.inl rfl))))) (c_len hX.e.kk (hX.e.gl rfl) (hX.e.no hb.len) (c_toB (k_var hX.e 1 rfl (.inl rfl)))))) c_pn))) s_nil) (s_cons (s_if (t_eq hX.e.kk hX.e.u (c_toB (c_idx hX.e.kk (c_toB (k_var hX.e 0 rfl (.inr (.inl rfl)))) c_int)) (c_toB c_str)) (s_one (s_ret (c_add hX.e.kk (c_toB (c_add hX.e.kk (c_toB (c_cut hX.e.kk (c_toB (k_var hX.e 2 rfl (.inr (.inl rfl)))) c_pn (c_ps (c_idx hX.e.kk (c_toB (k_var hX.e 0 rfl (.inr (.inl rfl)))) c_int)))) (c_toB (c_tup (c_cons (c_idx hX.e.kk (c_toB (k_var hX.e 0 rfl (.inr (.inl rfl)))) c_int) c_nil))))) (c_toB (c_cut hX.e.kk (c_toB (k_var hX.e 2 rfl (.inr (.inl rfl)))) (c_ps (c_idx hX.e.kk (c_toB (k_var hX.e 0 rfl (.inr (.inl rfl)))) c_int)) c_pn))))) s_nil) (s_one (s_ret (c_call hX.e F_law_changed (by decide) (hX.e.gl rfl) (c_cons (k_var hX.e 2 rfl (.inr (.inl rfl))) (c_cons (c_idx hX.e.kk (c_toB (k_var hX.e 0 rfl (.inr (.inl rfl)))) c_int) (c_cons (c_add hX.e.kk (c_toB (c_idx hX.e.kk (c_toB (k_var hX.e 0 rfl (.inr (.inl rfl)))) c_int)) (c_toB (c_mul (c_idx hX.e.kk (c_toB (k_var hX.e 2 rfl (.inr (.inl rfl)))) (c_idx hX.e.kk (c_toB (k_var hX.e 0 rfl (.inr (.inl rfl)))) c_int)) (c_idx hX.e.kk (c_toB (k_var hX.e 0 rfl (.inr (.inl rfl)))) c_int)))) c_nil))))))))))
abbrev s_law : Stmt := topS 85
abbrev N_law : List Str := ["_law_script", "_law_row", "_law_way", "_law_own_here", "_law_cells_here", "_law_due", "_law_table", "_law_program", "_law_told", "_law_k", "_law_found", "_law_place"]
theorem sc_law : FnScope N_law ["_law_script"] (defScope s_law) := ⟨rfl, rfl, rfl, by decide +kernel, rfl, by decide +kernel, by decide +kernel⟩
def m_law_b1 : Stm := (sApp 5 (eCall f_law_look (aCons (eVar 3) (aCons (eVar 4) (aCons (eCall f_law_under (aCons (e2 vIdx (eVar 10) (eC (.int 0))) (aCons (eVar 3) (aCons (eCall f_law_index (aCons (e2 vIdx (eVar 10) (eC (.int 1))) (aCons (eVar 11) aNil))) aNil)))) aNil)))))
def m_law_b2 : Stm := (sSetH (eC (.int 5)) (e1 (vFld fl_cells) (eVar 8)) (eVar 9))
def m_law_r14 : Stm := (sSeq (sFrz 5) (sRet (eAnd (eCall f_law_is_table (aCons (eVar 6) (aCons (eVar 3) (aCons (eVar 4) aNil)))) (eCall f_law_is_table (aCons (eCall f_plain_answer (aCons (eVar 7) (aCons (eFrz (aCons (eVar 6) aNil)) aNil))) (aCons (e2 vIdx (eVar 10) (eC (.int 1))) (aCons (eVar 5) aNil)))))))
def m_law_r13 : Stm := (sSeq (sFor (iB (e1 vLen (e1 (vFld fl_cells) (eVar 8))) itN) (tName 9) [9] m_law_b2) m_law_r14)
def m_law_r12 : Stm := (sSeq (sSeq (sFrz 5) (sIf (tNot (tb (eCall f_law_is_table (aCons (eVar 8) (aCons (e2 vIdx (eVar 10) (eC (.int 1))) (aCons (eVar 5) aNil)))))) (sRet (eC (.bl false))) sNext)) m_law_r13)
def m_law_r11 : Stm := (sSeq (sSet 8 (eCall f_plain_answer (aCons (eVar 7) (aCons (eFrz (aCons (eVar 6) aNil)) aNil)))) m_law_r12)
def m_law_r10 : Stm := (sSeq (sSet 7 (eFrz (aCons (eTup (aCons (eC (.str (Str.ofString "given"))) (aCons (eC (.int 0)) aNil))) (aCons (e2 vIdx (eVar 10) (eC (.int 0))) aNil)))) m_law_r11)
def m_law_r9 : Stm := (sSeq (sSet 6 (eMake 4 i_Table (aCons (eVar 3) (aCons (eVar 4) aNil)))) m_law_r10)
def m_law_r8 : Stm := (sSeq (sIf (tb (e2 vNe (e2 vIdx (e2 vIdx (eVar 10) (eC (.int 0))) (eC (.int 0))) (eC (.str (Str.ofString "shape"))))) (sSeq (sSetO 5 aNil) (sFor (iB (eCall f_law_cells (aCons (e2 vIdx (eVar 10) (eC (.int 1))) aNil)) itN) (tName 11) [11] m_law_b1)) sNext) m_law_r9)
def m_law_r7 : Stm := (sSeq (sSetO 5 (iB (eVar 4) lLst)) m_law_r8)
def m_law_r6 : Stm := (sSeq (sIf (tOr (tb (e2 vGt (e1 vLen (e2 vIdx (eVar 10) (eC (.int 1)))) (eC (.int 4)))) (tOr (tb (e2 vGt (eCall f_law_cells (aCons (e2 vIdx (eVar 10) (eC (.int 1))) aNil)) (eC (.int 250)))) (tb (e2 vGt (e2 vMaxD (e2 vIdx (eVar 10) (eC (.int 1))) (eC (.int 0))) (eC (.int 64)))))) (sRet (eC (.bl true))) sNext) m_law_r7)
def m_law_r5 : Stm := (sSeq (sIf (tb (e2 vEq (e2 vIdx (e2 vIdx (eVar 10) (eC (.int 0))) (eC (.int 0))) (eC (.str (Str.ofString "one"))))) (sSet 10 (eTup (aCons (eTup (aCons (eC (.str (Str.ofString "wide"))) (aCons (eC (.int 0)) (aCons (eC (.int 0)) aNil)))) (aCons (e2 vAdd (eTup (aCons (eC (.int 1)) aNil)) (eVar 3)) aNil)))) sNext) m_law_r6)
def m_law_r4 : Stm := (sSeq (sIf (tb (e2 vLt (eVar 2) (eC (.int 4)))) (sSet 10 (eCall f_law_view (aCons (eVar 1) (aCons (eC (.int 0)) (aCons (eVar 3) (aCons (eVar 2) aNil)))))) (sIf (tb (e2 vNe (eVar 3) (eTup aNil))) (sSet 10 (eCall f_law_sided (aCons (eVar 1) (aCons (eC (.int 0)) (aCons (eVar 3) (aCons (eVar 2) aNil)))))) (sSet 10 (eTup (aCons (eTup (aCons (eC (.str (Str.ofString "wide"))) (aCons (eC (.int 0)) (aCons (eC (.int 0)) aNil)))) (aCons (eTup (aCons (eC (.int 1)) aNil)) aNil)))))) m_law_r5)
def m_law_r3 : Stm := (sSeq (sSet 4 (eCall f_law_numbered (aCons (eVar 1) (aCons (eVar 3) aNil)))) m_law_r4)
def m_law_r2 : Stm := (sSeq (sSet 3 (eCall f_law_own (aCons (eVar 1) aNil))) m_law_r3)
def m_law_r1 : Stm := (sSeq (sSet 2 (e2 vIdx (eFrz (aCons (eC (.int 0)) (aCons (eC (.int 1)) (aCons (eC (.int 2)) (aCons (eC (.int 3)) (aCons (eC (.int 7)) (aCons (eC (.int 8)) (aCons (eC (.int 8)) aNil)))))))) (eCall f_law_taken (aCons (eVar 1) (aCons (eC (.int 7)) aNil))))) m_law_r2)
def m_law : Stm := (sSeq (sSet 1 (eNew (aCons (eVar 0) (aCons (eC (.int 0)) aNil)))) m_law_r1)
def f_law : List DV → M DV := fnM 12 m_law
theorem d_law {T : Tp} {X : Cx} {c : Cn} (hb : Blt T.mg) (F_plain_answer : Fo T "plain_answer" 49 6 2 f_plain_answer) (F_law_taken : Fo T "_law_taken" 50 1 2 f_law_taken) (F_law_cells : Fo T "_law_cells" 53 1 1 f_law_cells) (F_law_index : Fo T "_law_index" 54 2 2 f_law_index) (F_law_look : Fo T "_law_look" 55 1 3 f_law_look) (F_law_is_table : Fo T "_law_is_table" 56 3 3 f_law_is_table) (F_law_view : Fo T "_law_view" 58 2 4 f_law_view) (F_law_sided : Fo T "_law_sided" 59 2 4 f_law_sided) (F_law_own : Fo T "_law_own" 60 2 1 f_law_own) (F_law_numbered : Fo T "_law_numbered" 61 2 2 f_law_numbered) (F_law_under : Fo T "_law_under" 62 2 3 f_law_under) (hF_cells : FldL T "cells" fl_cells) (hMk_Table : MkOk T "Table" 4 3 2 i_Table) (hX : XSt T X c N_law 6 (defScope s_law)) : PSs X (defBody s_law) (RS c m_law) :=
  (s_cons (k_set hX (i := 1) rfl (.inl rfl) (c_new (c_lst (c_cons (k_var hX.e 0 rfl (.inl rfl)) (c_cons c_int c_nil))))) (s_cons (k_set hX (i := 2) rfl (.inl rfl) (c_idx hX.e.kk (c_oB (c_lst (c_cons c_int (c_cons c_int (c_cons c_int (c_cons c_int (c_cons c_int (c_cons c_int (c_cons c_int c_nil))))))))) (c_call hX.e F_law_taken (by decide) (hX.e.gl rfl) (c_cons (k_var hX.e 1 rfl (.inl rfl)) (c_cons c_int c_nil))))) (s_cons (k_set hX (i := 3) rfl (.inl rfl) (c_call hX.e F_law_own (by decide) (hX.e.gl rfl) (c_cons (k_var hX.e 1 rfl (.inl rfl)) c_nil))) (s_cons (k_set hX (i := 4) rfl (.inl rfl) (c_call hX.e F_law_numbered (by decide) (hX.e.gl rfl) (c_cons (k_var hX.e 1 rfl (.inl rfl)) (c_cons (k_var hX.e 3 rfl (.inl rfl)) c_nil)))) (s_cons (s_if (t_lt (k_var hX.e 2 rfl (.inl rfl)) c_int) (s_one (k_set hX (i := 10) rfl (.inl rfl) (c_call hX.e F_law_view (by decide) (hX.e.gl rfl) (c_cons (k_var hX.e 1 rfl (.inl rfl)) (c_cons c_int (c_cons (k_var hX.e 3 rfl (.inl rfl)) (c_cons (k_var hX.e 2 rfl (.inl rfl)) c_nil))))))) (s_one (s_if (t_ne hX.e.kk hX.e.u (c_toB (k_var hX.e 3 rfl (.inl rfl))) (c_toB (c_tup c_nil))) (s_one (k_set hX (i := 10) rfl (.inl rfl) (c_call hX.e F_law_sided (by decide) (hX.e.gl rfl) (c_cons (k_var hX.e 1 rfl (.inl rfl)) (c_cons c_int (c_cons (k_var hX.e 3 rfl (.inl rfl)) (c_cons (k_var hX.e 2 rfl (.inl rfl)) c_nil))))))) (s_one (k_set hX (i := 10) rfl (.inl rfl) (c_tup (c_cons (c_tup (c_cons c_str (c_cons c_int (c_cons c_int c_nil)))) (c_cons (c_tup (c_cons c_int c_nil)) c_nil)))))))) (s_cons (s_if (t_eq hX.e.kk hX.e.u (c_toB (c_idx hX.e.kk (c_toB (c_idx hX.e.kk (c_toB (k_var hX.e 10 rfl (.inl rfl))) c_int)) c_int)) (c_toB c_str)) (s_one (k_set hX (i := 10) rfl (.inl rfl) (c_tup (c_cons (c_tup (c_cons c_str (c_cons c_int (c_cons c_int c_nil)))) (c_cons (c_add hX.e.kk (c_toB (c_tup (c_cons c_int c_nil))) (c_toB (k_var hX.e 3 rfl (.inl rfl)))) c_nil))))) s_nil) (s_cons (s_if (PW.pt (t_or (t_gt (c_len hX.e.kk (hX.e.gl rfl) (hX.e.no hb.len) (c_toB (c_idx hX.e.kk (c_toB (k_var hX.e 10 rfl (.inl rfl))) c_int))) c_int) (t_or (t_gt (c_call hX.e F_law_cells (by decide) (hX.e.gl rfl) (c_cons (c_idx hX.e.kk (c_toB (k_var hX.e 10 rfl (.inl rfl))) c_int) c_nil)) c_int) (t_or1 (t_gt (c_maxD hX.e.kk hX.e.calm hX.e.u (hX.e.gl rfl) (hX.e.no hb.max) (c_idx hX.e.kk (c_toB (k_var hX.e 10 rfl (.inl rfl))) c_int) c_int) c_int))))) (s_one (s_ret c_bl)) s_nil) (s_cons (k_setO hX (i := 5) rfl (.inl rfl) (c_listOf hX.e.kk (hX.e.gl rfl) (hX.e.no hb.list) (c_toB (k_var hX.e 4 rfl (.inl rfl))))) (s_cons (s_if (t_ne hX.e.kk hX.e.u (c_toB (c_idx hX.e.kk (c_toB (c_idx hX.e.kk (c_toB (k_var hX.e 10 rfl (.inl rfl))) c_int)) c_int)) (c_toB c_str)) (s_cons (k_setO hX (i := 5) rfl (.inl rfl) (c_lst c_nil)) (s_one (k_for [11] hX (i_rng (hX.e.gl rfl) (hX.e.no hb.range) (c_call hX.e F_law_cells (by decide) (hX.e.gl rfl) (c_cons (c_idx hX.e.kk (c_toB (k_var hX.e 10 rfl (.inl rfl))) c_int) c_nil))) (k_gn hX (i := 11) rfl (.inl rfl)) (s_one (k_app hX (i := 5) rfl (.inl rfl) (c_call hX.e F_law_look (by decide) (hX.e.gl rfl) (c_cons (k_var hX.e 3 rfl (.inl rfl)) (c_cons (k_var hX.e 4 rfl (.inl rfl)) (c_cons (c_call hX.e F_law_under (by decide) (hX.e.gl rfl) (c_cons (c_idx hX.e.kk (c_toB (k_var hX.e 10 rfl (.inl rfl))) c_int) (c_cons (k_var hX.e 3 rfl (.inl rfl)) (c_cons (c_call hX.e F_law_index (by decide) (hX.e.gl rfl) (c_cons (c_idx hX.e.kk (c_toB (k_var hX.e 10 rfl (.inl rfl))) c_int) (c_cons (k_var hX.e 11 rfl (.inl rfl)) c_nil))) c_nil)))) c_nil))))))))) s_nil) (s_cons (k_set hX (i := 6) rfl (.inl rfl) (c_make hX.e hMk_Table (by decide) (hX.e.gl rfl) (c_cons (k_var hX.e 3 rfl (.inl rfl)) (c_cons (k_var hX.e 4 rfl (.inl rfl)) c_nil)))) (s_cons (k_set hX (i := 7) rfl (.inl rfl) (c_frz (c_lst (c_cons (c_tup (c_cons c_str (c_cons c_int c_nil))) (c_cons (c_idx hX.e.kk (c_toB (k_var hX.e 10 rfl (.inl rfl))) c_int) c_nil))))) (s_cons (k_set hX (i := 8) rfl (.inl rfl) (c_call hX.e F_plain_answer (by decide) (hX.e.gl rfl) (c_cons (k_var hX.e 7 rfl (.inl rfl)) (c_cons (c_frz (c_lst (c_cons (k_var hX.e 6 rfl (.inl rfl)) c_nil))) c_nil)))) (s_cons (s_frz (i := 5) (s_if (t_not (t_val (c_call hX.e F_law_is_table (by decide) (hX.e.gl rfl) (c_cons (k_var hX.e 8 rfl (.inl rfl)) (c_cons (c_idx hX.e.kk (c_toB (k_var hX.e 10 rfl (.inl rfl))) c_int) (c_cons (k_var hX.e 5 rfl (.inl rfl)) c_nil)))))) (s_one (s_ret c_bl)) s_nil)) (s_cons (k_for [9] hX (i_rng (hX.e.gl rfl) (hX.e.no hb.range) (c_len hX.e.kk (hX.e.gl rfl) (hX.e.no hb.len) (c_toB (c_fld hX.e hF_cells (k_var hX.e 8 rfl (.inl rfl)))))) (k_gn hX (i := 9) rfl (.inl rfl)) (s_one (s_setH c_int (c_fld hX.e hF_cells (k_var hX.e 8 rfl (.inl rfl))) (k_var hX.e 9 rfl (.inl rfl))))) (s_one (s_frz (i := 5) (s_ret (c_and (c_call hX.e F_law_is_table (by decide) (hX.e.gl rfl) (c_cons (k_var hX.e 6 rfl (.inl rfl)) (c_cons (k_var hX.e 3 rfl (.inl rfl)) (c_cons (k_var hX.e 4 rfl (.inl rfl)) c_nil)))) (c_one (c_call hX.e F_law_is_table (by decide) (hX.e.gl rfl) (c_cons (c_call hX.e F_plain_answer (by decide) (hX.e.gl rfl) (c_cons (k_var hX.e 7 rfl (.inl rfl)) (c_cons (c_frz (c_lst (c_cons (k_var hX.e 6 rfl (.inl rfl)) c_nil))) c_nil))) (c_cons (c_idx hX.e.kk (c_toB (k_var hX.e 10 rfl (.inl rfl))) c_int) (c_cons (k_var hX.e 5 rfl (.inl rfl)) c_nil)))))))))))))))))))))))
end LM
namespace LM
open PySem L2
@[simp] abbrev cTab : Nat := 1
@[simp] abbrev cBad : Nat := 2
@[simp] abbrev cT : Nat := 4
/-! ### drawing, told by places -/
def hR (ns : List Int) (k : Nat) : HP := [HObj.lst [.scr ns, .int (k : Int)]]
def tk (ns : List Int) (k : Nat) (m : Int) : Int := if k < ns.length then ns.getD k 0 % m else 0
theorem tk0 (ns : List Int) (k : Nat) {m : Int} (hm : 0 < m) : 0 ≤ tk ns k m := by
  unfold tk
  split
  · exact Int.emod_nonneg _ (by omega)
  · decide
theorem tk1 (ns : List Int) (k : Nat) {m : Int} (hm : 0 < m) : tk ns k m < m := by
  unfold tk
  split
  · exact Int.emod_lt_of_pos _ hm
  · exact hm
theorem tkN (ns : List Int) (k : Nat) {m : Int} (hm : 0 < m) : ∃ t : Nat, tk ns k m = (t : Int) ∧ (t : Int) < m := by
  have a := tk0 ns k hm
  have b := tk1 ns k hm
  exact ⟨(tk ns k m).toNat, by omega, by omega⟩
@[simp] theorem taken_at (ns : List Int) (k : Nat) (m : Int) (hm : 0 < m) : f_law_taken [.ref 0, .int m] (hR ns k) = .ok (.int (tk ns k m)) (hR ns (k + 1)) := by
  unfold hR tk
  have r0 := fun (j : Int) => vIdx_ref 0 1 (HObj.lst [.scr ns, .int j] :: []) [.scr ns, .int j] rfl
  have r1 := fun (j : Int) => vIdx_ref 0 0 (HObj.lst [.scr ns, .int j] :: []) [.scr ns, .int j] rfl
  have st : ∀ j : Int, hSet (HObj.lst [.scr ns, .int j] :: []) (.ref 0) (.int 1) (.int (j + 1)) = some (HObj.lst [.scr ns, .int (j + 1)] :: []) := fun j => rfl
  unfold f_law_taken
  rw [fnM_app]
  by_cases z : k < ns.length
  · have g := getI_nat (HObj.lst [.scr ns, .int ((k : Int) + 1)] :: []) (nums ns) k (nums_at z)
    have z2 : (k : Int) < ns.length := by omega
    simp only [List.getD_eq_getElem?_getD] at g ⊢
    simp [m_law_taken, List.replicate, r0, r1, getI0, getI1, st, z, z2, g, hm]
  · have z2 : ¬ (k : Int) < ns.length := by omega
    simp [m_law_taken, List.replicate, r0, r1, getI0, getI1, st, z, z2]
/-! ### drawing -/
def Row0 (ns : List Int) (h : HP) : Prop := ∃ k : Nat, h = [HObj.lst [.scr ns, .int (k : Int)]]
theorem f_law_taken_is (ns : List Int) (m : Int) (hm : 0 < m) (h : HP) (r : Row0 ns h) : ∃ (t : Int) (h' : HP), 0 ≤ t ∧ t < m ∧ Row0 ns h' ∧ f_law_taken [.ref 0, .int m] h = .ok (.int t) h' := by
  obtain ⟨k, e⟩ := r
  subst e
  have r0 := fun (j : Int) => vIdx_ref 0 1 (HObj.lst [.scr ns, .int j] :: []) [.scr ns, .int j] rfl
  have r1 := fun (j : Int) => vIdx_ref 0 0 (HObj.lst [.scr ns, .int j] :: []) [.scr ns, .int j] rfl
  have st : ∀ j : Int, hSet (HObj.lst [.scr ns, .int j] :: []) (.ref 0) (.int 1) (.int (j + 1)) = some (HObj.lst [.scr ns, .int (j + 1)] :: []) := fun j => rfl
  unfold f_law_taken
  rw [fnM_app]
  by_cases z : k < ns.length
  · have g := getI_nat (HObj.lst [.scr ns, .int ((k : Int) + 1)] :: []) (nums ns) k (nums_at z)
    have z2 : (k : Int) < ns.length := by omega
    refine ⟨ns.getD k 0 % m, _, Int.emod_nonneg _ (by omega), Int.emod_lt_of_pos _ hm, ⟨k + 1, rfl⟩, ?_⟩
    simp only [List.getD_eq_getElem?_getD] at g ⊢
    simp [m_law_taken, List.replicate, r0, r1, getI0, getI1, st, z, z2, g, hm]
  · have z2 : ¬ (k : Int) < ns.length := by omega
    refine ⟨0, _, by decide, hm, ⟨k + 1, rfl⟩, ?_⟩
    simp [m_law_taken, List.replicate, r0, r1, getI0, getI1, st, z, z2]
theorem f_law_whole_is (i : Int) (h : HP) : f_law_whole [.int i] h = .ok (.bl true) h := by
  unfold f_law_whole
  rw [fnM_app]
  simp [m_law_whole, List.replicate]
theorem whole_loop (l : List Int) (S U : Slot) (h : HP) : forL (tName 2) m_law_numbers_b1 [2] (nums l) [S, U, .none] h = .nx [S, U, .none] h := by
  induction l with
  | nil => simp [forL]
  | cons x r ih =>
    have t : turn (tName 2) m_law_numbers_b1 [2] (.int x) [S, U, .none] h = .nx [S, U, .none] h := by simp [m_law_numbers_b1, f_law_whole_is]
    rw [nums_cons, forL_cons, t, lR_nx, ih]
theorem f_law_numbers_is (l m : List Int) (h : HP) : f_law_numbers [.tup (nums l), .tup (nums m)] h = .ok (.bl (decide (l = m))) h := by
  unfold f_law_numbers
  rw [fnM_app]
  by_cases z : l.length = m.length
  · simp [m_law_numbers, List.replicate, whole_loop, z, vEq_tup]
  · have z2 : ¬ (l.length : Int) = m.length := by omega
    have z3 : ¬ l = m := fun e => z (by rw [e])
    simp [m_law_numbers, List.replicate, z, z2, z3]
/-- the k-th from the left of so many, 1 where there is none -/
def padL (a : List Int) (n k : Nat) : Int := if n - a.length ≤ k then a.getD (k + a.length - n) 0 else 1
def padR (a : List Int) (k : Nat) : Int := if k < a.length then a.getD (a.length - 1 - k) 0 else 1
theorem pad_is (a : List Int) (n k : Nat) (hk : k < n) (hn : a.length ≤ n) : padL a n (n - 1 - k) = padR a k := by
  unfold padL padR
  by_cases z : k < a.length
  · rw [if_pos z, if_pos (by omega)]
    congr 1
    omega
  · rw [if_neg z, if_neg (by omega)]
def met (x y : Int) : Int := if x = 1 then y else x
def metOk (x y : Int) : Bool := decide (x = y) || (decide (x = 1) || decide (y = 1))
theorem met_comm {x y : Int} (h : metOk x y = true) : met y x = met x y := by
  unfold metOk at h
  simp only [Bool.or_eq_true, decide_eq_true_eq] at h
  unfold met
  by_cases a : x = 1
  · by_cases b : y = 1
    · simp [a, b]
    · simp [a, b]
  · by_cases b : y = 1
    · simp [a, b]
    · simp [a, b]
      omega
theorem metOk_comm (x y : Int) : metOk y x = metOk x y := by
  unfold metOk
  rw [Bool.eq_iff_iff]
  simp only [Bool.or_eq_true, decide_eq_true_eq]
  omega
def metL (a b : List Int) : DV := if (List.range (max a.length b.length)).all fun k => metOk (padL a (max a.length b.length) k) (padL b (max a.length b.length) k) then
  .tup (nums ((List.range (max a.length b.length)).map fun k => met (padL a (max a.length b.length) k) (padL b (max a.length b.length) k))) else .non
theorem metL_comm (a b : List Int) : metL b a = metL a b := by
  unfold metL
  rw [Nat.max_comm b.length a.length]
  have e : ((List.range (max a.length b.length)).all fun k => metOk (padL b (max a.length b.length) k) (padL a (max a.length b.length) k)) = (List.range (max a.length b.length)).all fun k => metOk (padL a (max a.length b.length) k) (padL b (max a.length b.length) k) := by
    congr 1
    funext k
    exact metOk_comm _ _
  rw [e]
  by_cases z : ((List.range (max a.length b.length)).all fun k => metOk (padL a (max a.length b.length) k) (padL b (max a.length b.length) k)) = true
  · rw [if_pos z, if_pos z]
    congr 2
    apply List.map_congr_left
    intro k hk
    exact met_comm (List.all_eq_true.mp z k hk)
  · rw [if_neg z, if_neg z]
theorem max_if (a b : Nat) : (if a < b then (b : Int) else (a : Int)) = ((max a b : Nat) : Int) := by
  split <;> omega
theorem pad_get (c : List Int) (n k : Nat) (hk : k < n) (hc : c.length ≤ n) (h : HP) (z : (n : Int) - (c.length : Int) ≤ (k : Int)) : getI (nums c) ((k : Int) - (n : Int) + (c.length : Int)) h = .ok (.int (padL c n k)) h := by
  have e1 : (k : Int) - (n : Int) + (c.length : Int) = ((k + c.length - n : Nat) : Int) := by omega
  rw [e1]
  unfold padL
  rw [if_pos (by omega)]
  exact getI_nat h _ _ (nums_at (by omega))
theorem pad_not (c : List Int) (n k : Nat) (z : ¬ (n : Int) - (c.length : Int) ≤ (k : Int)) : padL c n k = 1 := by
  unfold padL
  rw [if_neg (by omega)]
theorem sides_turn (a b s : List Int) (n k : Nat) (ha : a.length ≤ n) (hb : b.length ≤ n) (hk : k < n) (hs : s.length ≤ 1000) (h : HP) :
    turn (tName 4) m_sides_met_b1 [4, 5, 6] (.int (k : Int)) [.val (.tup (nums a)), .val (.tup (nums b)), .val (.int (n : Int)), .own (nums s), .none, .none, .none] h =
      xR (fun s => [.val (.tup (nums a)), .val (.tup (nums b)), .val (.int (n : Int)), .own (nums s), .none, .none, .none]) h (if metOk (padL a n k) (padL b n k) then .ok (s ++ [met (padL a n k) (padL b n k)]) else .error .non) := by
  have z : s.length < 16777216 := by omega
  have a1 := pad_get a n k hk ha h
  have b1 := pad_get b n k hk hb h
  have a2 := pad_not a n k
  have b2 := pad_not b n k
  unfold metOk met
  generalize padL a n k = x at *
  generalize padL b n k = y at *
  by_cases za : (n : Int) - (a.length : Int) ≤ (k : Int) <;> by_cases zb : (n : Int) - (b.length : Int) ≤ (k : Int) <;>
    simp only [za, zb, forall_const, not_true_eq_false, not_false_eq_true, false_implies] at a1 a2 b1 b2 <;>
    by_cases e1 : x = y <;> by_cases e2 : x = 1 <;> by_cases e3 : y = 1 <;>
    first
      | (exfalso; omega)
      | (subst e2 e3; simp [m_sides_met_b1, xR, z, za, zb, a1, b1])
      | (subst e1; simp [m_sides_met_b1, xR, z, za, zb, a1, b1, e2])
      | (subst e2; simp [m_sides_met_b1, xR, z, za, zb, a1, b1, e3])
      | (subst e3; simp [m_sides_met_b1, xR, z, za, zb, a1, b1, e2])
      | simp [m_sides_met_b1, xR, z, za, zb, a1, b1, e1, e2, e3]
theorem f_sides_met_is (a b : List Int) (ha : a.length ≤ 1000) (hb : b.length ≤ 1000) (h : HP) : f_sides_met [.tup (nums a), .tup (nums b)] h = .ok (metL a b) h := by
  unfold f_sides_met
  rw [fnM_app]
  generalize hn : max a.length b.length = n
  have hna : a.length ≤ n := hn ▸ Nat.le_max_left _ _
  have hnb : b.length ≤ n := hn ▸ Nat.le_max_right _ _
  have hn1 : n ≤ 1000 := hn ▸ Nat.max_le.mpr ⟨ha, hb⟩
  have e := forL_run (A := Nat) (S := List Int) (t := tName 4) (fg := [4, 5, 6]) (b := m_sides_met_b1) (h := h) (fun k => .int (k : Int))
    (fun s => [.val (.tup (nums a)), .val (.tup (nums b)), .val (.int (n : Int)), .own (nums s), .none, .none, .none])
    (fun s k => if metOk (padL a n k) (padL b n k) then .ok (s ++ [met (padL a n k) (padL b n k)]) else .error .non)
    (fun s ks => s.length + ks.length ≤ 1000 ∧ ∀ k ∈ ks, k < n) (List.range n) [] ⟨by simpa using hn1, fun k hk => List.mem_range.mp hk⟩ fun s k ks ⟨h1, h2⟩ => by
      rw [List.length_cons] at h1
      refine ⟨fun s2 e2 => ?_, sides_turn a b s n k hna hnb (h2 k List.mem_cons_self) (by omega) h⟩
      split at e2
      · cases e2
        exact ⟨by simp; omega, fun j hj => h2 j (List.mem_cons_of_mem _ hj)⟩
      · cases e2
  rw [runE_app] at e
  have z : n ≤ 16777216 := by omega
  have mx := max_if a.length b.length
  rw [hn] at mx
  unfold metL
  rw [hn]
  by_cases q : ((List.range n).all fun k => metOk (padL a n k) (padL b n k)) = true
  · rw [if_pos q] at e ⊢
    simp only [nums_nil, xR] at e
    simp [m_sides_met, List.replicate, mx, z, rng_map, e]
  · rw [if_neg q] at e ⊢
    simp only [nums_nil, xR] at e
    simp [m_sides_met, List.replicate, mx, z, rng_map, e]
theorem lay_str (a : Str) (h : PyData.strOk a = true) : (PyData.str a).canLay0 = true := by
  unfold PyData.canLay0
  exact h
@[simp] theorem w_given_given (h : HP) : vEq (.str (Str.ofString "given")) (.str (Str.ofString "given")) h = .ok (.bl true) h := by rw [vEq_str h _ _ (lay_str _ (by decide +kernel)) (lay_str _ (by decide +kernel)), decide_eq_true rfl]
@[simp] theorem w_given_even (h : HP) : vEq (.str (Str.ofString "given")) (.str (Str.ofString "even")) h = .ok (.bl false) h := by rw [vEq_str h _ _ (lay_str _ (by decide +kernel)) (lay_str _ (by decide +kernel)), decide_eq_false (by decide +kernel)]
@[simp] theorem w_given_shape (h : HP) : vEq (.str (Str.ofString "given")) (.str (Str.ofString "shape")) h = .ok (.bl false) h := by rw [vEq_str h _ _ (lay_str _ (by decide +kernel)) (lay_str _ (by decide +kernel)), decide_eq_false (by decide +kernel)]
@[simp] theorem w_given_run (h : HP) : vEq (.str (Str.ofString "given")) (.str (Str.ofString "run")) h = .ok (.bl false) h := by rw [vEq_str h _ _ (lay_str _ (by decide +kernel)) (lay_str _ (by decide +kernel)), decide_eq_false (by decide +kernel)]
@[simp] theorem w_given_shift (h : HP) : vEq (.str (Str.ofString "given")) (.str (Str.ofString "shift")) h = .ok (.bl false) h := by rw [vEq_str h _ _ (lay_str _ (by decide +kernel)) (lay_str _ (by decide +kernel)), decide_eq_false (by decide +kernel)]
@[simp] theorem w_even_given (h : HP) : vEq (.str (Str.ofString "even")) (.str (Str.ofString "given")) h = .ok (.bl false) h := by rw [vEq_str h _ _ (lay_str _ (by decide +kernel)) (lay_str _ (by decide +kernel)), decide_eq_false (by decide +kernel)]
@[simp] theorem w_even_even (h : HP) : vEq (.str (Str.ofString "even")) (.str (Str.ofString "even")) h = .ok (.bl true) h := by rw [vEq_str h _ _ (lay_str _ (by decide +kernel)) (lay_str _ (by decide +kernel)), decide_eq_true rfl]
@[simp] theorem w_even_shape (h : HP) : vEq (.str (Str.ofString "even")) (.str (Str.ofString "shape")) h = .ok (.bl false) h := by rw [vEq_str h _ _ (lay_str _ (by decide +kernel)) (lay_str _ (by decide +kernel)), decide_eq_false (by decide +kernel)]
@[simp] theorem w_even_run (h : HP) : vEq (.str (Str.ofString "even")) (.str (Str.ofString "run")) h = .ok (.bl false) h := by rw [vEq_str h _ _ (lay_str _ (by decide +kernel)) (lay_str _ (by decide +kernel)), decide_eq_false (by decide +kernel)]
@[simp] theorem w_even_shift (h : HP) : vEq (.str (Str.ofString "even")) (.str (Str.ofString "shift")) h = .ok (.bl false) h := by rw [vEq_str h _ _ (lay_str _ (by decide +kernel)) (lay_str _ (by decide +kernel)), decide_eq_false (by decide +kernel)]
@[simp] theorem w_turn_given (h : HP) : vEq (.str (Str.ofString "turn")) (.str (Str.ofString "given")) h = .ok (.bl false) h := by rw [vEq_str h _ _ (lay_str _ (by decide +kernel)) (lay_str _ (by decide +kernel)), decide_eq_false (by decide +kernel)]
@[simp] theorem w_turn_even (h : HP) : vEq (.str (Str.ofString "turn")) (.str (Str.ofString "even")) h = .ok (.bl false) h := by rw [vEq_str h _ _ (lay_str _ (by decide +kernel)) (lay_str _ (by decide +kernel)), decide_eq_false (by decide +kernel)]
@[simp] theorem w_turn_shape (h : HP) : vEq (.str (Str.ofString "turn")) (.str (Str.ofString "shape")) h = .ok (.bl false) h := by rw [vEq_str h _ _ (lay_str _ (by decide +kernel)) (lay_str _ (by decide +kernel)), decide_eq_false (by decide +kernel)]
@[simp] theorem w_turn_run (h : HP) : vEq (.str (Str.ofString "turn")) (.str (Str.ofString "run")) h = .ok (.bl false) h := by rw [vEq_str h _ _ (lay_str _ (by decide +kernel)) (lay_str _ (by decide +kernel)), decide_eq_false (by decide +kernel)]
@[simp] theorem w_turn_shift (h : HP) : vEq (.str (Str.ofString "turn")) (.str (Str.ofString "shift")) h = .ok (.bl false) h := by rw [vEq_str h _ _ (lay_str _ (by decide +kernel)) (lay_str _ (by decide +kernel)), decide_eq_false (by decide +kernel)]
@[simp] theorem w_cut_given (h : HP) : vEq (.str (Str.ofString "cut")) (.str (Str.ofString "given")) h = .ok (.bl false) h := by rw [vEq_str h _ _ (lay_str _ (by decide +kernel)) (lay_str _ (by decide +kernel)), decide_eq_false (by decide +kernel)]
@[simp] theorem w_cut_even (h : HP) : vEq (.str (Str.ofString "cut")) (.str (Str.ofString "even")) h = .ok (.bl false) h := by rw [vEq_str h _ _ (lay_str _ (by decide +kernel)) (lay_str _ (by decide +kernel)), decide_eq_false (by decide +kernel)]
@[simp] theorem w_cut_shape (h : HP) : vEq (.str (Str.ofString "cut")) (.str (Str.ofString "shape")) h = .ok (.bl false) h := by rw [vEq_str h _ _ (lay_str _ (by decide +kernel)) (lay_str _ (by decide +kernel)), decide_eq_false (by decide +kernel)]
@[simp] theorem w_cut_run (h : HP) : vEq (.str (Str.ofString "cut")) (.str (Str.ofString "run")) h = .ok (.bl false) h := by rw [vEq_str h _ _ (lay_str _ (by decide +kernel)) (lay_str _ (by decide +kernel)), decide_eq_false (by decide +kernel)]
@[simp] theorem w_cut_shift (h : HP) : vEq (.str (Str.ofString "cut")) (.str (Str.ofString "shift")) h = .ok (.bl false) h := by rw [vEq_str h _ _ (lay_str _ (by decide +kernel)) (lay_str _ (by decide +kernel)), decide_eq_false (by decide +kernel)]
@[simp] theorem w_drop_given (h : HP) : vEq (.str (Str.ofString "drop")) (.str (Str.ofString "given")) h = .ok (.bl false) h := by rw [vEq_str h _ _ (lay_str _ (by decide +kernel)) (lay_str _ (by decide +kernel)), decide_eq_false (by decide +kernel)]
@[simp] theorem w_drop_even (h : HP) : vEq (.str (Str.ofString "drop")) (.str (Str.ofString "even")) h = .ok (.bl false) h := by rw [vEq_str h _ _ (lay_str _ (by decide +kernel)) (lay_str _ (by decide +kernel)), decide_eq_false (by decide +kernel)]
@[simp] theorem w_drop_shape (h : HP) : vEq (.str (Str.ofString "drop")) (.str (Str.ofString "shape")) h = .ok (.bl false) h := by rw [vEq_str h _ _ (lay_str _ (by decide +kernel)) (lay_str _ (by decide +kernel)), decide_eq_false (by decide +kernel)]
@[simp] theorem w_drop_run (h : HP) : vEq (.str (Str.ofString "drop")) (.str (Str.ofString "run")) h = .ok (.bl false) h := by rw [vEq_str h _ _ (lay_str _ (by decide +kernel)) (lay_str _ (by decide +kernel)), decide_eq_false (by decide +kernel)]
@[simp] theorem w_drop_shift (h : HP) : vEq (.str (Str.ofString "drop")) (.str (Str.ofString "shift")) h = .ok (.bl false) h := by rw [vEq_str h _ _ (lay_str _ (by decide +kernel)) (lay_str _ (by decide +kernel)), decide_eq_false (by decide +kernel)]
@[simp] theorem w_wide_given (h : HP) : vEq (.str (Str.ofString "wide")) (.str (Str.ofString "given")) h = .ok (.bl false) h := by rw [vEq_str h _ _ (lay_str _ (by decide +kernel)) (lay_str _ (by decide +kernel)), decide_eq_false (by decide +kernel)]
@[simp] theorem w_wide_even (h : HP) : vEq (.str (Str.ofString "wide")) (.str (Str.ofString "even")) h = .ok (.bl false) h := by rw [vEq_str h _ _ (lay_str _ (by decide +kernel)) (lay_str _ (by decide +kernel)), decide_eq_false (by decide +kernel)]
@[simp] theorem w_wide_shape (h : HP) : vEq (.str (Str.ofString "wide")) (.str (Str.ofString "shape")) h = .ok (.bl false) h := by rw [vEq_str h _ _ (lay_str _ (by decide +kernel)) (lay_str _ (by decide +kernel)), decide_eq_false (by decide +kernel)]
@[simp] theorem w_wide_run (h : HP) : vEq (.str (Str.ofString "wide")) (.str (Str.ofString "run")) h = .ok (.bl false) h := by rw [vEq_str h _ _ (lay_str _ (by decide +kernel)) (lay_str _ (by decide +kernel)), decide_eq_false (by decide +kernel)]
@[simp] theorem w_wide_shift (h : HP) : vEq (.str (Str.ofString "wide")) (.str (Str.ofString "shift")) h = .ok (.bl false) h := by rw [vEq_str h _ _ (lay_str _ (by decide +kernel)) (lay_str _ (by decide +kernel)), decide_eq_false (by decide +kernel)]
@[simp] theorem w_spread_given (h : HP) : vEq (.str (Str.ofString "spread")) (.str (Str.ofString "given")) h = .ok (.bl false) h := by rw [vEq_str h _ _ (lay_str _ (by decide +kernel)) (lay_str _ (by decide +kernel)), decide_eq_false (by decide +kernel)]
@[simp] theorem w_spread_even (h : HP) : vEq (.str (Str.ofString "spread")) (.str (Str.ofString "even")) h = .ok (.bl false) h := by rw [vEq_str h _ _ (lay_str _ (by decide +kernel)) (lay_str _ (by decide +kernel)), decide_eq_false (by decide +kernel)]
@[simp] theorem w_spread_shape (h : HP) : vEq (.str (Str.ofString "spread")) (.str (Str.ofString "shape")) h = .ok (.bl false) h := by rw [vEq_str h _ _ (lay_str _ (by decide +kernel)) (lay_str _ (by decide +kernel)), decide_eq_false (by decide +kernel)]
@[simp] theorem w_spread_run (h : HP) : vEq (.str (Str.ofString "spread")) (.str (Str.ofString "run")) h = .ok (.bl false) h := by rw [vEq_str h _ _ (lay_str _ (by decide +kernel)) (lay_str _ (by decide +kernel)), decide_eq_false (by decide +kernel)]
@[simp] theorem w_spread_shift (h : HP) : vEq (.str (Str.ofString "spread")) (.str (Str.ofString "shift")) h = .ok (.bl false) h := by rw [vEq_str h _ _ (lay_str _ (by decide +kernel)) (lay_str _ (by decide +kernel)), decide_eq_false (by decide +kernel)]
@[simp] theorem w_shape_given (h : HP) : vEq (.str (Str.ofString "shape")) (.str (Str.ofString "given")) h = .ok (.bl false) h := by rw [vEq_str h _ _ (lay_str _ (by decide +kernel)) (lay_str _ (by decide +kernel)), decide_eq_false (by decide +kernel)]
@[simp] theorem w_shape_even (h : HP) : vEq (.str (Str.ofString "shape")) (.str (Str.ofString "even")) h = .ok (.bl false) h := by rw [vEq_str h _ _ (lay_str _ (by decide +kernel)) (lay_str _ (by decide +kernel)), decide_eq_false (by decide +kernel)]
@[simp] theorem w_shape_shape (h : HP) : vEq (.str (Str.ofString "shape")) (.str (Str.ofString "shape")) h = .ok (.bl true) h := by rw [vEq_str h _ _ (lay_str _ (by decide +kernel)) (lay_str _ (by decide +kernel)), decide_eq_true rfl]
@[simp] theorem w_shape_run (h : HP) : vEq (.str (Str.ofString "shape")) (.str (Str.ofString "run")) h = .ok (.bl false) h := by rw [vEq_str h _ _ (lay_str _ (by decide +kernel)) (lay_str _ (by decide +kernel)), decide_eq_false (by decide +kernel)]
@[simp] theorem w_shape_shift (h : HP) : vEq (.str (Str.ofString "shape")) (.str (Str.ofString "shift")) h = .ok (.bl false) h := by rw [vEq_str h _ _ (lay_str _ (by decide +kernel)) (lay_str _ (by decide +kernel)), decide_eq_false (by decide +kernel)]
@[simp] theorem w_shift_given (h : HP) : vEq (.str (Str.ofString "shift")) (.str (Str.ofString "given")) h = .ok (.bl false) h := by rw [vEq_str h _ _ (lay_str _ (by decide +kernel)) (lay_str _ (by decide +kernel)), decide_eq_false (by decide +kernel)]
@[simp] theorem w_shift_even (h : HP) : vEq (.str (Str.ofString "shift")) (.str (Str.ofString "even")) h = .ok (.bl false) h := by rw [vEq_str h _ _ (lay_str _ (by decide +kernel)) (lay_str _ (by decide +kernel)), decide_eq_false (by decide +kernel)]
@[simp] theorem w_shift_shape (h : HP) : vEq (.str (Str.ofString "shift")) (.str (Str.ofString "shape")) h = .ok (.bl false) h := by rw [vEq_str h _ _ (lay_str _ (by decide +kernel)) (lay_str _ (by decide +kernel)), decide_eq_false (by decide +kernel)]
@[simp] theorem w_shift_run (h : HP) : vEq (.str (Str.ofString "shift")) (.str (Str.ofString "run")) h = .ok (.bl false) h := by rw [vEq_str h _ _ (lay_str _ (by decide +kernel)) (lay_str _ (by decide +kernel)), decide_eq_false (by decide +kernel)]
@[simp] theorem w_shift_shift (h : HP) : vEq (.str (Str.ofString "shift")) (.str (Str.ofString "shift")) h = .ok (.bl true) h := by rw [vEq_str h _ _ (lay_str _ (by decide +kernel)) (lay_str _ (by decide +kernel)), decide_eq_true rfl]
@[simp] theorem w_one_given (h : HP) : vEq (.str (Str.ofString "one")) (.str (Str.ofString "given")) h = .ok (.bl false) h := by rw [vEq_str h _ _ (lay_str _ (by decide +kernel)) (lay_str _ (by decide +kernel)), decide_eq_false (by decide +kernel)]
@[simp] theorem w_one_even (h : HP) : vEq (.str (Str.ofString "one")) (.str (Str.ofString "even")) h = .ok (.bl false) h := by rw [vEq_str h _ _ (lay_str _ (by decide +kernel)) (lay_str _ (by decide +kernel)), decide_eq_false (by decide +kernel)]
@[simp] theorem w_one_shape (h : HP) : vEq (.str (Str.ofString "one")) (.str (Str.ofString "shape")) h = .ok (.bl false) h := by rw [vEq_str h _ _ (lay_str _ (by decide +kernel)) (lay_str _ (by decide +kernel)), decide_eq_false (by decide +kernel)]
@[simp] theorem w_one_run (h : HP) : vEq (.str (Str.ofString "one")) (.str (Str.ofString "run")) h = .ok (.bl false) h := by rw [vEq_str h _ _ (lay_str _ (by decide +kernel)) (lay_str _ (by decide +kernel)), decide_eq_false (by decide +kernel)]
@[simp] theorem w_one_shift (h : HP) : vEq (.str (Str.ofString "one")) (.str (Str.ofString "shift")) h = .ok (.bl false) h := by rw [vEq_str h _ _ (lay_str _ (by decide +kernel)) (lay_str _ (by decide +kernel)), decide_eq_false (by decide +kernel)]
@[simp] theorem w_both_given (h : HP) : vEq (.str (Str.ofString "both")) (.str (Str.ofString "given")) h = .ok (.bl false) h := by rw [vEq_str h _ _ (lay_str _ (by decide +kernel)) (lay_str _ (by decide +kernel)), decide_eq_false (by decide +kernel)]
@[simp] theorem w_both_even (h : HP) : vEq (.str (Str.ofString "both")) (.str (Str.ofString "even")) h = .ok (.bl false) h := by rw [vEq_str h _ _ (lay_str _ (by decide +kernel)) (lay_str _ (by decide +kernel)), decide_eq_false (by decide +kernel)]
@[simp] theorem w_both_shape (h : HP) : vEq (.str (Str.ofString "both")) (.str (Str.ofString "shape")) h = .ok (.bl false) h := by rw [vEq_str h _ _ (lay_str _ (by decide +kernel)) (lay_str _ (by decide +kernel)), decide_eq_false (by decide +kernel)]
@[simp] theorem w_both_run (h : HP) : vEq (.str (Str.ofString "both")) (.str (Str.ofString "run")) h = .ok (.bl false) h := by rw [vEq_str h _ _ (lay_str _ (by decide +kernel)) (lay_str _ (by decide +kernel)), decide_eq_false (by decide +kernel)]
@[simp] theorem w_both_shift (h : HP) : vEq (.str (Str.ofString "both")) (.str (Str.ofString "shift")) h = .ok (.bl false) h := by rw [vEq_str h _ _ (lay_str _ (by decide +kernel)) (lay_str _ (by decide +kernel)), decide_eq_false (by decide +kernel)]
@[simp] theorem w_where_given (h : HP) : vEq (.str (Str.ofString "where")) (.str (Str.ofString "given")) h = .ok (.bl false) h := by rw [vEq_str h _ _ (lay_str _ (by decide +kernel)) (lay_str _ (by decide +kernel)), decide_eq_false (by decide +kernel)]
@[simp] theorem w_where_even (h : HP) : vEq (.str (Str.ofString "where")) (.str (Str.ofString "even")) h = .ok (.bl false) h := by rw [vEq_str h _ _ (lay_str _ (by decide +kernel)) (lay_str _ (by decide +kernel)), decide_eq_false (by decide +kernel)]
@[simp] theorem w_where_shape (h : HP) : vEq (.str (Str.ofString "where")) (.str (Str.ofString "shape")) h = .ok (.bl false) h := by rw [vEq_str h _ _ (lay_str _ (by decide +kernel)) (lay_str _ (by decide +kernel)), decide_eq_false (by decide +kernel)]
@[simp] theorem w_where_run (h : HP) : vEq (.str (Str.ofString "where")) (.str (Str.ofString "run")) h = .ok (.bl false) h := by rw [vEq_str h _ _ (lay_str _ (by decide +kernel)) (lay_str _ (by decide +kernel)), decide_eq_false (by decide +kernel)]
@[simp] theorem w_where_shift (h : HP) : vEq (.str (Str.ofString "where")) (.str (Str.ofString "shift")) h = .ok (.bl false) h := by rw [vEq_str h _ _ (lay_str _ (by decide +kernel)) (lay_str _ (by decide +kernel)), decide_eq_false (by decide +kernel)]
@[simp] theorem w_fold_given (h : HP) : vEq (.str (Str.ofString "fold")) (.str (Str.ofString "given")) h = .ok (.bl false) h := by rw [vEq_str h _ _ (lay_str _ (by decide +kernel)) (lay_str _ (by decide +kernel)), decide_eq_false (by decide +kernel)]
@[simp] theorem w_fold_even (h : HP) : vEq (.str (Str.ofString "fold")) (.str (Str.ofString "even")) h = .ok (.bl false) h := by rw [vEq_str h _ _ (lay_str _ (by decide +kernel)) (lay_str _ (by decide +kernel)), decide_eq_false (by decide +kernel)]
@[simp] theorem w_fold_shape (h : HP) : vEq (.str (Str.ofString "fold")) (.str (Str.ofString "shape")) h = .ok (.bl false) h := by rw [vEq_str h _ _ (lay_str _ (by decide +kernel)) (lay_str _ (by decide +kernel)), decide_eq_false (by decide +kernel)]
@[simp] theorem w_fold_run (h : HP) : vEq (.str (Str.ofString "fold")) (.str (Str.ofString "run")) h = .ok (.bl false) h := by rw [vEq_str h _ _ (lay_str _ (by decide +kernel)) (lay_str _ (by decide +kernel)), decide_eq_false (by decide +kernel)]
@[simp] theorem w_fold_shift (h : HP) : vEq (.str (Str.ofString "fold")) (.str (Str.ofString "shift")) h = .ok (.bl false) h := by rw [vEq_str h _ _ (lay_str _ (by decide +kernel)) (lay_str _ (by decide +kernel)), decide_eq_false (by decide +kernel)]
@[simp] theorem w_run_given (h : HP) : vEq (.str (Str.ofString "run")) (.str (Str.ofString "given")) h = .ok (.bl false) h := by rw [vEq_str h _ _ (lay_str _ (by decide +kernel)) (lay_str _ (by decide +kernel)), decide_eq_false (by decide +kernel)]
@[simp] theorem w_run_even (h : HP) : vEq (.str (Str.ofString "run")) (.str (Str.ofString "even")) h = .ok (.bl false) h := by rw [vEq_str h _ _ (lay_str _ (by decide +kernel)) (lay_str _ (by decide +kernel)), decide_eq_false (by decide +kernel)]
@[simp] theorem w_run_shape (h : HP) : vEq (.str (Str.ofString "run")) (.str (Str.ofString "shape")) h = .ok (.bl false) h := by rw [vEq_str h _ _ (lay_str _ (by decide +kernel)) (lay_str _ (by decide +kernel)), decide_eq_false (by decide +kernel)]
@[simp] theorem w_run_run (h : HP) : vEq (.str (Str.ofString "run")) (.str (Str.ofString "run")) h = .ok (.bl true) h := by rw [vEq_str h _ _ (lay_str _ (by decide +kernel)) (lay_str _ (by decide +kernel)), decide_eq_true rfl]
@[simp] theorem w_run_shift (h : HP) : vEq (.str (Str.ofString "run")) (.str (Str.ofString "shift")) h = .ok (.bl false) h := by rw [vEq_str h _ _ (lay_str _ (by decide +kernel)) (lay_str _ (by decide +kernel)), decide_eq_false (by decide +kernel)]
@[simp] theorem w_pick_given (h : HP) : vEq (.str (Str.ofString "pick")) (.str (Str.ofString "given")) h = .ok (.bl false) h := by rw [vEq_str h _ _ (lay_str _ (by decide +kernel)) (lay_str _ (by decide +kernel)), decide_eq_false (by decide +kernel)]
@[simp] theorem w_pick_even (h : HP) : vEq (.str (Str.ofString "pick")) (.str (Str.ofString "even")) h = .ok (.bl false) h := by rw [vEq_str h _ _ (lay_str _ (by decide +kernel)) (lay_str _ (by decide +kernel)), decide_eq_false (by decide +kernel)]
@[simp] theorem w_pick_shape (h : HP) : vEq (.str (Str.ofString "pick")) (.str (Str.ofString "shape")) h = .ok (.bl false) h := by rw [vEq_str h _ _ (lay_str _ (by decide +kernel)) (lay_str _ (by decide +kernel)), decide_eq_false (by decide +kernel)]
@[simp] theorem w_pick_run (h : HP) : vEq (.str (Str.ofString "pick")) (.str (Str.ofString "run")) h = .ok (.bl false) h := by rw [vEq_str h _ _ (lay_str _ (by decide +kernel)) (lay_str _ (by decide +kernel)), decide_eq_false (by decide +kernel)]
@[simp] theorem w_pick_shift (h : HP) : vEq (.str (Str.ofString "pick")) (.str (Str.ofString "shift")) h = .ok (.bl false) h := by rw [vEq_str h _ _ (lay_str _ (by decide +kernel)) (lay_str _ (by decide +kernel)), decide_eq_false (by decide +kernel)]
@[simp] theorem w_join_given (h : HP) : vEq (.str (Str.ofString "join")) (.str (Str.ofString "given")) h = .ok (.bl false) h := by rw [vEq_str h _ _ (lay_str _ (by decide +kernel)) (lay_str _ (by decide +kernel)), decide_eq_false (by decide +kernel)]
@[simp] theorem w_join_even (h : HP) : vEq (.str (Str.ofString "join")) (.str (Str.ofString "even")) h = .ok (.bl false) h := by rw [vEq_str h _ _ (lay_str _ (by decide +kernel)) (lay_str _ (by decide +kernel)), decide_eq_false (by decide +kernel)]
@[simp] theorem w_join_shape (h : HP) : vEq (.str (Str.ofString "join")) (.str (Str.ofString "shape")) h = .ok (.bl false) h := by rw [vEq_str h _ _ (lay_str _ (by decide +kernel)) (lay_str _ (by decide +kernel)), decide_eq_false (by decide +kernel)]
@[simp] theorem w_join_run (h : HP) : vEq (.str (Str.ofString "join")) (.str (Str.ofString "run")) h = .ok (.bl false) h := by rw [vEq_str h _ _ (lay_str _ (by decide +kernel)) (lay_str _ (by decide +kernel)), decide_eq_false (by decide +kernel)]
@[simp] theorem w_join_shift (h : HP) : vEq (.str (Str.ofString "join")) (.str (Str.ofString "shift")) h = .ok (.bl false) h := by rw [vEq_str h _ _ (lay_str _ (by decide +kernel)) (lay_str _ (by decide +kernel)), decide_eq_false (by decide +kernel)]
@[simp] theorem w_add_add (h : HP) : vEq (.str (Str.ofString "add")) (.str (Str.ofString "add")) h = .ok (.bl true) h := by rw [vEq_str h _ _ (lay_str _ (by decide +kernel)) (lay_str _ (by decide +kernel)), decide_eq_true rfl]
@[simp] theorem w_add_less (h : HP) : vEq (.str (Str.ofString "add")) (.str (Str.ofString "less")) h = .ok (.bl false) h := by rw [vEq_str h _ _ (lay_str _ (by decide +kernel)) (lay_str _ (by decide +kernel)), decide_eq_false (by decide +kernel)]
@[simp] theorem w_add_times (h : HP) : vEq (.str (Str.ofString "add")) (.str (Str.ofString "times")) h = .ok (.bl false) h := by rw [vEq_str h _ _ (lay_str _ (by decide +kernel)) (lay_str _ (by decide +kernel)), decide_eq_false (by decide +kernel)]
@[simp] theorem w_add_below (h : HP) : vEq (.str (Str.ofString "add")) (.str (Str.ofString "below")) h = .ok (.bl false) h := by rw [vEq_str h _ _ (lay_str _ (by decide +kernel)) (lay_str _ (by decide +kernel)), decide_eq_false (by decide +kernel)]
@[simp] theorem w_add_alike (h : HP) : vEq (.str (Str.ofString "add")) (.str (Str.ofString "alike")) h = .ok (.bl false) h := by rw [vEq_str h _ _ (lay_str _ (by decide +kernel)) (lay_str _ (by decide +kernel)), decide_eq_false (by decide +kernel)]
@[simp] theorem w_add_least (h : HP) : vEq (.str (Str.ofString "add")) (.str (Str.ofString "least")) h = .ok (.bl false) h := by rw [vEq_str h _ _ (lay_str _ (by decide +kernel)) (lay_str _ (by decide +kernel)), decide_eq_false (by decide +kernel)]
@[simp] theorem w_less_add (h : HP) : vEq (.str (Str.ofString "less")) (.str (Str.ofString "add")) h = .ok (.bl false) h := by rw [vEq_str h _ _ (lay_str _ (by decide +kernel)) (lay_str _ (by decide +kernel)), decide_eq_false (by decide +kernel)]
@[simp] theorem w_less_less (h : HP) : vEq (.str (Str.ofString "less")) (.str (Str.ofString "less")) h = .ok (.bl true) h := by rw [vEq_str h _ _ (lay_str _ (by decide +kernel)) (lay_str _ (by decide +kernel)), decide_eq_true rfl]
@[simp] theorem w_less_times (h : HP) : vEq (.str (Str.ofString "less")) (.str (Str.ofString "times")) h = .ok (.bl false) h := by rw [vEq_str h _ _ (lay_str _ (by decide +kernel)) (lay_str _ (by decide +kernel)), decide_eq_false (by decide +kernel)]
@[simp] theorem w_less_below (h : HP) : vEq (.str (Str.ofString "less")) (.str (Str.ofString "below")) h = .ok (.bl false) h := by rw [vEq_str h _ _ (lay_str _ (by decide +kernel)) (lay_str _ (by decide +kernel)), decide_eq_false (by decide +kernel)]
@[simp] theorem w_less_alike (h : HP) : vEq (.str (Str.ofString "less")) (.str (Str.ofString "alike")) h = .ok (.bl false) h := by rw [vEq_str h _ _ (lay_str _ (by decide +kernel)) (lay_str _ (by decide +kernel)), decide_eq_false (by decide +kernel)]
@[simp] theorem w_less_least (h : HP) : vEq (.str (Str.ofString "less")) (.str (Str.ofString "least")) h = .ok (.bl false) h := by rw [vEq_str h _ _ (lay_str _ (by decide +kernel)) (lay_str _ (by decide +kernel)), decide_eq_false (by decide +kernel)]
@[simp] theorem w_times_add (h : HP) : vEq (.str (Str.ofString "times")) (.str (Str.ofString "add")) h = .ok (.bl false) h := by rw [vEq_str h _ _ (lay_str _ (by decide +kernel)) (lay_str _ (by decide +kernel)), decide_eq_false (by decide +kernel)]
@[simp] theorem w_times_less (h : HP) : vEq (.str (Str.ofString "times")) (.str (Str.ofString "less")) h = .ok (.bl false) h := by rw [vEq_str h _ _ (lay_str _ (by decide +kernel)) (lay_str _ (by decide +kernel)), decide_eq_false (by decide +kernel)]
@[simp] theorem w_times_times (h : HP) : vEq (.str (Str.ofString "times")) (.str (Str.ofString "times")) h = .ok (.bl true) h := by rw [vEq_str h _ _ (lay_str _ (by decide +kernel)) (lay_str _ (by decide +kernel)), decide_eq_true rfl]
@[simp] theorem w_times_below (h : HP) : vEq (.str (Str.ofString "times")) (.str (Str.ofString "below")) h = .ok (.bl false) h := by rw [vEq_str h _ _ (lay_str _ (by decide +kernel)) (lay_str _ (by decide +kernel)), decide_eq_false (by decide +kernel)]
@[simp] theorem w_times_alike (h : HP) : vEq (.str (Str.ofString "times")) (.str (Str.ofString "alike")) h = .ok (.bl false) h := by rw [vEq_str h _ _ (lay_str _ (by decide +kernel)) (lay_str _ (by decide +kernel)), decide_eq_false (by decide +kernel)]
@[simp] theorem w_times_least (h : HP) : vEq (.str (Str.ofString "times")) (.str (Str.ofString "least")) h = .ok (.bl false) h := by rw [vEq_str h _ _ (lay_str _ (by decide +kernel)) (lay_str _ (by decide +kernel)), decide_eq_false (by decide +kernel)]
@[simp] theorem w_least_add (h : HP) : vEq (.str (Str.ofString "least")) (.str (Str.ofString "add")) h = .ok (.bl false) h := by rw [vEq_str h _ _ (lay_str _ (by decide +kernel)) (lay_str _ (by decide +kernel)), decide_eq_false (by decide +kernel)]
@[simp] theorem w_least_less (h : HP) : vEq (.str (Str.ofString "least")) (.str (Str.ofString "less")) h = .ok (.bl false) h := by rw [vEq_str h _ _ (lay_str _ (by decide +kernel)) (lay_str _ (by decide +kernel)), decide_eq_false (by decide +kernel)]
@[simp] theorem w_least_times (h : HP) : vEq (.str (Str.ofString "least")) (.str (Str.ofString "times")) h = .ok (.bl false) h := by rw [vEq_str h _ _ (lay_str _ (by decide +kernel)) (lay_str _ (by decide +kernel)), decide_eq_false (by decide +kernel)]
@[simp] theorem w_least_below (h : HP) : vEq (.str (Str.ofString "least")) (.str (Str.ofString "below")) h = .ok (.bl false) h := by rw [vEq_str h _ _ (lay_str _ (by decide +kernel)) (lay_str _ (by decide +kernel)), decide_eq_false (by decide +kernel)]
@[simp] theorem w_least_alike (h : HP) : vEq (.str (Str.ofString "least")) (.str (Str.ofString "alike")) h = .ok (.bl false) h := by rw [vEq_str h _ _ (lay_str _ (by decide +kernel)) (lay_str _ (by decide +kernel)), decide_eq_false (by decide +kernel)]
@[simp] theorem w_least_least (h : HP) : vEq (.str (Str.ofString "least")) (.str (Str.ofString "least")) h = .ok (.bl true) h := by rw [vEq_str h _ _ (lay_str _ (by decide +kernel)) (lay_str _ (by decide +kernel)), decide_eq_true rfl]
@[simp] theorem w_most_add (h : HP) : vEq (.str (Str.ofString "most")) (.str (Str.ofString "add")) h = .ok (.bl false) h := by rw [vEq_str h _ _ (lay_str _ (by decide +kernel)) (lay_str _ (by decide +kernel)), decide_eq_false (by decide +kernel)]
@[simp] theorem w_most_less (h : HP) : vEq (.str (Str.ofString "most")) (.str (Str.ofString "less")) h = .ok (.bl false) h := by rw [vEq_str h _ _ (lay_str _ (by decide +kernel)) (lay_str _ (by decide +kernel)), decide_eq_false (by decide +kernel)]
@[simp] theorem w_most_times (h : HP) : vEq (.str (Str.ofString "most")) (.str (Str.ofString "times")) h = .ok (.bl false) h := by rw [vEq_str h _ _ (lay_str _ (by decide +kernel)) (lay_str _ (by decide +kernel)), decide_eq_false (by decide +kernel)]
@[simp] theorem w_most_below (h : HP) : vEq (.str (Str.ofString "most")) (.str (Str.ofString "below")) h = .ok (.bl false) h := by rw [vEq_str h _ _ (lay_str _ (by decide +kernel)) (lay_str _ (by decide +kernel)), decide_eq_false (by decide +kernel)]
@[simp] theorem w_most_alike (h : HP) : vEq (.str (Str.ofString "most")) (.str (Str.ofString "alike")) h = .ok (.bl false) h := by rw [vEq_str h _ _ (lay_str _ (by decide +kernel)) (lay_str _ (by decide +kernel)), decide_eq_false (by decide +kernel)]
@[simp] theorem w_most_least (h : HP) : vEq (.str (Str.ofString "most")) (.str (Str.ofString "least")) h = .ok (.bl false) h := by rw [vEq_str h _ _ (lay_str _ (by decide +kernel)) (lay_str _ (by decide +kernel)), decide_eq_false (by decide +kernel)]
@[simp] theorem w_below_add (h : HP) : vEq (.str (Str.ofString "below")) (.str (Str.ofString "add")) h = .ok (.bl false) h := by rw [vEq_str h _ _ (lay_str _ (by decide +kernel)) (lay_str _ (by decide +kernel)), decide_eq_false (by decide +kernel)]
@[simp] theorem w_below_less (h : HP) : vEq (.str (Str.ofString "below")) (.str (Str.ofString "less")) h = .ok (.bl false) h := by rw [vEq_str h _ _ (lay_str _ (by decide +kernel)) (lay_str _ (by decide +kernel)), decide_eq_false (by decide +kernel)]
@[simp] theorem w_below_times (h : HP) : vEq (.str (Str.ofString "below")) (.str (Str.ofString "times")) h = .ok (.bl false) h := by rw [vEq_str h _ _ (lay_str _ (by decide +kernel)) (lay_str _ (by decide +kernel)), decide_eq_false (by decide +kernel)]
@[simp] theorem w_below_below (h : HP) : vEq (.str (Str.ofString "below")) (.str (Str.ofString "below")) h = .ok (.bl true) h := by rw [vEq_str h _ _ (lay_str _ (by decide +kernel)) (lay_str _ (by decide +kernel)), decide_eq_true rfl]
@[simp] theorem w_below_alike (h : HP) : vEq (.str (Str.ofString "below")) (.str (Str.ofString "alike")) h = .ok (.bl false) h := by rw [vEq_str h _ _ (lay_str _ (by decide +kernel)) (lay_str _ (by decide +kernel)), decide_eq_false (by decide +kernel)]
@[simp] theorem w_below_least (h : HP) : vEq (.str (Str.ofString "below")) (.str (Str.ofString "least")) h = .ok (.bl false) h := by rw [vEq_str h _ _ (lay_str _ (by decide +kernel)) (lay_str _ (by decide +kernel)), decide_eq_false (by decide +kernel)]
@[simp] theorem w_alike_add (h : HP) : vEq (.str (Str.ofString "alike")) (.str (Str.ofString "add")) h = .ok (.bl false) h := by rw [vEq_str h _ _ (lay_str _ (by decide +kernel)) (lay_str _ (by decide +kernel)), decide_eq_false (by decide +kernel)]
@[simp] theorem w_alike_less (h : HP) : vEq (.str (Str.ofString "alike")) (.str (Str.ofString "less")) h = .ok (.bl false) h := by rw [vEq_str h _ _ (lay_str _ (by decide +kernel)) (lay_str _ (by decide +kernel)), decide_eq_false (by decide +kernel)]
@[simp] theorem w_alike_times (h : HP) : vEq (.str (Str.ofString "alike")) (.str (Str.ofString "times")) h = .ok (.bl false) h := by rw [vEq_str h _ _ (lay_str _ (by decide +kernel)) (lay_str _ (by decide +kernel)), decide_eq_false (by decide +kernel)]
@[simp] theorem w_alike_below (h : HP) : vEq (.str (Str.ofString "alike")) (.str (Str.ofString "below")) h = .ok (.bl false) h := by rw [vEq_str h _ _ (lay_str _ (by decide +kernel)) (lay_str _ (by decide +kernel)), decide_eq_false (by decide +kernel)]
@[simp] theorem w_alike_alike (h : HP) : vEq (.str (Str.ofString "alike")) (.str (Str.ofString "alike")) h = .ok (.bl true) h := by rw [vEq_str h _ _ (lay_str _ (by decide +kernel)) (lay_str _ (by decide +kernel)), decide_eq_true rfl]
@[simp] theorem w_alike_least (h : HP) : vEq (.str (Str.ofString "alike")) (.str (Str.ofString "least")) h = .ok (.bl false) h := by rw [vEq_str h _ _ (lay_str _ (by decide +kernel)) (lay_str _ (by decide +kernel)), decide_eq_false (by decide +kernel)]
@[simp] theorem w_minus_minus (h : HP) : vEq (.str (Str.ofString "minus")) (.str (Str.ofString "minus")) h = .ok (.bl true) h := by rw [vEq_str h _ _ (lay_str _ (by decide +kernel)) (lay_str _ (by decide +kernel)), decide_eq_true rfl]
@[simp] theorem w_minus_half (h : HP) : vEq (.str (Str.ofString "minus")) (.str (Str.ofString "half")) h = .ok (.bl false) h := by rw [vEq_str h _ _ (lay_str _ (by decide +kernel)) (lay_str _ (by decide +kernel)), decide_eq_false (by decide +kernel)]
@[simp] theorem w_half_minus (h : HP) : vEq (.str (Str.ofString "half")) (.str (Str.ofString "minus")) h = .ok (.bl false) h := by rw [vEq_str h _ _ (lay_str _ (by decide +kernel)) (lay_str _ (by decide +kernel)), decide_eq_false (by decide +kernel)]
@[simp] theorem w_half_half (h : HP) : vEq (.str (Str.ofString "half")) (.str (Str.ofString "half")) h = .ok (.bl true) h := by rw [vEq_str h _ _ (lay_str _ (by decide +kernel)) (lay_str _ (by decide +kernel)), decide_eq_true rfl]
@[simp] theorem w_none_minus (h : HP) : vEq (.str (Str.ofString "none")) (.str (Str.ofString "minus")) h = .ok (.bl false) h := by rw [vEq_str h _ _ (lay_str _ (by decide +kernel)) (lay_str _ (by decide +kernel)), decide_eq_false (by decide +kernel)]
@[simp] theorem w_none_half (h : HP) : vEq (.str (Str.ofString "none")) (.str (Str.ofString "half")) h = .ok (.bl false) h := by rw [vEq_str h _ _ (lay_str _ (by decide +kernel)) (lay_str _ (by decide +kernel)), decide_eq_false (by decide +kernel)]
theorem vNe_lst_nil (h : HP) (l : List DV) (q : okD (.lst l) = true) : vNe (.lst l) (.lst []) h = .ok (.bl (!decide (l = []))) h := by
  cases l with
  | nil =>
    rw [vNe_self h q]
    rfl
  | cons x r =>
    have e : eqD (.lst (x :: r)) (.lst []) = some false := by
      unfold okD at q
      unfold eqD
      cases z : toPD (.lst (x :: r)) with
      | none =>
        rw [z] at q
        cases q
      | some y =>
        rw [z] at q
        have z2 : (match toPDs (x :: r) with
          | some r => some (PyData.list r)
          | none => none) = some y := z
        cases z3 : toPDs (x :: r) with
        | none =>
          rw [z3] at z2
          cases z2
        | some t =>
          rw [z3] at z2
          have ey : PyData.list t = y := Option.some.inj z2
          subst ey
          have lt := toPDs_some z3
          cases t with
          | nil => cases lt
          | cons u v =>
            show (if (SeqAt.shaped (PyData.list (u :: v)) && SeqAt.shaped (PyData.list [])) = true then some (PyData.eqv (.list (u :: v)) (.list [])) else none) = _
            have q2 : SeqAt.shaped (PyData.list (u :: v)) = true := q
            rw [q2, if_pos (by rfl)]
            rfl
    unfold vNe
    rw [e]
    rfl
theorem vEq_lst_cons (h : HP) (x : DV) (l : List DV) (q : okD (.lst (x :: l)) = true) : vEq (.lst (x :: l)) (.lst []) h = .ok (.bl false) h := by
  have n := vNe_lst_nil h _ q
  unfold vNe at n
  unfold vEq
  cases z : eqD (.lst (x :: l)) (.lst []) with
  | none =>
    rw [z] at n
    cases n
  | some b =>
    rw [z] at n
    cases b with
    | true => cases n
    | false => rfl
/-! ### sides -/
def prodI (l : List Int) : Int := l.foldl (fun a b => a * b) 1
def small (l : List Int) : Prop := ∀ x ∈ l, 0 ≤ x ∧ x ≤ 64
theorem cells_loop : ∀ (l : List Int) (a : Int) (m : Nat) (S : Slot) (h : HP), m * 64 ^ l.length ≤ 64 ^ 6 → 0 ≤ a → a ≤ (m : Int) → small l →
    forL (tName 2) m_cells_in_b1 [2] (nums l) [S, .val (.int a), .none] h = .nx [S, .val (.int (l.foldl (fun a b => a * b) a)), .none] h
  | [], _, _, _, _, _, _, _, _ => rfl
  | x :: r, a, m, S, h, hk, h0, h1, hs => by
    rw [List.length_cons, Nat.pow_succ] at hk
    obtain ⟨x0, x1⟩ := hs x List.mem_cons_self
    have p : 1 ≤ 64 ^ r.length := Nat.pow_pos (by decide)
    have p2 : m * 64 ≤ m * (64 ^ r.length * 64) := Nat.mul_le_mul_left _ (by omega)
    have z : (64 : Nat) ^ 6 = 68719476736 := by decide
    have mo := mulOk_r a x (by omega) (by omega)
    have t : turn (tName 2) m_cells_in_b1 [2] (.int x) [S, .val (.int a), .none] h = .nx [S, .val (.int (a * x)), .none] h := by simp [m_cells_in_b1, mo]
    have b1 : 0 ≤ a * x := Int.mul_nonneg h0 x0
    have b2 : a * x ≤ ((m * 64 : Nat) : Int) := by
      have := Int.mul_le_mul h1 x1 x0 (by omega)
      simpa using this
    rw [nums_cons, forL_cons, t, lR_nx, cells_loop r (a * x) (m * 64) S h (by rw [Nat.mul_assoc, Nat.mul_comm 64]; exact hk) b1 b2 fun y hy => hs y (List.mem_cons_of_mem _ hy), List.foldl_cons]
theorem f_cells_in_is (l : List Int) (hl : l.length ≤ 6) (hs : small l) (h : HP) : f_cells_in [.tup (nums l)] h = .ok (.int (prodI l)) h := by
  unfold f_cells_in
  rw [fnM_app]
  have e := cells_loop l 1 1 (.val (.tup (nums l))) h (by rw [Nat.one_mul]; exact Nat.pow_le_pow_right (by decide) hl) (by decide) (by decide) hs
  simp [m_cells_in, List.replicate, e, prodI]
/-- sides that may be -/
def okSd (l : List Int) : Bool := decide (l.length ≤ 4) && (l.all fun x => decide (0 ≤ x) && decide (x ≤ 64)) && decide (prodI l ≤ 4096)
theorem small_of {l : List Int} (h : (l.all fun x => decide (0 ≤ x) && decide (x ≤ 64)) = true) : small l := fun x hx => by
  have := List.all_eq_true.mp h x hx
  simpa using this
theorem fit_loop (l : List Int) (S : Slot) (h : HP) : forL (tName 1) m_sides_fit_b1 [1] (nums l) [S, .none] h = if (l.all fun x => decide (0 ≤ x) && decide (x ≤ 64)) = true then .nx [S, .none] h else .rt (.bl false) h := by
  induction l with
  | nil => rfl
  | cons x r ih =>
    by_cases z : 0 ≤ x ∧ x ≤ 64
    · have t : turn (tName 1) m_sides_fit_b1 [1] (.int x) [S, .none] h = .nx [S, .none] h := by simp [m_sides_fit_b1, z.1, z.2]
      rw [nums_cons, forL_cons, t, lR_nx, ih]
      simp [z.1, z.2]
    · have t : turn (tName 1) m_sides_fit_b1 [1] (.int x) [S, .none] h = .rt (.bl false) h := by
        by_cases y : 0 ≤ x
        · simp [m_sides_fit_b1, y, show ¬ x ≤ 64 from fun w => z ⟨y, w⟩]
        · simp [m_sides_fit_b1, y]
      rw [nums_cons, forL_cons, t]
      have : (decide (0 ≤ x) && decide (x ≤ 64)) = false := by
        rw [Bool.eq_false_iff]
        simpa using fun a b => z ⟨a, b⟩
      simp [this]
theorem f_sides_fit_is (l : List Int) (hl : l.length ≤ 6) (h : HP) : f_sides_fit [.tup (nums l)] h = .ok (.bl (okSd l)) h := by
  unfold f_sides_fit okSd
  rw [fnM_app]
  have e := fit_loop l (.val (.tup (nums l))) h
  by_cases z : l.length ≤ 4
  · by_cases y : (l.all fun x => decide (0 ≤ x) && decide (x ≤ 64)) = true
    · have c := f_cells_in_is l hl (small_of y) h
      rw [if_pos y] at e
      have z2 : ¬ (4 : Int) < (l.length : Int) := by omega
      simp only [y]
      simp [m_sides_fit, List.replicate, z, z2, e, c]
    · rw [if_neg y] at e
      have z2 : ¬ (4 : Int) < (l.length : Int) := by omega
      rw [Bool.not_eq_true] at y
      simp only [y]
      simp [m_sides_fit, List.replicate, z, z2, e]
  · have z2 : (4 : Int) < (l.length : Int) := by omega
    simp [m_sides_fit, List.replicate, z, z2]
/-! ### sides changed -/
def chg (l : List Int) (k : Nat) (v : Int) : List Int := l.take k ++ [v] ++ l.drop (k + 1)
def wo (l : List Int) (k : Nat) : List Int := l.take k ++ l.drop (k + 1)
theorem f_without_is (l : List Int) (k : Nat) (hl : l.length ≤ 1000) (h : HP) : f_without_side [.tup (nums l), .int (k : Int)] h = .ok (.tup (nums (wo l k))) h := by
  unfold f_without_side
  rw [fnM_app]
  have c1 := cut_to (nums l) k
  have c2 := cut_from (nums l) (k + 1)
  rw [show ((k + 1 : Nat) : Int) = (k : Int) + 1 by omega] at c2
  have z1 : min k l.length + (l.length - (k + 1)) ≤ 16777216 := by omega
  simp [m_without_side, List.replicate, c1, c2, wo, z1]
theorem chg_wo {l m : List Int} {k : Nat} (hl : k < l.length) (hm : k < m.length) : chg l k 0 = chg m k 0 ↔ wo l k = wo m k := by
  unfold chg wo
  have a : (l.take k).length = (m.take k).length := by simp; omega
  constructor
  · intro e
    rw [List.append_assoc, List.append_assoc] at e
    obtain ⟨e1, e2⟩ := List.append_inj e a
    have e3 : l.drop (k + 1) = m.drop (k + 1) := by simpa using e2
    rw [e1, e3]
  · intro e
    obtain ⟨e1, e2⟩ := List.append_inj e a
    rw [e1, e2]
/-! ### lines -/
abbrev sx0 (x : String) : DV := .str (Str.ofString x)
inductive Ln where
  | one (d : String) (a : Nat)
  | both (d : String) (a b : Nat)
  | wh (a b c : Nat)
  | shift (a : Nat) (s m n : Int)
  | fold (d : String) (a : Nat) (s : Int)
  | run (d : String) (a : Nat) (s : Int)
  | pick (a : Nat) (s : Int) (b : Nat)
  | join (a b : Nat) (s : Int)
  | even (l : List Int) (n : Int)
  | turn (a : Nat) (o : List Int)
  | cut (a : Nat) (s b t m : Int)
  | drop (a : Nat) (s p : Int)
  | wide (a : Nat) (w : Int)
  | spread (a : Nat) (l : List Int)
  | shape (a : Nat) (l : List Int)
def iN (a : Nat) : DV := .int (a : Int)
def Ln.dv : Ln → DV
  | .one d a => .tup [sx0 "one", sx0 d, iN a]
  | .both d a b => .tup [sx0 "both", sx0 d, iN a, iN b]
  | .wh a b c => .tup [sx0 "where", iN a, iN b, iN c]
  | .shift a s m n => .tup [sx0 "shift", iN a, .int s, .int m, .int n]
  | .fold d a s => .tup [sx0 "fold", sx0 d, iN a, .int s]
  | .run d a s => .tup [sx0 "run", sx0 d, iN a, .int s]
  | .pick a s b => .tup [sx0 "pick", iN a, .int s, iN b]
  | .join a b s => .tup [sx0 "join", iN a, iN b, .int s]
  | .even l n => .tup [sx0 "even", .tup (nums l), .int n]
  | .turn a o => .tup [sx0 "turn", iN a, .tup (nums o)]
  | .cut a s b t m => .tup [sx0 "cut", iN a, .int s, .int b, .int t, .int m]
  | .drop a s p => .tup [sx0 "drop", iN a, .int s, .int p]
  | .wide a w => .tup [sx0 "wide", iN a, .int w]
  | .spread a l => .tup [sx0 "spread", iN a, .tup (nums l)]
  | .shape a l => .tup [sx0 "shape", iN a, .tup (nums l)]
def Ln.refs : Ln → List Nat
  | .one _ a => [a]
  | .both _ a b => [a, b]
  | .wh a b c => [a, b, c]
  | .shift a _ _ _ => [a]
  | .fold _ a _ => [a]
  | .run _ a _ => [a]
  | .pick a _ b => [a, b]
  | .join a b _ => [a, b]
  | .even _ _ => []
  | .turn a _ => [a]
  | .cut a _ _ _ _ => [a]
  | .drop a _ _ => [a]
  | .wide a _ => [a]
  | .spread a _ => [a]
  | .shape a _ => [a]
def Ln.num : Ln → Int
  | .shift _ _ _ n => n
  | .even _ n => n
  | _ => 0
theorem f_number_of_is (ln : Ln) (h : HP) : f_number_of [ln.dv] h = .ok (.int ln.num) h := by
  unfold f_number_of
  rw [fnM_app]
  have g0 : ∀ (a : DV) l, getI (a :: l) 0 h = .ok a h := fun a l => getI0 a l h
  have g2 : ∀ (a b c : DV) l, getI (a :: b :: c :: l) 2 h = .ok c h := fun a b c l => getI2 a b c l h
  have g4 : ∀ (a b c d e : DV) l, getI (a :: b :: c :: d :: e :: l) 4 h = .ok e h := fun a b c d e l => getI_nat h _ 4 rfl
  cases ln <;> simp [m_number_of, List.replicate, Ln.dv, Ln.num, g0, g2, g4, sx0]
/-! ### what a line reads -/
theorem read_c1 (tag : Str) (l : List DV) (ps : List Int) (f : Int → DV) (h : HP) (lk : tab_READS.lookup tag = some (.tup ps)) (hp : ps.length ≤ 100) (hf : ∀ p ∈ ps, getI (.str tag :: l) p h = .ok (f p) h) :
    f_read_by [.tup (.str tag :: l)] h = .ok (.lst (ps.map f)) h := by
  unfold f_read_by
  rw [fnM_app]
  have vt := vTab_app tab_READS tag h lk
  have g0 := getI0 (.str tag) l h
  have c : m_read_by_c1 [.val (.tup (.str tag :: l)), .none] h = .ok (ps.map f) h := by
    unfold m_read_by_c1
    rw [mLc_ints (A := Int) (l := ps) DV.int f ?_ (by omega) fun p hp => ⟨_, rfl, ?_⟩]
    · simp [g0, vt, Te.dv, nums]
    · have := hf p hp
      simp [this]
  simp [m_read_by, List.replicate, c]
theorem f_read_by_is (ln : Ln) (h : HP) : f_read_by [ln.dv] h = .ok (.lst (ln.refs.map iN)) h := by
  cases ln with
  | one d a => exact read_c1 _ _ [2] (fun _ => iN a) h rfl (by decide) fun p hp => by rw [List.mem_singleton.mp hp]; exact getI_nat h _ 2 rfl
  | both d a b => 
    refine read_c1 _ _ [2, 3] (fun p => if p = 2 then iN a else iN b) h rfl (by decide) fun p hp => ?_
    rcases List.mem_cons.mp hp with e | e
    · rw [e]; exact getI_nat h _ 2 rfl
    · rw [List.mem_singleton.mp e]; exact getI_nat h _ 3 rfl
  | wh a b c =>
    refine read_c1 _ _ [1, 2, 3] (fun p => if p = 1 then iN a else if p = 2 then iN b else iN c) h rfl (by decide) fun p hp => ?_
    rcases List.mem_cons.mp hp with e | e
    · rw [e]; exact getI_nat h _ 1 rfl
    · rcases List.mem_cons.mp e with e | e
      · rw [e]; exact getI_nat h _ 2 rfl
      · rw [List.mem_singleton.mp e]; exact getI_nat h _ 3 rfl
  | shift a s m n => exact read_c1 _ _ [1] (fun _ => iN a) h rfl (by decide) fun p hp => by rw [List.mem_singleton.mp hp]; exact getI_nat h _ 1 rfl
  | fold d a s => exact read_c1 _ _ [2] (fun _ => iN a) h rfl (by decide) fun p hp => by rw [List.mem_singleton.mp hp]; exact getI_nat h _ 2 rfl
  | run d a s => exact read_c1 _ _ [2] (fun _ => iN a) h rfl (by decide) fun p hp => by rw [List.mem_singleton.mp hp]; exact getI_nat h _ 2 rfl
  | pick a s b =>
    refine read_c1 _ _ [1, 3] (fun p => if p = 1 then iN a else iN b) h rfl (by decide) fun p hp => ?_
    rcases List.mem_cons.mp hp with e | e
    · rw [e]; exact getI_nat h _ 1 rfl
    · rw [List.mem_singleton.mp e]; exact getI_nat h _ 3 rfl
  | join a b s =>
    refine read_c1 _ _ [1, 2] (fun p => if p = 1 then iN a else iN b) h rfl (by decide) fun p hp => ?_
    rcases List.mem_cons.mp hp with e | e
    · rw [e]; exact getI_nat h _ 1 rfl
    · rw [List.mem_singleton.mp e]; exact getI_nat h _ 2 rfl
  | even l n => exact read_c1 _ _ [] (fun _ => .non) h rfl (by decide) fun p hp => by cases hp
  | turn a o => exact read_c1 _ _ [1] (fun _ => iN a) h rfl (by decide) fun p hp => by rw [List.mem_singleton.mp hp]; exact getI_nat h _ 1 rfl
  | cut a s b t m => exact read_c1 _ _ [1] (fun _ => iN a) h rfl (by decide) fun p hp => by rw [List.mem_singleton.mp hp]; exact getI_nat h _ 1 rfl
  | drop a s p => exact read_c1 _ _ [1] (fun _ => iN a) h rfl (by decide) fun p hp => by rw [List.mem_singleton.mp hp]; exact getI_nat h _ 1 rfl
  | wide a w => exact read_c1 _ _ [1] (fun _ => iN a) h rfl (by decide) fun p hp => by rw [List.mem_singleton.mp hp]; exact getI_nat h _ 1 rfl
  | spread a l => exact read_c1 _ _ [1] (fun _ => iN a) h rfl (by decide) fun p hp => by rw [List.mem_singleton.mp hp]; exact getI_nat h _ 1 rfl
  | shape a l => exact read_c1 _ _ [1] (fun _ => iN a) h rfl (by decide) fun p hp => by rw [List.mem_singleton.mp hp]; exact getI_nat h _ 1 rfl
/-! ### what fits -/
abbrev tp (l : List Int) : DV := .tup (nums l)
def oD : Option (List Int) → DV
  | some l => tp l
  | none => .non
def inS (s : Int) (l : List Int) : Bool := decide (0 ≤ s) && decide (s < (l.length : Int))
theorem fit_along_shift (a : Nat) (s m n : Int) (l : List Int) (h : HP) : f_fit_along [(Ln.shift a s m n).dv, .lst [tp l]] h = .ok (oD (if inS s l then some l else none)) h := by
  unfold f_fit_along
  rw [fnM_app]
  have g := fun (a b c : DV) l => getI2 a b c l h
  by_cases z : 0 ≤ s <;> by_cases y : s < (l.length : Int) <;> simp [m_fit_along, List.replicate, Ln.dv, getI0, g, inS, z, y, oD, tp]
theorem fit_along_run (d : String) (a : Nat) (s : Int) (l : List Int) (h : HP) : f_fit_along [(Ln.run d a s).dv, .lst [tp l]] h = .ok (oD (if inS s l then some l else none)) h := by
  unfold f_fit_along
  rw [fnM_app]
  by_cases z : 0 ≤ s <;> by_cases y : s < (l.length : Int) <;> simp [m_fit_along, List.replicate, Ln.dv, getI0, getI2, getI3, inS, z, y, oD, tp]
theorem inS_nat {s : Int} {l : List Int} (h : inS s l = true) : ∃ k : Nat, s = (k : Int) ∧ k < l.length := by
  unfold inS at h
  simp only [Bool.and_eq_true, decide_eq_true_eq] at h
  exact ⟨s.toNat, by omega, by omega⟩
def zeroBad (d : String) : Bool := decide (d = "least") || decide (d = "most")
def foldO (d : String) (l : List Int) (s : Int) : Option (List Int) := if inS s l then (if l.getD s.toNat 0 = 0 ∧ zeroBad d = true then none else some (wo l s.toNat)) else none
theorem fit_fold_is (d : String) (a : Nat) (s : Int) (l : List Int) (hl : l.length ≤ 900) (h : HP) (hd : d = "add" ∨ d = "times" ∨ d = "least" ∨ d = "most") : f_fit_fold [(Ln.fold d a s).dv, .lst [tp l]] h = .ok (oD (foldO d l s)) h := by
  unfold f_fit_fold foldO
  rw [fnM_app]
  by_cases z : inS s l = true
  · obtain ⟨k, e, hk⟩ := inS_nat z
    subst e
    have g := getI_nat h (nums l) k (nums_at hk)
    have w := f_without_is l k (by omega) h
    have k2 : (k : Int) < (l.length : Int) := by omega
    simp only [List.getD_eq_getElem?_getD] at g
    by_cases y : l[k]?.getD 0 = 0
    · rw [y] at g
      rcases hd with e | e | e | e <;> subst e
      · have i : vIn false (sx0 "add") (.tup [sx0 "least", sx0 "most"]) h = .ok (.bl false) h := by rfl
        simp [m_fit_fold, List.replicate, Ln.dv, getI0, getI1, getI2, getI3, z, g, w, k2, y, i, oD, zeroBad]
      · have i : vIn false (sx0 "times") (.tup [sx0 "least", sx0 "most"]) h = .ok (.bl false) h := by rfl
        simp [m_fit_fold, List.replicate, Ln.dv, getI0, getI1, getI2, getI3, z, g, w, k2, y, i, oD, zeroBad]
      · have i : vIn false (sx0 "least") (.tup [sx0 "least", sx0 "most"]) h = .ok (.bl true) h := by rfl
        simp [m_fit_fold, List.replicate, Ln.dv, getI0, getI1, getI2, getI3, z, g, w, k2, y, i, oD, zeroBad]
      · have i : vIn false (sx0 "most") (.tup [sx0 "least", sx0 "most"]) h = .ok (.bl true) h := by rfl
        simp [m_fit_fold, List.replicate, Ln.dv, getI0, getI1, getI2, getI3, z, g, w, k2, y, i, oD, zeroBad]
    · simp [m_fit_fold, List.replicate, Ln.dv, getI0, getI1, getI2, getI3, z, g, w, k2, y, oD]
  · rw [if_neg z]
    unfold inS at z
    by_cases y1 : 0 ≤ s <;> by_cases y : s < (l.length : Int) <;> first | (refine absurd ?_ z; simp [y1, y]; done) | simp [m_fit_fold, List.replicate, Ln.dv, getI0, getI3, y1, y, oD]
theorem fit_pick_is (a b : Nat) (s : Int) (l m : List Int) (hl : l.length ≤ 900) (hm : m.length ≤ 900) (h : HP) : f_fit_pick [(Ln.pick a s b).dv, .lst [tp l, tp m]] h = .ok (oD (if inS s l && decide (m.length = 1) then some (l.take s.toNat ++ m ++ l.drop (s.toNat + 1)) else none)) h := by
  unfold f_fit_pick
  rw [fnM_app]
  by_cases z : inS s l = true
  · obtain ⟨k, e, hk⟩ := inS_nat z
    subst e
    have c1 := cut_to (nums l) k
    have c2 := cut_from (nums l) (k + 1)
    rw [show ((k + 1 : Nat) : Int) = (k : Int) + 1 by omega] at c2
    have k2 : (k : Int) < (l.length : Int) := by omega
    by_cases y : m.length = 1
    · have z1 : min k l.length + m.length ≤ 16777216 := by omega
      have z2 : min k l.length + m.length + (l.length - (k + 1)) ≤ 16777216 := by omega
      have z3 : min k l.length + 1 ≤ 16777216 := by omega
      have z4 : min k l.length + 1 + (l.length - (k + 1)) ≤ 16777216 := by omega
      simp [m_fit_pick, List.replicate, Ln.dv, getI0, getI1, getI2, z, k2, y, oD, c1, c2, z1, z2, z3, z4, tp]
    · have y2 : ¬ (m.length : Int) = 1 := by omega
      simp [m_fit_pick, List.replicate, Ln.dv, getI0, getI1, getI2, z, k2, y, y2, oD]
  · have zz := z
    unfold inS at zz
    by_cases y1 : 0 ≤ s <;> by_cases y : s < (l.length : Int) <;> first | (refine absurd ?_ zz; simp [y1, y]; done) | simp [m_fit_pick, List.replicate, Ln.dv, getI0, getI2, z, y1, y, oD]
theorem fit_join_is (a b : Nat) (s : Int) (l m : List Int) (hl : l.length ≤ 900) (hm : m.length ≤ 900) (h : HP) : f_fit_join [(Ln.join a b s).dv, .lst [tp l, tp m]] h = .ok (oD (if inS s l && (decide (l.length = m.length) && decide (wo l s.toNat = wo m s.toNat)) then some (chg l s.toNat (l.getD s.toNat 0 + m.getD s.toNat 0)) else none)) h := by
  unfold f_fit_join
  rw [fnM_app]
  by_cases z : inS s l = true
  · obtain ⟨k, e, hk⟩ := inS_nat z
    subst e
    have c1 := cut_to (nums l) k
    have c2 := cut_from (nums l) (k + 1)
    rw [show ((k + 1 : Nat) : Int) = (k : Int) + 1 by omega] at c2
    have k2 : (k : Int) < (l.length : Int) := by omega
    by_cases y : l.length = m.length
    · have w1 := f_without_is l k (by omega) h
      have w2 := f_without_is m k (by omega) h
      have g1 := getI_nat h (nums l) k (nums_at hk)
      have g2 := getI_nat h (nums m) k (nums_at (y ▸ hk))
      have z1 : min k l.length + 1 ≤ 16777216 := by omega
      have z2 : min k l.length + 1 + (l.length - (k + 1)) ≤ 16777216 := by omega
      have y2 : (l.length : Int) = m.length := by omega
      have k3 : ¬ m.length ≤ k := by omega
      have z3 : min k m.length + 1 ≤ 16777216 := by omega
      have z4 : min k m.length + 1 + (m.length - (k + 1)) ≤ 16777216 := by omega
      simp only [List.getD_eq_getElem?_getD] at g1 g2
      by_cases q : wo l k = wo m k
      · rw [q] at w1
        simp [m_fit_join, List.replicate, Ln.dv, getI0, getI1, getI3, z, k2, y, y2, k3, oD, c1, c2, z1, z2, z3, z4, tp, w1, w2, q, g1, g2, chg, vNe_tup]
      · simp [m_fit_join, List.replicate, Ln.dv, getI0, getI1, getI3, z, k2, y, y2, k3, oD, c1, c2, tp, w1, w2, q, vNe_tup]
    · have y2 : ¬ (l.length : Int) = m.length := by omega
      simp [m_fit_join, List.replicate, Ln.dv, getI0, getI1, getI3, z, k2, y, y2, oD]
  · have zz := z
    unfold inS at zz
    by_cases y1 : 0 ≤ s <;> by_cases y : s < (l.length : Int) <;> first | (refine absurd ?_ zz; simp [y1, y]; done) | simp [m_fit_join, List.replicate, Ln.dv, getI0, getI3, z, y1, y, oD]
/-! ### sides that meet -/
def metO (a b : List Int) : Option (List Int) := if (List.range (max a.length b.length)).all fun k => metOk (padL a (max a.length b.length) k) (padL b (max a.length b.length) k) then
  some ((List.range (max a.length b.length)).map fun k => met (padL a (max a.length b.length) k) (padL b (max a.length b.length) k)) else none
theorem metL_oD (a b : List Int) : metL a b = oD (metO a b) := by
  unfold metL metO
  split <;> rfl
theorem metO_len {a b l : List Int} (h : metO a b = some l) : l.length = max a.length b.length := by
  unfold metO at h
  split at h
  · cases h
    simp
  · cases h
theorem met_turn (a b : List Int) (A B : Slot) (ha : a.length ≤ 900) (hb : b.length ≤ 900) (h : HP) :
    turn (tName 3) m_fit_met_b1 [3] (tp b) [A, B, .val (tp a), .none] h = match metO a b with
      | some l => .nx [A, B, .val (tp l), .none] h
      | none => .rt .non h := by
  have e := f_sides_met_is a b (by omega) (by omega) h
  rw [metL_oD] at e
  cases z : metO a b with
  | none =>
    rw [z] at e
    have e : f_sides_met [.tup (nums a), .tup (nums b)] h = .ok .non h := e
    simp [m_fit_met_b1, e, tp]
  | some l =>
    rw [z] at e
    have e : f_sides_met [.tup (nums a), .tup (nums b)] h = .ok (.tup (nums l)) h := e
    simp [m_fit_met_b1, e, tp]
/-- one after the other -/
def metAll (a : List Int) : List (List Int) → Option (List Int)
  | [] => some a
  | b :: r => match metO a b with
    | some l => metAll l r
    | none => none
theorem met_loop : ∀ (r : List (List Int)) (a : List Int) (A B : Slot) (h : HP), a.length ≤ 900 → (∀ b ∈ r, b.length ≤ 900) →
    forL (tName 3) m_fit_met_b1 [3] (r.map tp) [A, B, .val (tp a), .none] h = match metAll a r with
      | some l => .nx [A, B, .val (tp l), .none] h
      | none => .rt .non h
  | [], _, _, _, _, _, _ => rfl
  | b :: r, a, A, B, h, ha, hr => by
    have hb := hr b List.mem_cons_self
    rw [List.map_cons, forL_cons, met_turn a b A B ha hb h]
    unfold metAll
    cases z : metO a b with
    | none => rfl
    | some l =>
      have len := metO_len z
      show lR (.nx [A, B, .val (tp l), .none] h) _ = _
      rw [lR_nx, met_loop r l A B h (by omega) fun c hc => hr c (List.mem_cons_of_mem _ hc)]
theorem f_fit_met_is (d : DV) (a : List Int) (r : List (List Int)) (h : HP) (ha : a.length ≤ 900) (hr : ∀ b ∈ r, b.length ≤ 900) : f_fit_met [d, .lst (tp a :: r.map tp)] h = .ok (oD (metAll a r)) h := by
  unfold f_fit_met
  rw [fnM_app]
  have c := cut_from (tp a :: r.map tp) 1
  rw [show ((1 : Nat) : Int) = 1 from rfl] at c
  have e := met_loop r a (.val d) (.val (.lst (tp a :: r.map tp))) h ha hr
  cases z : metAll a r with
  | none =>
    rw [z] at e
    simp [m_fit_met, List.replicate, getI0, c, e, oD]
  | some l =>
    rw [z] at e
    simp [m_fit_met, List.replicate, getI0, c, e, oD]
/-! ### what views fit -/
def sortedOk (o : List Int) (n : Nat) : Bool := decide (PySem.W.sortI o = (List.range n).map fun (k : Nat) => (k : Int))
def turnO (l o : List Int) : Option (List Int) := if sortedOk o l.length = true then some (o.map fun j => l.getD j.toNat 0) else none
theorem sorted_in {o : List Int} {n : Nat} (h : sortedOk o n = true) : ∀ j ∈ o, 0 ≤ j ∧ j < (n : Int) := fun j hj => by
  have e := of_decide_eq_true h
  have m : j ∈ PySem.W.sortI o := (PySem.W.sortI_perm o).mem_iff.mpr hj
  rw [e] at m
  obtain ⟨k, hk, ek⟩ := List.mem_map.mp m
  have := List.mem_range.mp hk
  omega
theorem sorted_len {o : List Int} {n : Nat} (h : sortedOk o n = true) : o.length = n := by
  have e := of_decide_eq_true h
  have := (PySem.W.sortI_perm o).length_eq
  rw [e] at this
  simpa using this.symm
theorem rng_nums (n : Nat) : rng n = nums ((List.range n).map fun (k : Nat) => (k : Int)) := by
  rw [rng_map, nums_map]
theorem fit_turn_is (a : Nat) (o l : List Int) (ho : o.length ≤ 900) (hl : l.length ≤ 900) (h : HP) : f_fit_turn [(Ln.turn a o).dv, .lst [tp l]] h = .ok (oD (turnO l o)) h := by
  unfold f_fit_turn turnO
  rw [fnM_app]
  have st : lSrt (.tup (nums o)) h = .ok (nums (PySem.W.sortI o)) h := lSrt_tup o h
  have rg := itN_nat h l.length (by omega)
  rw [rng_nums] at rg
  have ne := vNe_lst h (PySem.W.sortI o) ((List.range l.length).map fun (k : Nat) => (k : Int))
  have c : sortedOk o l.length = true → m_fit_turn_c1 [.val (Ln.turn a o).dv, .val (.lst [tp l]), .none] h = .ok (nums (o.map fun j => l.getD j.toNat 0)) h := fun so => by
    unfold m_fit_turn_c1
    rw [mLc_ints (A := Int) (l := o) DV.int (fun j => .int (l.getD j.toNat 0)) ?_ (by omega) fun j hj => ⟨_, rfl, ?_⟩, ← nums_map]
    · simp [Ln.dv, getI2]
      rfl
    · obtain ⟨j0, j1⟩ := sorted_in so j hj
      obtain ⟨k, rfl⟩ := Int.eq_ofNat_of_zero_le j0
      have g := getI_nat h (nums l) k (nums_at (by omega))
      simp only [List.getD_eq_getElem?_getD] at g
      simp [tp, getI0, g]
  have z : sortedOk o l.length = decide (PySem.W.sortI o = (List.range l.length).map fun (k : Nat) => (k : Int)) := rfl
  rw [← z] at ne
  by_cases q : sortedOk o l.length = true
  · have c := c q
    rw [q] at ne
    simp only [Ln.dv] at c
    simp [m_fit_turn, List.replicate, Ln.dv, getI0, getI2, st, rg, ne, c, q, oD, tp]
  · rw [Bool.not_eq_true] at q
    rw [q] at ne
    simp [m_fit_turn, List.replicate, Ln.dv, getI0, getI2, st, rg, ne, q, oD, tp]
def inR (b n : Int) : Bool := decide (0 ≤ b) && decide (b < n)
def cutO (l : List Int) (s b t m : Int) : Option (List Int) := if (inS s l && (!decide (t = 0) && !decide (m < 0))) = true then
  (if decide (0 < m) = true ∧ (inR b (l.getD s.toNat 0) && inR (b + t * (m - 1)) (l.getD s.toNat 0)) = false then none else some (chg l s.toNat m)) else none
theorem fit_cut_is (a : Nat) (s b t m : Int) (l : List Int) (hl : l.length ≤ 900) (t0 : -1000000 ≤ t) (t1 : t ≤ 1000000) (h : HP) : f_fit_cut [(Ln.cut a s b t m).dv, .lst [tp l]] h = .ok (oD (cutO l s b t m)) h := by
  unfold f_fit_cut cutO
  rw [fnM_app]
  have g4 : getI [sx0 "cut", iN a, .int s, .int b, .int t, .int m] 4 h = .ok (.int t) h := getI_nat h _ 4 rfl
  have g5 : getI [sx0 "cut", iN a, .int s, .int b, .int t, .int m] 5 h = .ok (.int m) h := getI_nat h _ 5 rfl
  have mo := mulOk_l t (m - 1) (by omega) (by omega)
  have up : m_fit_cut [.val (Ln.cut a s b t m).dv, .val (.lst [tp l]), .none, .none, .none] h = qR ((sIf (tOr (tNot (tb (e3c vLe vLt (eC (.int 0)) (eVar 2) (e1 vLen (e2 vIdx (eVar 1) (eC (.int 0))))))) (tOr (tb (e2 vEq (e2 vIdx (eVar 0) (eC (.int 4))) (eC (.int 0)))) (tb (e2 vLt (e2 vIdx (eVar 0) (eC (.int 5))) (eC (.int 0)))))) (sRet (eC .non)) sNext) [.val (Ln.cut a s b t m).dv, .val (.lst [tp l]), .val (.int s), .val (.int (b + t * (m - 1))), .none] h)
      (sSeq (sSet 4 (e2 vIdx (e2 vIdx (eVar 1) (eC (.int 0))) (eVar 2))) (sSeq (sIf (tAnd (tb (e2 vGt (e2 vIdx (eVar 0) (eC (.int 5))) (eC (.int 0)))) (tNot (tAnd (tb (e3c vLe vLt (eC (.int 0)) (e2 vIdx (eVar 0) (eC (.int 3))) (eVar 4))) (tb (e3c vLe vLt (eC (.int 0)) (eVar 3) (eVar 4)))))) (sRet (eC .non)) sNext) (sRet (e2 vAdd (e2 vAdd (eCut (e2 vIdx (eVar 1) (eC (.int 0))) oNone (oSome (eVar 2))) (eTup (aCons (e2 vIdx (eVar 0) (eC (.int 5))) aNil))) (eCut (e2 vIdx (eVar 1) (eC (.int 0))) (oSome (e2 vAdd (eVar 2) (eC (.int 1)))) oNone))))) := by
    unfold m_fit_cut
    simp only [sSeq_app]
    simp [Ln.dv, getI2, getI3, g4, g5, mo]
  have n5 : ([(Ln.cut a s b t m).dv, .lst [tp l]].map Slot.val ++ List.replicate (5 - [(Ln.cut a s b t m).dv, DV.lst [tp l]].length) Slot.none) = [.val (Ln.cut a s b t m).dv, .val (.lst [tp l]), .none, .none, .none] := rfl
  rw [n5, up]
  generalize b + t * (m - 1) = e at *
  by_cases z : inS s l = true
  rotate_left
  · rw [Bool.not_eq_true] at z
    have zz := z
    unfold inS at zz
    by_cases y1 : 0 ≤ s <;> by_cases y : s < (l.length : Int) <;> first | (exfalso; simp [y1, y] at zz; done) | simp [z, y1, y, oD, getI0, Ln.dv]
  obtain ⟨k, ek, hk⟩ := inS_nat z
  subst ek
  have k2 : (k : Int) < (l.length : Int) := by omega
  have g := getI_nat h (nums l) k (nums_at hk)
  have c1 := cut_to (nums l) k
  have c2 := cut_from (nums l) (k + 1)
  rw [show ((k + 1 : Nat) : Int) = (k : Int) + 1 by omega] at c2
  have z1 : min k l.length + 1 ≤ 16777216 := by omega
  have z2 : min k l.length + 1 + (l.length - (k + 1)) ≤ 16777216 := by omega
  rw [Int.toNat_natCast]
  generalize hx : l.getD k 0 = x at *
  by_cases q1 : t = 0
  · subst q1
    simp [z, oD, getI0, Ln.dv, k2, g4]
  by_cases q2 : m < 0
  · simp [z, q1, q2, oD, getI0, Ln.dv, k2, g4, g5]
  by_cases q3 : 0 < m
  · by_cases q4 : 0 ≤ b <;> by_cases q5 : b < x <;> by_cases q6 : 0 ≤ e <;> by_cases q7 : e < x <;> simp [z, q1, q2, q3, q4, q5, q6, q7, inR, oD, getI0, getI3, Ln.dv, k2, g4, g5, g, c1, c2, z1, z2, chg, tp]
  · simp [z, q1, q2, q3, oD, getI0, getI3, Ln.dv, k2, g4, g5, g, c1, c2, z1, z2, chg, tp]
def dropO (l : List Int) (s p : Int) : Option (List Int) := if (inS s l && inR p (l.getD s.toNat 0)) = true then some (wo l s.toNat) else none
theorem fit_drop_is (a : Nat) (s p : Int) (l : List Int) (hl : l.length ≤ 900) (h : HP) : f_fit_drop [(Ln.drop a s p).dv, .lst [tp l]] h = .ok (oD (dropO l s p)) h := by
  unfold f_fit_drop dropO
  rw [fnM_app]
  by_cases z : inS s l = true
  rotate_left
  · rw [Bool.not_eq_true] at z
    have zz := z
    unfold inS at zz
    by_cases y1 : 0 ≤ s <;> by_cases y : s < (l.length : Int) <;> first | (exfalso; simp [y1, y] at zz; done) | simp [m_fit_drop, List.replicate, z, y1, y, oD, getI0, getI2, Ln.dv]
  obtain ⟨k, ek, hk⟩ := inS_nat z
  subst ek
  have k2 : (k : Int) < (l.length : Int) := by omega
  have g := getI_nat h (nums l) k (nums_at hk)
  have w := f_without_is l k (by omega) h
  rw [Int.toNat_natCast]
  generalize hx : l.getD k 0 = x at *
  by_cases q4 : 0 ≤ p <;> by_cases q5 : p < x <;> simp [m_fit_drop, List.replicate, z, q4, q5, inR, oD, getI0, getI2, getI3, Ln.dv, k2, g, w, tp]
def wideO (l : List Int) (w : Int) : Option (List Int) := if (decide (0 ≤ w) && decide (w ≤ (l.length : Int))) = true then some (l.take w.toNat ++ [1] ++ l.drop w.toNat) else none
theorem fit_wide_is (a : Nat) (w : Int) (l : List Int) (hl : l.length ≤ 900) (h : HP) : f_fit_wide [(Ln.wide a w).dv, .lst [tp l]] h = .ok (oD (wideO l w)) h := by
  unfold f_fit_wide wideO
  rw [fnM_app]
  by_cases q1 : 0 ≤ w
  · obtain ⟨k, rfl⟩ := Int.eq_ofNat_of_zero_le q1
    have c1 := cut_to (nums l) k
    have c2 := cut_from (nums l) k
    have z1 : min k l.length + 1 ≤ 16777216 := by omega
    have z2 : min k l.length + 1 + (l.length - k) ≤ 16777216 := by omega
    by_cases q2 : k ≤ l.length
    · have q3 : (k : Int) ≤ (l.length : Int) := by omega
      have z3 : k + 1 ≤ 16777216 := by omega
      have z4 : k + 1 + (l.length - k) ≤ 16777216 := by omega
      simp [m_fit_wide, List.replicate, q2, q3, oD, getI0, getI2, Ln.dv, c1, c2, z1, z2, z3, z4, tp]
    · have q3 : ¬ (k : Int) ≤ (l.length : Int) := by omega
      simp [m_fit_wide, List.replicate, q2, q3, oD, getI0, getI2, Ln.dv]
  · simp [m_fit_wide, List.replicate, q1, oD, getI0, getI2, Ln.dv]
def spreadO (l m : List Int) : Option (List Int) := if metO l m = some m then some m else none
theorem vNe_non_tup (h : HP) (l : List Int) : vNe .non (.tup (nums l)) h = .ok (.bl true) h := by
  have e : eqD .non (.tup (nums l)) = some false := by
    unfold eqD
    rw [toPD_tup]
    have s0 : toPD .non = some .none := rfl
    rw [s0]
    have s1 : SeqAt.shaped .none = true := rfl
    simp only [s1, sh_tup, Bool.and_self, if_true]
    rfl
  unfold vNe
  rw [e]
  rfl
theorem fit_spread_is (a : Nat) (l m : List Int) (hl : l.length ≤ 900) (hm : m.length ≤ 900) (h : HP) : f_fit_spread [(Ln.spread a m).dv, .lst [tp l]] h = .ok (oD (spreadO l m)) h := by
  unfold f_fit_spread spreadO
  rw [fnM_app]
  have e := f_sides_met_is l m (by omega) (by omega) h
  rw [metL_oD] at e
  cases z : metO l m with
  | none =>
    rw [z] at e
    have e : f_sides_met [.tup (nums l), .tup (nums m)] h = .ok .non h := e
    have n := vNe_non_tup h m
    simp [m_fit_spread, List.replicate, oD, getI0, getI2, Ln.dv, e, n, tp]
  | some x =>
    rw [z] at e
    have e : f_sides_met [.tup (nums l), .tup (nums m)] h = .ok (.tup (nums x)) h := e
    have n := vNe_tup h x m
    by_cases q : x = m
    · subst q
      rw [decide_eq_true rfl] at n
      simp [m_fit_spread, List.replicate, oD, getI0, getI2, Ln.dv, e, n, tp]
    · rw [decide_eq_false q] at n
      simp [m_fit_spread, List.replicate, oD, getI0, getI2, Ln.dv, e, n, tp, q]
def shapeO (l m : List Int) : Option (List Int) := if (okSd m && decide (prodI m = prodI l)) = true then some m else none
theorem fit_shape_is (a : Nat) (l m : List Int) (hl : l.length ≤ 4) (sl : small l) (hm : m.length ≤ 6) (h : HP) : f_fit_shape [(Ln.shape a m).dv, .lst [tp l]] h = .ok (oD (shapeO l m)) h := by
  unfold f_fit_shape shapeO
  rw [fnM_app]
  have f := f_sides_fit_is m hm h
  have c1 := f_cells_in_is l (by omega) sl h
  by_cases q : okSd m = true
  · rw [q] at f
    have sm : small m := by
      unfold okSd at q
      simp only [Bool.and_eq_true] at q
      exact small_of q.1.2
    have c2 := f_cells_in_is m hm sm h
    by_cases y : prodI m = prodI l <;> simp [m_fit_shape, List.replicate, oD, getI0, getI2, Ln.dv, f, c1, c2, q, y, tp]
  · rw [Bool.not_eq_true] at q
    rw [q] at f
    simp [m_fit_shape, List.replicate, oD, getI0, getI2, Ln.dv, f, q, tp]
/-! ### a line's sides -/
def lineR (o : Option (List Int)) (at_ : Int) (h : HP) : Res DV := match o with
  | some l => if okSd l = true then .ok (tp l) h else .exc ⟨cBad, [sx0 "sides", .int at_]⟩ h
  | none => .exc ⟨cBad, [sx0 "sides", .int at_]⟩ h
theorem place_loop (at_ : Nat) (A C D : Slot) (h : HP) : ∀ refs : List Nat, (∀ r ∈ refs, r < at_) → forL (tName 4) m_line_sides_b1 [4] (refs.map iN) [A, .val (.int (at_ : Int)), C, D, .none, .none] h = .nx [A, .val (.int (at_ : Int)), C, D, .none, .none] h
  | [], _ => rfl
  | r :: rs, hr => by
    have z := hr r List.mem_cons_self
    have t : turn (tName 4) m_line_sides_b1 [4] (iN r) [A, .val (.int (at_ : Int)), C, D, .none, .none] h = .nx [A, .val (.int (at_ : Int)), C, D, .none, .none] h := by
      have z2 : (r : Int) < (at_ : Int) := by omega
      simp [m_line_sides_b1, iN, z, z2]
    rw [List.map_cons, forL_cons, t, lR_nx, place_loop at_ A C D h rs fun q hq => hr q (List.mem_cons_of_mem _ hq)]
theorem line_core (tag : Str) (rest : List DV) (S : List (List Int)) (at_ : Nat) (G : DV) (refs : List Nat) (num : Int) (due : Option (List Int)) (nm : Str) (i : Nat) (m : List DV → M DV) (h : HP)
    (hg : vEq (.str tag) (sx0 "given") h = .ok (.bl false) h) (he : vEq (.str tag) (sx0 "even") h = .ok (.bl false) h)
    (hr : f_read_by [.tup (.str tag :: rest)] h = .ok (.lst (refs.map iN)) h) (hrl : refs.length ≤ 10) (hrb : ∀ r ∈ refs, r < at_) (hS : S.length = at_)
    (hn : f_number_of [.tup (.str tag :: rest)] h = .ok (.int num) h) (n0 : 0 ≤ num) (n1 : num < 1000003)
    (lk : tab_FITS.lookup tag = some (.fn nm i)) (fo : fnOf fs_FITS (.fn i) = some m) (fit : m [.tup (.str tag :: rest), .lst (refs.map fun r => tp (S.getD r []))] h = .ok (oD due) h) (dl : ∀ l, due = some l → l.length ≤ 6) :
    f_line_sides [.tup (.str tag :: rest), .int (at_ : Int), .lst (S.map tp), G] h = lineR due at_ h := by
  unfold f_line_sides
  rw [fnM_app]
  have g0 := getI0 (.str tag) rest h
  have vt := vTab_app tab_FITS tag h lk
  have pl := place_loop at_ (.val (.tup (.str tag :: rest))) (.val (.lst (S.map tp))) (.val G) h refs hrb
  have c1 : m_line_sides_c1 [.val (.tup (.str tag :: rest)), .val (.int (at_ : Int)), .val (.lst (S.map tp)), .val G, .none, .none] h = .ok (refs.map fun r => tp (S.getD r [])) h := by
    unfold m_line_sides_c1
    rw [mLc_ints (A := Nat) (l := refs) iN (fun r => tp (S.getD r [])) ?_ (by omega) fun r hr2 => ⟨_, rfl, ?_⟩]
    · simp [hr]
    · have lt := hrb r hr2
      have g := getI_nat h (S.map tp) r (d := tp (S.getD r [])) (by
        rw [List.getElem?_map, List.getD_eq_getElem?_getD, List.getElem?_eq_getElem (by omega)]
        rfl)
      simp only [List.getD_eq_getElem?_getD] at g ⊢
      simp [iN, g]
  simp only [List.getD_eq_getElem?_getD] at fit c1
  cases due with
  | none =>
    have fit : m [.tup (.str tag :: rest), .lst (refs.map fun r => tp (S[r]?.getD []))] h = .ok .non h := fit
    simp [m_line_sides, List.replicate, g0, hg, he, hr, hn, n0, n1, pl, vt, Te.dv, fo, orBad_some, c1, fit, lineR]
  | some l =>
    have fit : m [.tup (.str tag :: rest), .lst (refs.map fun r => tp (S[r]?.getD []))] h = .ok (.tup (nums l)) h := fit
    have sf := f_sides_fit_is l (dl l rfl) h
    by_cases q : okSd l = true
    · rw [q] at sf
      simp [m_line_sides, List.replicate, g0, hg, he, hr, hn, n0, n1, pl, vt, Te.dv, fo, orBad_some, c1, fit, lineR, sf, q]
    · rw [Bool.not_eq_true] at q
      rw [q] at sf
      simp [m_line_sides, List.replicate, g0, hg, he, hr, hn, n0, n1, pl, vt, Te.dv, fo, orBad_some, c1, fit, lineR, sf, q]
def Ln.due (S : List (List Int)) : Ln → Option (List Int)
  | .one _ a => some (S.getD a [])
  | .both _ a b => metAll (S.getD a []) [S.getD b []]
  | .wh a b c => metAll (S.getD a []) [S.getD b [], S.getD c []]
  | .shift a s _ _ => if inS s (S.getD a []) then some (S.getD a []) else none
  | .fold d a s => foldO d (S.getD a []) s
  | .run _ a s => if inS s (S.getD a []) then some (S.getD a []) else none
  | .pick a s b => if inS s (S.getD a []) && decide ((S.getD b []).length = 1) then some ((S.getD a []).take s.toNat ++ S.getD b [] ++ (S.getD a []).drop (s.toNat + 1)) else none
  | .join a b s => if inS s (S.getD a []) && (decide ((S.getD a []).length = (S.getD b []).length) && decide (wo (S.getD a []) s.toNat = wo (S.getD b []) s.toNat)) then some (chg (S.getD a []) s.toNat ((S.getD a []).getD s.toNat 0 + (S.getD b []).getD s.toNat 0)) else none
  | .even l _ => some l
  | .turn a o => turnO (S.getD a []) o
  | .cut a s b t m => cutO (S.getD a []) s b t m
  | .drop a s p => dropO (S.getD a []) s p
  | .wide a w => wideO (S.getD a []) w
  | .spread a l => spreadO (S.getD a []) l
  | .shape a l => shapeO (S.getD a []) l
def Ln.ok : Ln → Prop
  | .fold d _ _ => d = "add" ∨ d = "times" ∨ d = "least" ∨ d = "most"
  | .even l _ => l.length ≤ 6
  | .turn _ o => o.length ≤ 900
  | .cut _ _ _ t _ => -1000000 ≤ t ∧ t ≤ 1000000
  | .spread _ l => l.length ≤ 6
  | .shape _ l => l.length ≤ 6
  | _ => True
theorem line_even (l : List Int) (n : Int) (S : List (List Int)) (at_ : Nat) (G : DV) (h : HP) (n0 : 0 ≤ n) (n1 : n < 1000003) (hl : l.length ≤ 6) :
    f_line_sides [(Ln.even l n).dv, .int (at_ : Int), .lst (S.map tp), G] h = lineR (some l) at_ h := by
  unfold f_line_sides
  rw [fnM_app]
  have hr := f_read_by_is (.even l n) h
  have hn := f_number_of_is (.even l n) h
  have sf := f_sides_fit_is l hl h
  have pl := place_loop at_ (.val (Ln.even l n).dv) (.val (.lst (S.map tp))) (.val G) h [] (fun r hr => by cases hr)
  simp only [Ln.refs, Ln.num, Ln.dv, List.map_nil] at hr hn pl
  by_cases q : okSd l = true
  · rw [q] at sf
    simp [m_line_sides, List.replicate, Ln.dv, getI0, getI1, hr, hn, n0, n1, pl, lineR, sf, q]
  · rw [Bool.not_eq_true] at q
    rw [q] at sf
    simp [m_line_sides, List.replicate, Ln.dv, getI0, getI1, hr, hn, n0, n1, pl, lineR, sf, q]
theorem due_len {S : List (List Int)} (hS : ∀ a, (S.getD a []).length ≤ 4) (ln : Ln) (ok : ln.ok) (l : List Int) (e : ln.due S = some l) : l.length ≤ 6 := by
  have ml : ∀ (r : List (List Int)) (a : List Int), a.length ≤ 4 → (∀ b ∈ r, b.length ≤ 4) → ∀ l, metAll a r = some l → l.length ≤ 4 := by
    intro r
    induction r with
    | nil => exact fun a ha _ l e => by cases e; exact ha
    | cons b r ih =>
      intro a ha hr l e
      unfold metAll at e
      cases z : metO a b with
      | none => rw [z] at e; cases e
      | some x =>
        rw [z] at e
        have := metO_len z
        have := hr b List.mem_cons_self
        exact ih x (by omega) (fun c hc => hr c (List.mem_cons_of_mem _ hc)) l e
  cases ln with
  | one d a => cases e; have := hS a; omega
  | both d a b =>
    have := ml [S.getD b []] (S.getD a []) (hS a) (fun x hx => by rw [List.mem_singleton.mp hx]; exact hS b) l e
    omega
  | wh a b c =>
    have := ml [S.getD b [], S.getD c []] (S.getD a []) (hS a) (fun x hx => by
      rcases List.mem_cons.mp hx with y | y
      · rw [y]; exact hS b
      · rw [List.mem_singleton.mp y]; exact hS c) l e
    omega
  | shift a s m n =>
    simp only [Ln.due] at e
    split at e <;> cases e
    have := hS a
    omega
  | fold d a s =>
    simp only [Ln.due, foldO] at e
    split at e
    · split at e <;> cases e
      have := hS a
      unfold wo
      simp only [List.length_append, List.length_take, List.length_drop]
      omega
    · cases e
  | run d a s =>
    simp only [Ln.due] at e
    split at e <;> cases e
    have := hS a
    omega
  | pick a s b =>
    simp only [Ln.due] at e
    split at e
    · rename_i hz
      cases e
      have := hS a
      simp only [Bool.and_eq_true, decide_eq_true_eq] at hz
      simp only [List.length_append, List.length_take, List.length_drop, hz.2]
      omega
    · cases e
  | join a b s =>
    simp only [Ln.due] at e
    split at e <;> cases e
    have := hS a
    unfold chg
    simp only [List.length_append, List.length_take, List.length_drop, List.length_singleton]
    omega
  | even l n => cases e; exact ok
  | turn a o =>
    simp only [Ln.due, turnO] at e
    split at e
    · rename_i hz
      cases e
      have := hS a
      have := sorted_len hz
      simp
      omega
    · cases e
  | cut a s b t m =>
    simp only [Ln.due, cutO] at e
    split at e
    · split at e <;> cases e
      have := hS a
      unfold chg
      simp only [List.length_append, List.length_take, List.length_drop, List.length_singleton]
      omega
    · cases e
  | drop a s p =>
    simp only [Ln.due, dropO] at e
    split at e <;> cases e
    have := hS a
    unfold wo
    simp only [List.length_append, List.length_take, List.length_drop]
    omega
  | wide a w =>
    simp only [Ln.due, wideO] at e
    split at e <;> cases e
    have := hS a
    simp only [List.length_append, List.length_take, List.length_drop, List.length_singleton]
    omega
  | spread a l =>
    simp only [Ln.due, spreadO] at e
    split at e <;> cases e
    exact ok
  | shape a l =>
    simp only [Ln.due, shapeO] at e
    split at e <;> cases e
    exact ok
theorem line_is (ln : Ln) (S : List (List Int)) (at_ : Nat) (G : DV) (h : HP) (hS : S.length = at_) (h4 : ∀ a, (S.getD a []).length ≤ 4) (sm : ∀ a, small (S.getD a [])) (hr : ∀ r ∈ ln.refs, r < at_) (n0 : 0 ≤ ln.num) (n1 : ln.num < 1000003) (ok : ln.ok) :
    f_line_sides [ln.dv, .int (at_ : Int), .lst (S.map tp), G] h = lineR (ln.due S) at_ h := by
  have rd := f_read_by_is ln h
  have nb := f_number_of_is ln h
  have dl := due_len h4 ln ok
  have l9 : ∀ a, (S.getD a []).length ≤ 900 := fun a => Nat.le_trans (h4 a) (by decide)
  cases ln with
  | one d a => exact line_core _ _ S at_ G [a] 0 _ _ _ f_fit_met h (by simp) (by simp) rd (by simp) hr hS nb (by decide) (by decide) rfl rfl (f_fit_met_is _ (S.getD a []) [] h (l9 a) (by simp)) dl
  | both d a b => exact line_core _ _ S at_ G [a, b] 0 _ _ _ f_fit_met h (by simp) (by simp) rd (by simp) hr hS nb (by decide) (by decide) rfl rfl (f_fit_met_is _ (S.getD a []) [S.getD b []] h (l9 a) (fun x hx => by rw [List.mem_singleton.mp hx]; exact l9 b)) dl
  | wh a b c => exact line_core _ _ S at_ G [a, b, c] 0 _ _ _ f_fit_met h (by simp) (by simp) rd (by simp) hr hS nb (by decide) (by decide) rfl rfl (f_fit_met_is _ (S.getD a []) [S.getD b [], S.getD c []] h (l9 a) (fun x hx => by
      rcases List.mem_cons.mp hx with y | y
      · rw [y]; exact l9 b
      · rw [List.mem_singleton.mp y]; exact l9 c)) dl
  | shift a s m n => exact line_core _ _ S at_ G [a] n _ _ _ f_fit_along h (by simp) (by simp) rd (by simp) hr hS nb n0 n1 rfl rfl (fit_along_shift a s m n _ h) dl
  | fold d a s => exact line_core _ _ S at_ G [a] 0 _ _ _ f_fit_fold h (by simp) (by simp) rd (by simp) hr hS nb (by decide) (by decide) rfl rfl (fit_fold_is d a s _ (l9 a) h ok) dl
  | run d a s => exact line_core _ _ S at_ G [a] 0 _ _ _ f_fit_along h (by simp) (by simp) rd (by simp) hr hS nb (by decide) (by decide) rfl rfl (fit_along_run d a s _ h) dl
  | pick a s b => exact line_core _ _ S at_ G [a, b] 0 _ _ _ f_fit_pick h (by simp) (by simp) rd (by simp) hr hS nb (by decide) (by decide) rfl rfl (fit_pick_is a b s _ _ (l9 a) (l9 b) h) dl
  | join a b s => exact line_core _ _ S at_ G [a, b] 0 _ _ _ f_fit_join h (by simp) (by simp) rd (by simp) hr hS nb (by decide) (by decide) rfl rfl (fit_join_is a b s _ _ (l9 a) (l9 b) h) dl
  | even l n => exact line_even l n S at_ G h n0 n1 ok
  | turn a o => exact line_core _ _ S at_ G [a] 0 _ _ _ f_fit_turn h (by simp) (by simp) rd (by simp) hr hS nb (by decide) (by decide) rfl rfl (fit_turn_is a o _ ok (l9 a) h) dl
  | cut a s b t m => exact line_core _ _ S at_ G [a] 0 _ _ _ f_fit_cut h (by simp) (by simp) rd (by simp) hr hS nb (by decide) (by decide) rfl rfl (fit_cut_is a s b t m _ (l9 a) ok.1 ok.2 h) dl
  | drop a s p => exact line_core _ _ S at_ G [a] 0 _ _ _ f_fit_drop h (by simp) (by simp) rd (by simp) hr hS nb (by decide) (by decide) rfl rfl (fit_drop_is a s p _ (l9 a) h) dl
  | wide a w => exact line_core _ _ S at_ G [a] 0 _ _ _ f_fit_wide h (by simp) (by simp) rd (by simp) hr hS nb (by decide) (by decide) rfl rfl (fit_wide_is a w _ (l9 a) h) dl
  | spread a l => exact line_core _ _ S at_ G [a] 0 _ _ _ f_fit_spread h (by simp) (by simp) rd (by simp) hr hS nb (by decide) (by decide) rfl rfl (fit_spread_is a _ l (l9 a) (Nat.le_trans ok (by decide)) h) dl
  | shape a l => exact line_core _ _ S at_ G [a] 0 _ _ _ f_fit_shape h (by simp) (by simp) rd (by simp) hr hS nb (by decide) (by decide) rfl rfl (fit_shape_is a _ l (h4 a) (sm a) ok h) dl
/-- a given's sides -/
def gv (i : Nat) : DV := .tup [.str (Str.ofString "given"), .int (i : Int)]
theorem line_given (i : Nat) (S T : List (List Int)) (at_ : Nat) (h : HP) (hi : i < T.length) (hl : (T.getD i []).length ≤ 4) (q : okSd (T.getD i []) = true) :
    f_line_sides [gv i, .int (at_ : Int), .lst (S.map tp), .lst (T.map tp)] h = .ok (tp (T.getD i [])) h := by
  unfold f_line_sides gv
  rw [fnM_app]
  have hr : f_read_by [.tup [.str (Str.ofString "given"), .int (i : Int)]] h = .ok (.lst []) h := read_c1 _ _ [] (fun _ => .non) h rfl (by decide) fun p hp => by cases hp
  have hn : f_number_of [.tup [.str (Str.ofString "given"), .int (i : Int)]] h = .ok (.int 0) h := by
    unfold f_number_of
    rw [fnM_app]
    simp [m_number_of, List.replicate, getI0]
  have sf := f_sides_fit_is (T.getD i []) (by omega) h
  rw [q] at sf
  have pl := place_loop at_ (.val (.tup [.str (Str.ofString "given"), .int (i : Int)])) (.val (.lst (S.map tp))) (.val (.lst (T.map tp))) h [] (fun r hr => by cases hr)
  rw [List.map_nil] at pl
  have g := getI_nat h (T.map tp) i (d := tp (T.getD i [])) (by
    rw [List.getElem?_map, List.getD_eq_getElem?_getD, List.getElem?_eq_getElem hi]
    rfl)
  have z : (i : Int) < (T.length : Int) := by omega
  generalize T.getD i [] = x at *
  simp [m_line_sides, List.replicate, getI0, getI1, hr, hn, pl, sf, hi, z, g]
/-! ### the sides of all -/
theorem flat_nums (l : List Int) : flatR (tp l) = true := by
  induction l with
  | nil => rfl
  | cons x r ih => exact ih
theorem sides_turn1 (P G ln : DV) (S : List (List Int)) (at_ : Nat) (x : List Int) (h : HP) (hh : h.all flatO = true) (hS : S.length ≤ 900) (e : f_line_sides [ln, .int (at_ : Int), .lst (S.map tp), G] h = .ok (tp x) h) :
    turn (tTup [3, 4]) m_sides_of_b1 [3, 4] (.tup [.int (at_ : Int), ln]) [.val P, .val G, .own (S.map tp), .none, .none] h = .nx [.val P, .val G, .own ((S ++ [x]).map tp), .none, .none] h := by
  have z : S.length < 16777216 := by omega
  have f := flR_ok (d := tp x) (h := h) (by rw [flat_nums, hh]; rfl)
  simp [m_sides_of_b1, e, f, z]
theorem sides_turn2 (P G ln : DV) (S : List (List Int)) (at_ : Nat) (x : Ex) (h : HP) (hh : h.all flatO = true) (hx : flatRs x.l = true) (e : f_line_sides [ln, .int (at_ : Int), .lst (S.map tp), G] h = .exc x h) :
    ∃ e', turn (tTup [3, 4]) m_sides_of_b1 [3, 4] (.tup [.int (at_ : Int), ln]) [.val P, .val G, .own (S.map tp), .none, .none] h = .exc x e' h := by
  have f := flR_exc (x := x) (h := h) (by rw [hx, hh]; rfl)
  simp [m_sides_of_b1, e, f]
/-! ### the program is not empty -/
theorem ok_word (a : String) (h : PyData.strOk (Str.ofString a) = true) {n : Nat} : okd n (sx0 a) := okd_str _ (lay_str _ h)
theorem okd_gv (i : Nat) : okd 1 (gv i) := okd_tup (n := 0) fun d hd => by
  rcases List.mem_cons.mp hd with e | e
  · rw [e]; exact ok_word "given" (by decide +kernel)
  · rw [List.mem_singleton.mp e]; exact okd_int _
def dOk (d : String) : Prop := PyData.strOk (Str.ofString d) = true
def Ln.wd : Ln → Prop
  | .one d _ => dOk d
  | .both d _ _ => dOk d
  | .fold d _ _ => dOk d
  | .run d _ _ => dOk d
  | _ => True
theorem okd_cons {n : Nat} {a : DV} {l : List DV} (ha : okd n a) (hl : ∀ d ∈ l, okd n d) : ∀ d ∈ a :: l, okd n d := fun d hd => by
  rcases List.mem_cons.mp hd with e | e
  · rw [e]; exact ha
  · exact hl d e
theorem okd_no {n : Nat} : ∀ d ∈ ([] : List DV), okd n d := fun d hd => by cases hd
theorem okd_ln (ln : Ln) (w : ln.wd) : okd 2 ln.dv := by
  cases ln with
  | one d a => exact okd_tup (okd_cons (ok_word "one" (by decide +kernel)) (okd_cons (ok_word d w) (okd_cons (okd_int _) okd_no)))
  | both d a b => exact okd_tup (okd_cons (ok_word "both" (by decide +kernel)) (okd_cons (ok_word d w) (okd_cons (okd_int _) (okd_cons (okd_int _) okd_no))))
  | wh a b c => exact okd_tup (okd_cons (ok_word "where" (by decide +kernel)) (okd_cons (okd_int _) (okd_cons (okd_int _) (okd_cons (okd_int _) okd_no))))
  | shift a s m n => exact okd_tup (okd_cons (ok_word "shift" (by decide +kernel)) (okd_cons (okd_int _) (okd_cons (okd_int _) (okd_cons (okd_int _) (okd_cons (okd_int _) okd_no)))))
  | fold d a s => exact okd_tup (okd_cons (ok_word "fold" (by decide +kernel)) (okd_cons (ok_word d w) (okd_cons (okd_int _) (okd_cons (okd_int _) okd_no))))
  | run d a s => exact okd_tup (okd_cons (ok_word "run" (by decide +kernel)) (okd_cons (ok_word d w) (okd_cons (okd_int _) (okd_cons (okd_int _) okd_no))))
  | pick a s b => exact okd_tup (okd_cons (ok_word "pick" (by decide +kernel)) (okd_cons (okd_int _) (okd_cons (okd_int _) (okd_cons (okd_int _) okd_no))))
  | join a b s => exact okd_tup (okd_cons (ok_word "join" (by decide +kernel)) (okd_cons (okd_int _) (okd_cons (okd_int _) (okd_cons (okd_int _) okd_no))))
  | turn a o => exact okd_tup (okd_cons (ok_word "turn" (by decide +kernel)) (okd_cons (okd_int _) (okd_cons (okd_tup (n := 0) (okd_nums o)) okd_no)))
  | cut a s b t m => exact okd_tup (okd_cons (ok_word "cut" (by decide +kernel)) (okd_cons (okd_int _) (okd_cons (okd_int _) (okd_cons (okd_int _) (okd_cons (okd_int _) (okd_cons (okd_int _) okd_no))))))
  | drop a s p => exact okd_tup (okd_cons (ok_word "drop" (by decide +kernel)) (okd_cons (okd_int _) (okd_cons (okd_int _) (okd_cons (okd_int _) okd_no))))
  | wide a w => exact okd_tup (okd_cons (ok_word "wide" (by decide +kernel)) (okd_cons (okd_int _) (okd_cons (okd_int _) okd_no)))
  | spread a l => exact okd_tup (okd_cons (ok_word "spread" (by decide +kernel)) (okd_cons (okd_int _) (okd_cons (okd_tup (n := 0) (okd_nums l)) okd_no)))
  | shape a l => exact okd_tup (okd_cons (ok_word "shape" (by decide +kernel)) (okd_cons (okd_int _) (okd_cons (okd_tup (n := 0) (okd_nums l)) okd_no)))
  | even l n => exact okd_tup (okd_cons (ok_word "even" (by decide +kernel)) (okd_cons (okd_tup (n := 0) (okd_nums l)) (okd_cons (okd_int _) okd_no)))
/-! ### plain mathematics of places -/
def prod : List Int → Int
  | [] => 1
  | x :: r => x * prod r
def suf : List Int → List Int
  | [] => []
  | _ :: r => prod r :: suf r
def ups : List Int → Int → List Int
  | [], _ => []
  | x :: r, st => st :: ups r (st * x)
theorem prod_app (a b : List Int) : prod (a ++ b) = prod a * prod b := by
  induction a with
  | nil => simp [prod]
  | cons x r ih => simp [prod, ih, Int.mul_assoc]
theorem prod_rev (a : List Int) : prod a.reverse = prod a := by
  induction a with
  | nil => rfl
  | cons x r ih => simp [prod, ih, prod_app, Int.mul_comm]
theorem ups_app (a : List Int) (x st : Int) : ups (a ++ [x]) st = ups a st ++ [st * prod a] := by
  induction a generalizing st with
  | nil => simp [ups, prod]
  | cons y r ih => simp [ups, prod, ih, Int.mul_assoc]
theorem ups_suf (l : List Int) : (ups l.reverse 1).reverse = suf l := by
  induction l with
  | nil => rfl
  | cons x r ih => simp [suf, ups_app, ih, prod_rev]
theorem suf_range (l : List Int) : (List.range l.length).map (fun k => prod (l.drop (k + 1))) = suf l := by
  induction l with
  | nil => rfl
  | cons x r ih =>
    rw [List.length_cons, List.range_succ_eq_map, List.map_cons, List.map_map, suf, ← ih]
    rfl
def dig : List Int → Int → List Int
  | [], _ => []
  | x :: r, p => p % x :: dig r (p / x)
def ixs : List Int → Int → List Int
  | [], _ => []
  | x :: r, p => p / prod r % x :: ixs r p
def pos1 (l : List Int) : Prop := ∀ x ∈ l, 0 < x
theorem pos1.tl {x : Int} {r : List Int} (h : pos1 (x :: r)) : pos1 r := fun y hy => h y (List.mem_cons_of_mem _ hy)
theorem pos1.hd {x : Int} {r : List Int} (h : pos1 (x :: r)) : 0 < x := h x List.mem_cons_self
theorem prod_pos {l : List Int} (h : pos1 l) : 0 < prod l := by
  induction l with
  | nil => decide
  | cons x r ih => exact Int.mul_pos h.hd (ih h.tl)
theorem dig_app (a : List Int) (ha : pos1 a) (x p : Int) : dig (a ++ [x]) p = dig a p ++ [p / prod a % x] := by
  induction a generalizing p with
  | nil => simp [dig, prod]
  | cons y r ih =>
    have e : p / y / prod r = p / (y * prod r) := Int.ediv_ediv_of_nonneg (Int.le_of_lt ha.hd)
    simp [dig, prod, ih ha.tl, e]
theorem dig_ixs (l : List Int) (hl : pos1 l) (p : Int) : (dig l.reverse p).reverse = ixs l p := by
  induction l with
  | nil => rfl
  | cons x r ih =>
    have hr : pos1 r.reverse := fun y hy => hl.tl y (List.mem_reverse.mp hy)
    simp [ixs, dig_app _ hr, ih hl.tl, prod_rev]
theorem ixs_range (l : List Int) (p : Int) : (List.range l.length).map (fun k => p / prod (l.drop (k + 1)) % l.getD k 0) = ixs l p := by
  induction l with
  | nil => rfl
  | cons x r ih =>
    rw [List.length_cons, List.range_succ_eq_map, List.map_cons, List.map_map, ixs, ← ih]
    rfl
def horn : List Int → List Int → Int → Int
  | x :: r, a :: t, f => horn r t (f * x + a)
  | _, _, f => f
def wsum : List Int → List Int → Int
  | x :: r, a :: t => a * prod r + wsum r t
  | _, _ => 0
theorem horn_wsum (l m : List Int) (hm : m.length = l.length) (f : Int) : horn l m f = f * prod l + wsum l m := by
  induction l generalizing m f with
  | nil => cases m <;> simp [horn, wsum, prod]
  | cons x r ih =>
    cases m with
    | nil => simp at hm
    | cons a t =>
      rw [horn, wsum, prod, ih t (by simpa using hm)]
      rw [Int.add_mul, Int.mul_assoc, Int.add_assoc]
theorem ixs_len (l : List Int) (p : Int) : (ixs l p).length = l.length := by
  induction l with
  | nil => rfl
  | cons x r ih => simp [ixs, ih]
theorem wsum_ixs (l : List Int) (hl : pos1 l) (p : Int) : wsum l (ixs l p) = p % prod l := by
  induction l with
  | nil => simp [wsum, ixs, prod, Int.emod_one]
  | cons x r ih =>
    rw [ixs, wsum, ih hl.tl, prod]
    have hR := prod_pos hl.tl
    have hx := hl.hd
    generalize prod r = R at hR ⊢
    have e1 : p = R * (p / R) + p % R := (Int.mul_ediv_add_emod p R).symm
    have e2 : p / R = x * (p / R / x) + p / R % x := (Int.mul_ediv_add_emod _ x).symm
    have b1 : 0 ≤ p % R := Int.emod_nonneg _ (by omega)
    have b2 : p % R < R := Int.emod_lt_of_pos _ hR
    have c1 : 0 ≤ p / R % x := Int.emod_nonneg _ (by omega)
    have c2 : p / R % x < x := Int.emod_lt_of_pos _ hx
    have lo : 0 ≤ p / R % x * R + p % R := Int.add_nonneg (Int.mul_nonneg c1 (by omega)) b1
    have hi : p / R % x * R + p % R < x * R := by
      have : (p / R % x + 1) * R ≤ x * R := Int.mul_le_mul_of_nonneg_right (by omega) (by omega)
      rw [Int.add_mul, Int.one_mul] at this
      omega
    have e3 : p = (p / R % x * R + p % R) + (p / R / x) * (x * R) := by
      rw [Int.mul_comm (p / R % x) R, Int.mul_comm (p / R / x), Int.mul_comm x R, Int.mul_assoc, Int.add_right_comm, ← Int.mul_add, Int.add_comm (p / R % x), ← e2]
      exact e1
    conv => rhs; rw [e3]
    rw [Int.add_mul_emod_self_right, Int.emod_eq_of_lt lo hi]
theorem sum_zip (l m : List Int) (hm : m.length = l.length) : (List.zipWith (· * ·) m (suf l)).sum = wsum l m := by
  induction l generalizing m with
  | nil => cases m <;> simp [suf, wsum]
  | cons x r ih =>
    cases m with
    | nil => simp at hm
    | cons a t => simp [suf, wsum, ih t (by simpa using hm)]
theorem wsum_range (l m : List Int) (hm : m.length = l.length) : ((List.range l.length).map (fun k => m.getD k 0 * prod (l.drop (k + 1)))).sum = wsum l m := by
  induction l generalizing m with
  | nil => cases m <;> simp [wsum]
  | cons x r ih =>
    cases m with
    | nil => simp at hm
    | cons a t =>
      rw [List.length_cons, List.range_succ_eq_map, List.map_cons, List.map_map, wsum, ← ih t (by simpa using hm)]
      rfl
theorem foldl_sum {A : Type} (f : A → Int) (l : List A) (s : Int) : l.foldl (fun s k => s + f k) s = s + (l.map f).sum := by
  induction l generalizing s with
  | nil => simp
  | cons x r ih => simp [ih, Int.add_assoc]
theorem prod_le (l : List Int) (hl : ∀ x ∈ l, 0 ≤ x ∧ x ≤ 64) (n : Nat) (hn : l.length ≤ n) : 0 ≤ prod l ∧ prod l ≤ 64 ^ n := by
  induction l generalizing n with
  | nil =>
    refine ⟨by decide, ?_⟩
    show (1 : Int) ≤ _
    have : (0 : Int) < 64 ^ n := Int.pow_pos (by decide)
    omega
  | cons x r ih =>
    obtain ⟨k, rfl⟩ : ∃ k, n = k + 1 := ⟨n - 1, by rw [List.length_cons] at hn; omega⟩
    obtain ⟨a, b⟩ := ih (fun y hy => hl y (List.mem_cons_of_mem _ hy)) k (by rw [List.length_cons] at hn; omega)
    obtain ⟨c, d⟩ := hl x List.mem_cons_self
    refine ⟨Int.mul_nonneg c a, ?_⟩
    rw [Int.pow_succ, prod, Int.mul_comm (64 ^ k)]
    exact Int.mul_le_mul d b a (by decide)
theorem zero_prod {l : List Int} (hl : ∀ x ∈ l, 0 ≤ x) (h : prod l ≠ 0) : pos1 l := by
  induction l with
  | nil => exact fun x hx => by cases hx
  | cons x r ih =>
    intro y hy
    have a : x ≠ 0 := fun e => h (by rw [prod, e, Int.zero_mul])
    have b : prod r ≠ 0 := fun e => h (by rw [prod, e, Int.mul_zero])
    rcases List.mem_cons.mp hy with e | e
    · subst e
      have := hl y List.mem_cons_self
      omega
    · exact ih (fun z hz => hl z (List.mem_cons_of_mem _ hz)) b y e
/-- the law behind its sides -/
theorem foldl_appA {A B : Type} (f : A → B) (l : List A) (s : List B) : l.foldl (fun s k => s ++ [f k]) s = s ++ l.map f := by
  induction l generalizing s with
  | nil => simp
  | cons x r ih => simp [ih]
def midI (l : List Int) : Prop := ∀ x ∈ l, -1000000 ≤ x ∧ x ≤ 1000000
theorem midI.tl {x : Int} {r : List Int} (h : midI (x :: r)) : midI r := fun y hy => h y (List.mem_cons_of_mem _ hy)
theorem midI.hd {x : Int} {r : List Int} (h : midI (x :: r)) : -1000000 ≤ x ∧ x ≤ 1000000 := h x List.mem_cons_self
theorem midI.drop {l : List Int} (h : midI l) (k : Nat) : midI (l.drop k) := fun x hx => h x (List.mem_of_mem_drop hx)
theorem midI.rev {l : List Int} (h : midI l) : midI l.reverse := fun x hx => h x (List.mem_reverse.mp hx)
/-- the place of the index of a place -/
theorem horn_ixs (l : List Int) (hl : pos1 l) (p : Int) (h0 : 0 ≤ p) (h1 : p < prod l) : horn l (ixs l p) 0 = p := by
  rw [horn_wsum _ _ (ixs_len l p), Int.zero_mul, Int.zero_add, wsum_ixs l hl p, Int.emod_eq_of_lt h0 h1]
/-! ### a tuple or a list of numbers -/
def sq (b : Bool) (l : List Int) : DV := if b then .tup (nums l) else .lst (nums l)
@[simp] theorem sq_it (b : Bool) (l : List Int) (h : HP) : itS (sq b l) h = .ok (nums l) h := by cases b <;> rfl
@[simp] theorem sq_len (b : Bool) (l : List Int) (h : HP) : vLen (sq b l) h = .ok (.int l.length) h := by cases b <;> simp [sq]
@[simp] theorem sq_tup (b : Bool) (l : List Int) (h : HP) : vTup (sq b l) h = .ok (.tup (nums l)) h := by cases b <;> rfl
theorem sq_true (l : List Int) : sq true l = .tup (nums l) := rfl
theorem sq_false (l : List Int) : sq false l = .lst (nums l) := rfl
/-! ### cells_in, sides_fit, place_at -/
theorem cells_go : ∀ (l : List Int), midI l → ∀ (S : Slot) (a : Int) (h : HP), forL (tName 2) m_cells_in_b1 [2] (nums l) [S, .val (.int a), .none] h = .nx [S, .val (.int (a * prod l)), .none] h
  | [], _, S, a, h => by simp [prod]
  | x :: r, hb, S, a, h => by
    have mo := mulOk_r a x (by have := hb.hd; omega) (by have := hb.hd; omega)
    have t : turn (tName 2) m_cells_in_b1 [2] (.int x) [S, .val (.int a), .none] h = .nx [S, .val (.int (a * x)), .none] h := by simp [m_cells_in_b1, mo]
    rw [nums_cons, forL_cons, t, lR_nx, cells_go r hb.tl S (a * x) h, prod, Int.mul_assoc]
theorem cellsG (b : Bool) (l : List Int) (hb : midI l) (h : HP) : f_cells_in [sq b l] h = .ok (.int (prod l)) h := by
  unfold f_cells_in
  rw [fnM_app]
  have e := cells_go l hb (.val (sq b l)) 1 h
  simp [m_cells_in, List.replicate, e]
def in64 (l : List Int) : Bool := l.all fun x => decide (0 ≤ x) && decide (x ≤ 64)
theorem in64_iff {l : List Int} : in64 l = true ↔ ∀ x ∈ l, 0 ≤ x ∧ x ≤ 64 := by
  unfold in64
  rw [List.all_eq_true]
  constructor
  · intro a x hx
    have := a x hx
    simpa using this
  · intro a x hx
    have := a x hx
    simpa using this
theorem in64_mid {l : List Int} (h : in64 l = true) : midI l := fun x hx => by
  have := in64_iff.mp h x hx
  omega
def okS (l : List Int) : Bool := decide (l.length ≤ 4) && (in64 l && decide (prod l ≤ 4096))
theorem fit_go (S : Slot) (h : HP) : ∀ (l : List Int), forL (tName 1) m_sides_fit_b1 [1] (nums l) [S, .none] h = if in64 l = true then .nx [S, .none] h else .rt (.bl false) h
  | [] => rfl
  | x :: r => by
    have ih := fit_go S h r
    by_cases z : 0 ≤ x ∧ x ≤ 64
    · have t : turn (tName 1) m_sides_fit_b1 [1] (.int x) [S, .none] h = .nx [S, .none] h := by simp [m_sides_fit_b1, z.1, z.2]
      rw [nums_cons, forL_cons, t, lR_nx, ih]
      simp [in64, z.1, z.2]
    · have t : turn (tName 1) m_sides_fit_b1 [1] (.int x) [S, .none] h = .rt (.bl false) h := by
        by_cases y : 0 ≤ x
        · simp [m_sides_fit_b1, y, show ¬ x ≤ 64 from fun w => z ⟨y, w⟩]
        · simp [m_sides_fit_b1, y]
      rw [nums_cons, forL_cons, t]
      have : (decide (0 ≤ x) && decide (x ≤ 64)) = false := by
        rw [Bool.eq_false_iff]
        simpa using fun a b => z ⟨a, b⟩
      simp [in64, this]
theorem fitG (b : Bool) (l : List Int) (h : HP) : f_sides_fit [sq b l] h = .ok (.bl (okS l)) h := by
  unfold f_sides_fit okS
  rw [fnM_app]
  have e := fit_go (.val (sq b l)) h l
  by_cases z : l.length ≤ 4
  · have z2 : ¬ (4 : Int) < (l.length : Int) := by omega
    by_cases y : in64 l = true
    · have c := cellsG b l (in64_mid y) h
      rw [if_pos y] at e
      simp only [y]
      simp [m_sides_fit, List.replicate, z, z2, e, c]
    · rw [if_neg y] at e
      rw [Bool.not_eq_true] at y
      simp only [y]
      simp [m_sides_fit, List.replicate, z, z2, e]
  · have z2 : (4 : Int) < (l.length : Int) := by omega
    simp [m_sides_fit, List.replicate, z, z2]
theorem horn_go : ∀ (l m : List Int), midI l → ∀ (S U : Slot) (f : Int) (h : HP), forL (tTup [3, 4]) m_place_at_b1 [3, 4] (zipD (nums l) (nums m)) [S, U, .val (.int f), .none, .none] h = .nx [S, U, .val (.int (horn l m f)), .none, .none] h
  | [], m, _, S, U, f, h => by simp [horn]
  | x :: r, [], _, S, U, f, h => by simp [horn]
  | x :: r, a :: t, hb, S, U, f, h => by
    have mo := mulOk_r f x (by have := hb.hd; omega) (by have := hb.hd; omega)
    have u : turn (tTup [3, 4]) m_place_at_b1 [3, 4] (.tup [.int x, .int a]) [S, U, .val (.int f), .none, .none] h = .nx [S, U, .val (.int (f * x + a)), .none, .none] h := by simp [m_place_at_b1, mo]
    rw [nums_cons, nums_cons, zipD_cons, forL_cons, u, lR_nx, horn_go r t hb.tl S U (f * x + a) h, horn]
theorem itZM_sq (b : Bool) (l : List DV) (m : List Int) (h : HP) : itZM (.tup l) (sq b m) h = .ok (zipD l (nums m)) h := by cases b <;> rfl
theorem placeG (b : Bool) (l m : List Int) (hb : midI l) (h : HP) : f_place_at [.tup (nums l), sq b m] h = .ok (.int (horn l m 0)) h := by
  unfold f_place_at
  rw [fnM_app]
  have e := horn_go l m hb (.val (.tup (nums l))) (.val (sq b m)) 0 h
  simp [m_place_at, List.replicate, itZM_sq, e]
/-! ### Table(sides, cells) -/
def cellOk (x : Int) : Bool := decide (0 ≤ x) && decide (x < 1000003)
theorem tab_turn (S A B : Slot) (x : Int) (h : HP) : (cellOk x = true ∧ turn (tName 3) m_Table_init__b1 [3] (.int x) [S, A, B, .none] h = .nx [S, A, B, .none] h) ∨ (cellOk x = false ∧ ∃ e, turn (tName 3) m_Table_init__b1 [3] (.int x) [S, A, B, .none] h = .exc ⟨cTab, []⟩ e h) := by
  unfold cellOk
  by_cases y : 0 ≤ x <;> by_cases z : x < 1000003
  · left
    simp [m_Table_init__b1, y, z]
  · right
    exact ⟨by simp [z], _, by simp [m_Table_init__b1, y, z, sRaise0, cTab]; rfl⟩
  · right
    exact ⟨by simp [y], _, by simp [m_Table_init__b1, y, sRaise0, cTab]; rfl⟩
  · right
    exact ⟨by simp [y], _, by simp [m_Table_init__b1, y, sRaise0, cTab]; rfl⟩
theorem tab_go (S A B : Slot) (h : HP) : ∀ (c : List Int), (c.all cellOk = true ∧ forL (tName 3) m_Table_init__b1 [3] (nums c) [S, A, B, .none] h = .nx [S, A, B, .none] h) ∨ (c.all cellOk = false ∧ ∃ e, forL (tName 3) m_Table_init__b1 [3] (nums c) [S, A, B, .none] h = .exc ⟨cTab, []⟩ e h)
  | [] => .inl ⟨rfl, rfl⟩
  | x :: r => by
    rw [nums_cons, forL_cons, List.all_cons]
    rcases tab_turn S A B x h with ⟨z, t⟩ | ⟨z, e, t⟩
    · rw [t, lR_nx, z, Bool.true_and]
      exact tab_go S A B h r
    · rw [t, z, Bool.false_and]
      exact .inr ⟨rfl, e, rfl⟩
def tabOk (l c : List Int) : Bool := okS l && (decide ((c.length : Int) = prod l) && c.all cellOk)
/-- cells: a list, wherever it stands -/
theorem tableG (b : Bool) (l : List Int) (o : DV) (c : List Int) (h : HP) (ho : asL h o = some (nums c)) (ov : vLen o h = .ok (.int c.length) h) (ol : lLst o h = .ok (nums c) h) : i_Table [sq b l, o] h = if tabOk l c = true then .ok [.tup (nums l), .ref h.length] (h ++ [HObj.lst (nums c)]) else .exc ⟨cTab, []⟩ h := by
  unfold i_Table tabOk
  rw [fnI_app]
  have f := fitG b l h
  have ln : lenX h o = (nums c).length := lenX_of ho
  have fx := forX_inv (t := tName 3) (b := m_Table_init__b1) (fg := [3]) (o := o) (l := nums c) (fun e h' => e = [.exn ⟨0, []⟩, .val (sq b l), .val o, .none] ∧ h' = h) (fun e h' q => by rw [q.2]; exact ho) (fun d e h' hd q e' h'' t => by
    obtain ⟨q1, q2⟩ := q
    subst q1 q2
    obtain ⟨x, _, ex⟩ := List.mem_map.mp hd
    subst ex
    rcases tab_turn (.exn ⟨0, []⟩) (.val (sq b l)) (.val o) x h' with ⟨_, t2⟩ | ⟨_, e2, t2⟩
    · rw [t2] at t
      cases t
      exact ⟨rfl, rfl⟩
    · rw [t2] at t
      cases t) [.exn ⟨0, []⟩, .val (sq b l), .val o, .none] h ⟨rfl, rfl⟩
  rw [nums_len] at fx ln
  by_cases z : okS l = true
  · have cl := cellsG b l (in64_mid (by
      unfold okS at z
      simp only [Bool.and_eq_true] at z
      exact z.2.1)) h
    rw [z] at f ⊢
    by_cases y : (c.length : Int) = prod l
    · rw [decide_eq_true y]
      rcases tab_go (.exn ⟨0, []⟩) (.val (sq b l)) (.val o) h c with ⟨w, t⟩ | ⟨w, e, t⟩
      · rw [w]
        rw [t] at fx
        simp [m_Table_init_, List.replicate, f, cl, ov, ol, y, ln, fx]
      · rw [w]
        rw [t] at fx
        simp [m_Table_init_, List.replicate, f, cl, ov, y, ln, fx]
    · rw [decide_eq_false y]
      simp [m_Table_init_, List.replicate, f, cl, ov, y, sRaise0, cTab]
  · rw [Bool.not_eq_true] at z
    rw [z] at f ⊢
    simp [m_Table_init_, List.replicate, f, sRaise0, cTab]
/-! ### the law's cells, index -/
theorem lcells_go : ∀ (l : List Int), midI l → ∀ (S : Slot) (a : Int) (h : HP), forL (tName 2) m_law_cells_b1 [2] (nums l) [S, .val (.int a), .none] h = .nx [S, .val (.int (a * prod l)), .none] h
  | [], _, S, a, h => by simp [prod]
  | x :: r, hb, S, a, h => by
    have mo := mulOk_r a x (by have := hb.hd; omega) (by have := hb.hd; omega)
    have t : turn (tName 2) m_law_cells_b1 [2] (.int x) [S, .val (.int a), .none] h = .nx [S, .val (.int (a * x)), .none] h := by simp [m_law_cells_b1, mo]
    rw [nums_cons, forL_cons, t, lR_nx, lcells_go r hb.tl S (a * x) h, prod, Int.mul_assoc]
theorem lcellsG (b : Bool) (l : List Int) (hb : midI l) (h : HP) : f_law_cells [sq b l] h = .ok (.int (prod l)) h := by
  unfold f_law_cells
  rw [fnM_app]
  have e := lcells_go l hb (.val (sq b l)) 1 h
  simp [m_law_cells, List.replicate, e]
/-! ### the law's index -/
theorem lindexG (l : List Int) (hl : midI l) (hp : pos1 l) (hn : l.length ≤ 1000) (hb : ∀ k, prod (l.drop k) < 1073741824) (p : Int) (h : HP) : f_law_index [.tup (nums l), .int p] h = .ok (.tup (nums (ixs l p))) h := by
  unfold f_law_index
  rw [fnM_app]
  have e := forL_fold (A := Nat) (S := List Int) (t := tName 3) (fg := [3, 4]) (b := m_law_index_b1) (h := h)
    (fun k => .int (k : Int)) (fun s => [.val (.tup (nums l)), .val (.int p), .val (.tup (nums s)), .none, .none]) (fun s k => s ++ [p / prod (l.drop (k + 1)) % l.getD k 0])
    (fun s ks => s.length + ks.length ≤ 1000 ∧ ∀ k ∈ ks, k < l.length) (List.range l.length) [] ⟨by simpa using hn, fun k hk => List.mem_range.mp hk⟩ (fun s k ks ⟨h1, h2⟩ => by
      have hk := h2 k List.mem_cons_self
      rw [List.length_cons] at h1
      have c := cut_from (nums l) (k + 1)
      have d : f_law_cells [.tup (nums (l.drop (k + 1)))] h = _ := lcellsG true (l.drop (k + 1)) (hl.drop _) h
      have pz : 0 < prod (l.drop (k + 1)) := prod_pos fun x hx => hp x (List.mem_of_mem_drop hx)
      have pb := hb (k + 1)
      have g := getI_nat h (nums l) k (nums_at hk)
      have xp : 0 < l.getD k 0 := by
        rw [List.getD_eq_getElem?_getD, List.getElem?_eq_getElem hk]
        exact hp _ (List.getElem_mem hk)
      have z : s.length + 1 ≤ 16777216 := by omega
      simp only [Int.natCast_add, Int.natCast_one] at c
      refine ⟨⟨by simp; omega, fun j hj => h2 j (List.mem_cons_of_mem _ hj)⟩, ?_⟩
      simp only [List.getD_eq_getElem?_getD] at g xp
      simp [m_law_index_b1, c, d, pz, pb, g, xp, z])
  have r := ixs_range l p
  rw [foldl_appA, r] at e
  simp only [List.nil_append, nums_nil] at e
  have z : l.length ≤ 16777216 := by omega
  simp [m_law_index, List.replicate, z, rng_map, e]
theorem prod_drop_le {l : List Int} (h : in64 l = true) (hn : l.length ≤ 4) (k : Nat) : prod (l.drop k) < 1073741824 := by
  have a := in64_iff.mp h
  have b := (prod_le (l.drop k) (fun x hx => a x (List.mem_of_mem_drop hx)) 4 (by rw [List.length_drop]; omega)).2
  have c : (64 : Int) ^ 4 = 16777216 := by decide
  omega
/-! ### places within sides -/
theorem foldl_prod (l : List Int) (a : Int) : l.foldl (fun a b => a * b) a = a * prod l := by
  induction l generalizing a with
  | nil => simp [prod]
  | cons x r ih => rw [List.foldl_cons, ih, prod, Int.mul_assoc]
theorem prodI_eq (l : List Int) : prodI l = prod l := by
  unfold prodI
  rw [foldl_prod, Int.one_mul]
theorem okSd_eq (l : List Int) : okSd l = okS l := by
  unfold okSd okS in64
  rw [prodI_eq, Bool.and_assoc]
def inB : List Int → List Int → Prop
  | [], [] => True
  | x :: l, a :: m => (0 ≤ a ∧ a < x) ∧ inB l m
  | _, _ => False
theorem inB_len : ∀ {l m : List Int}, inB l m → m.length = l.length
  | [], [], _ => rfl
  | _ :: l, _ :: m, h => by
    rw [List.length_cons, List.length_cons, inB_len h.2]
  | [], _ :: _, h => by cases h
  | _ :: _, [], h => by cases h
theorem inB_app : ∀ {l m l2 m2 : List Int}, inB l m → inB l2 m2 → inB (l ++ l2) (m ++ m2)
  | [], [], _, _, _, h => h
  | _ :: l, _ :: m, _, _, h, h2 => ⟨h.1, inB_app h.2 h2⟩
  | [], _ :: _, _, _, h, _ => by cases h
  | _ :: _, [], _, _, h, _ => by cases h
theorem inB_take : ∀ (k : Nat) {l m : List Int}, inB l m → inB (l.take k) (m.take k)
  | 0, _, _, _ => trivial
  | k + 1, [], [], h => trivial
  | k + 1, _ :: l, _ :: m, h => ⟨h.1, inB_take k h.2⟩
  | _ + 1, [], _ :: _, h => by cases h
  | _ + 1, _ :: _, [], h => by cases h
theorem inB_drop : ∀ (k : Nat) {l m : List Int}, inB l m → inB (l.drop k) (m.drop k)
  | 0, _, _, h => h
  | k + 1, [], [], h => trivial
  | k + 1, _ :: l, _ :: m, h => inB_drop k h.2
  | _ + 1, [], _ :: _, h => by cases h
  | _ + 1, _ :: _, [], h => by cases h
theorem inB_at : ∀ {l m : List Int} (k : Nat), inB l m → k < l.length → 0 ≤ m.getD k 0 ∧ m.getD k 0 < l.getD k 0
  | _ :: _, _ :: _, 0, h, _ => h.1
  | _ :: l, _ :: m, k + 1, h, hk => inB_at (l := l) (m := m) k h.2 (by simpa using hk)
  | [], _, _, _, hk => by cases hk
  | _ :: _, [], _, h, _ => by cases h
theorem inB_ixs (l : List Int) (hl : pos1 l) (p : Int) : inB l (ixs l p) := by
  induction l with
  | nil => trivial
  | cons x r ih => exact ⟨⟨Int.emod_nonneg _ (by have := hl.hd; omega), Int.emod_lt_of_pos _ hl.hd⟩, ih hl.tl⟩
theorem inB_pos : ∀ {l m : List Int}, inB l m → pos1 l
  | [], [], _ => fun x hx => by cases hx
  | x :: l, a :: m, h => fun y hy => by
    rcases List.mem_cons.mp hy with e | e
    · subst e
      have := h.1
      omega
    · exact inB_pos h.2 y e
  | [], _ :: _, h => by cases h
  | _ :: _, [], h => by cases h
theorem inB_wsum : ∀ {l m : List Int}, inB l m → 0 ≤ wsum l m ∧ wsum l m < prod l
  | [], [], _ => by simp [wsum, prod]
  | x :: l, a :: m, h => by
    obtain ⟨i1, i2⟩ := inB_wsum h.2
    obtain ⟨a0, a1⟩ := h.1
    have p := prod_pos (inB_pos h.2)
    rw [wsum, prod]
    have q1 : 0 ≤ a * prod l := Int.mul_nonneg a0 (by omega)
    have q2 : (a + 1) * prod l ≤ x * prod l := Int.mul_le_mul_of_nonneg_right (by omega) (by omega)
    rw [Int.add_mul, Int.one_mul] at q2
    omega
  | [], _ :: _, h => by cases h
  | _ :: _, [], h => by cases h
theorem inB_horn {l m : List Int} (h : inB l m) : horn l m 0 = wsum l m := by
  rw [horn_wsum l m (inB_len h), Int.zero_mul, Int.zero_add]
/-- the cell at an index -/
def at0 (l c m : List Int) : Int := c.getD (wsum l m).toNat 0
theorem take_get_drop (l : List Int) (k : Nat) (hk : k < l.length) : l.take k ++ [l.getD k 0] ++ l.drop (k + 1) = l := by
  rw [List.append_assoc, List.singleton_append, List.getD_eq_getElem?_getD, List.getElem?_eq_getElem hk, Option.getD_some, List.getElem_cons_drop, List.take_append_drop]
theorem chg_self (l : List Int) (k : Nat) (hk : k < l.length) : chg l k (l.getD k 0) = l := take_get_drop l k hk
theorem inB_one {x a : Int} (h0 : 0 ≤ a) (h1 : a < x) : inB [x] [a] := ⟨⟨h0, h1⟩, trivial⟩
theorem take_wo (l : List Int) (k : Nat) (hk : k ≤ l.length) : (wo l k).take k = l.take k := by
  unfold wo
  rw [List.take_append_of_le_length (by simp; omega), List.take_take, Nat.min_self]
theorem drop_wo (l : List Int) (k : Nat) (hk : k ≤ l.length) : (wo l k).drop k = l.drop (k + 1) := by
  unfold wo
  rw [List.drop_append_of_le_length (by simp; omega), List.drop_take, Nat.sub_self, List.take_zero, List.nil_append]
theorem inB_ins {l m : List Int} {k : Nat} {a : Int} (hk : k < l.length) (h : inB (wo l k) m) (a0 : 0 ≤ a) (a1 : a < l.getD k 0) : inB l (m.take k ++ [a] ++ m.drop k) := by
  have h1 := inB_take k h
  have h2 := inB_drop k h
  rw [take_wo l k (by omega)] at h1
  rw [drop_wo l k (by omega)] at h2
  have := inB_app (inB_app h1 (inB_one a0 a1)) h2
  rwa [take_get_drop l k hk] at this
theorem inB_wo {l m : List Int} (k : Nat) (h : inB l m) : inB (wo l k) (wo m k) := inB_app (inB_take k h) (inB_drop (k + 1) h)
theorem inB_chg {l m : List Int} {k : Nat} {a y : Int} (h : inB l m) (a0 : 0 ≤ a) (a1 : a < y) : inB (chg l k y) (chg m k a) := inB_app (inB_app (inB_take k h) (inB_one a0 a1)) (inB_drop (k + 1) h)
theorem take_chg (l : List Int) (k : Nat) (x : Int) (hk : k ≤ l.length) : (chg l k x).take k = l.take k := by
  unfold chg
  rw [List.append_assoc, List.take_append_of_le_length (by simp; omega), List.take_take, Nat.min_self]
theorem drop_chg (l : List Int) (k : Nat) (x : Int) (hk : k < l.length) : (chg l k x).drop (k + 1) = l.drop (k + 1) := by
  unfold chg
  have e : k + 1 = (l.take k ++ [x]).length := by simp; omega
  have q : (l.take k ++ [x] ++ l.drop (k + 1)).drop (l.take k ++ [x]).length = l.drop (k + 1) := List.drop_left
  rw [← e] at q
  exact q
theorem chg_chg (l : List Int) (k : Nat) (x y : Int) (hk : k < l.length) : chg (chg l k x) k y = chg l k y := by
  unfold chg
  have e1 := take_chg l k x (by omega)
  have e2 := drop_chg l k x hk
  unfold chg at e1 e2
  rw [e1, e2]
theorem chg_len (l : List Int) (k : Nat) (x : Int) (hk : k < l.length) : (chg l k x).length = l.length := by
  unfold chg
  simp
  omega
theorem chg_get (l : List Int) (k : Nat) (x : Int) (hk : k < l.length) : (chg l k x).getD k 0 = x := by
  unfold chg
  rw [List.getD_eq_getElem?_getD, List.append_assoc, List.getElem?_append_right (by simp; omega)]
  simp
  rw [show k - min k l.length = 0 by omega]
  rfl
theorem wo_len (l : List Int) (k : Nat) (hk : k < l.length) : (wo l k).length = l.length - 1 := by
  unfold wo
  simp
  omega
/-! ### tables -/
theorem vEq_lit (h : HP) (a b : Str) (v : Bool) (q : eqD (.str a) (.str b) = some v) : vEq (.str a) (.str b) h = .ok (.bl v) h := by
  unfold vEq
  rw [q]
  rfl
@[simp] theorem vEq_bl (h : HP) (a b : Bool) : vEq (.bl a) (.bl b) h = .ok (.bl (a == b)) h := by
  have e : eqD (.bl a) (.bl b) = some (a == b) := rfl
  unfold vEq
  rw [e]
  rfl
abbrev tdv (l : List Int) (p : Nat) : DV := .obj cT [.tup (nums l), .ref p]
theorem fld_s (l : List Int) (p : Nat) (h : HP) : vFld fl_sides (tdv l p) h = .ok (.tup (nums l)) h := vFld_obj fl_sides cT _ h (j := 0) rfl rfl
theorem fld_c (l : List Int) (p : Nat) (h : HP) : vFld fl_cells (tdv l p) h = .ok (.ref p) h := vFld_obj fl_cells cT _ h (j := 1) rfl rfl
theorem mt_c (l : List Int) (p : Nat) (h : HP) : orM (mthO mt_cell h (tdv l p)) = orM (some f_Table_cell) := rfl
def Has (h : HP) (p : Nat) (c : List Int) : Prop := h[p]? = some (HObj.lst (nums c))
theorem asL_has {h : HP} {p : Nat} {c : List Int} (q : Has h p c) : asL h (.ref p) = some (nums c) := asL_ref q
theorem asS_has {h : HP} {p : Nat} {c : List Int} (q : Has h p c) : asS h (.ref p) = some (nums c) := asL_ref q
theorem vLen_has {h : HP} {p : Nat} {c : List Int} (q : Has h p c) : vLen (.ref p) h = .ok (.int c.length) h := by
  show (match asS h (.ref p) with
    | some l => Res.ok (DV.int l.length) h
    | none => Res.bad) = _
  rw [asS_has q]
  simp
theorem vTup_has {h : HP} {p : Nat} {c : List Int} (q : Has h p c) : vTup (.ref p) h = .ok (.tup (nums c)) h := by
  show (match asS h (.ref p) with
    | some l => Res.ok (DV.tup l) h
    | none => Res.bad) = _
  rw [asS_has q]
theorem lLst_has {h : HP} {p : Nat} {c : List Int} (q : Has h p c) : lLst (.ref p) h = .ok (nums c) h := by
  show (match asS h (.ref p) with
    | some l => Res.ok l h
    | none => Res.bad) = _
  rw [asS_has q]
theorem vIdx_has {h : HP} {p : Nat} {c : List Int} (i : Int) (q : Has h p c) : vIdx (.ref p) (.int i) h = getI (nums c) i h := vIdx_ref p i h _ q
theorem isl_has {h : HP} {p : Nat} {c : List Int} (q : Has h p c) : vIsI .list (.ref p) h = .ok (.bl true) h := by
  have e : tyD h (.ref p) = some .list := by
    show (match h[p]? with
      | some (.lst _) => some Ty.list
      | _ => none) = _
    rw [show h[p]? = some (HObj.lst (nums c)) from q]
  have := vIsI_any h .list (.ref p) e
  rw [this]
  rfl
theorem has_app {h : HP} {p : Nat} {c : List Int} (q : Has h p c) (r : List HObj) : Has (h ++ r) p c := by
  unfold Has at *
  rw [List.getElem?_append_left (List.getElem?_eq_some_iff.mp q).1]
  exact q
theorem has_new (h : HP) (c : List Int) : Has (h ++ [HObj.lst (nums c)]) h.length c := by
  unfold Has
  rw [List.getElem?_append_right (Nat.le_refl _), Nat.sub_self]
  rfl
/-- from a list, wherever it stands -/
theorem tab_mk (l c : List Int) (o : DV) (h : HP) (ok : tabOk l c = true) (ho : asL h o = some (nums c)) (ov : vLen o h = .ok (.int c.length) h) (ol : lLst o h = .ok (nums c) h) : i_Table [.tup (nums l), o] h = .ok [.tup (nums l), .ref h.length] (h ++ [HObj.lst (nums c)]) := by
  have := tableG true l o c h ho ov ol
  rw [if_pos ok] at this
  exact this
theorem tab_mkL (l c : List Int) (h : HP) (ok : tabOk l c = true) : i_Table [.tup (nums l), .lst (nums c)] h = .ok [.tup (nums l), .ref h.length] (h ++ [HObj.lst (nums c)]) := tab_mk l c _ h ok rfl (by simp) (by simp)
theorem tab_mkR (l c : List Int) (p : Nat) (h : HP) (ok : tabOk l c = true) (q : Has h p c) : i_Table [.tup (nums l), .ref p] h = .ok [.tup (nums l), .ref h.length] (h ++ [HObj.lst (nums c)]) := tab_mk l c _ h ok (asL_has q) (vLen_has q) (lLst_has q)
theorem tabOk_of {l c : List Int} (h : tabOk l c = true) : okS l = true ∧ (c.length : Int) = prod l ∧ c.all cellOk = true := by
  unfold tabOk at h
  simpa [Bool.and_eq_true] using h
theorem tabOk_mk {l c : List Int} (h1 : okS l = true) (h2 : (c.length : Int) = prod l) (h3 : c.all cellOk = true) : tabOk l c = true := by
  unfold tabOk
  rw [h1, h3, decide_eq_true h2]
  rfl
theorem okS_len {l : List Int} (h : okS l = true) : l.length ≤ 4 := by
  unfold okS at h
  simp only [Bool.and_eq_true, decide_eq_true_eq] at h
  exact h.1
theorem okS_in {l : List Int} (h : okS l = true) : ∀ x ∈ l, 0 ≤ x ∧ x ≤ 64 := by
  unfold okS at h
  simp only [Bool.and_eq_true, decide_eq_true_eq] at h
  exact in64_iff.mp h.2.1
theorem okS_mid {l : List Int} (h : okS l = true) : midI l := fun x hx => by have := okS_in h x hx; omega
theorem okS_prod {l : List Int} (h : okS l = true) : prod l ≤ 4096 := by
  unfold okS at h
  simp only [Bool.and_eq_true, decide_eq_true_eq] at h
  exact h.2.2
theorem okS_nn {l : List Int} (h : okS l = true) : 0 ≤ prod l := (prod_le l (okS_in h) 4 (okS_len h)).1
theorem at0_get {l c m : List Int} (hb : inB l m) (hc : (c.length : Int) = prod l) (h : HP) : getI (nums c) (wsum l m) h = .ok (.int (at0 l c m)) h := by
  obtain ⟨w0, w1⟩ := inB_wsum hb
  obtain ⟨p, ep⟩ := Int.eq_ofNat_of_zero_le w0
  unfold at0
  rw [ep, Int.toNat_natCast]
  exact getI_nat h (nums c) p (nums_at (by omega))
theorem at0_ok {l c m : List Int} (hb : inB l m) (hc : (c.length : Int) = prod l) (ok : c.all cellOk = true) : 0 ≤ at0 l c m ∧ at0 l c m < 1000003 := by
  obtain ⟨w0, w1⟩ := inB_wsum hb
  unfold at0
  have hk : (wsum l m).toNat < c.length := by omega
  have := List.all_eq_true.mp ok (c.getD (wsum l m).toNat 0) (by rw [List.getD_eq_getElem?_getD, List.getElem?_eq_getElem hk]; exact List.getElem_mem hk)
  unfold cellOk at this
  simpa using this
theorem tcell {l c m : List Int} {p : Nat} {h : HP} (s : Bool) (hm : midI l) (hb : inB l m) (hc : (c.length : Int) = prod l) (q : Has h p c) : f_Table_cell [tdv l p, sq s m] h = .ok (.int (at0 l c m)) h := by
  unfold f_Table_cell
  rw [fnM_app]
  have pl : f_place_at [.tup (nums l), sq s m] h = _ := placeG s l m hm h
  rw [inB_horn hb] at pl
  have g := at0_get hb hc h
  have v0 := fld_s l p h
  have v1 := fld_c l p h
  have vi := vIdx_has (wsum l m) q
  rw [g] at vi
  simp [m_Table_cell, List.replicate, v0, v1, pl, vi]
/-! ### an index -/
theorem dig_loop (l : List Int) (hl : ∀ x ∈ l, x ≤ 1000000) (hp : pos1 l) (S : Slot) (acc : List Int) (p : Int) (h : HP) (hn : acc.length + l.length ≤ 1000) : ∃ p', forL (tName 3) m_index_of_b1 [3] (nums l) [S, .val (.int p), .own (nums acc), .none] h = .nx [S, .val (.int p'), .own (nums (acc ++ dig l p)), .none] h := by
  induction l generalizing acc p with
  | nil => exact ⟨p, by simp [forL, dig]⟩
  | cons x r ih =>
    rw [List.length_cons] at hn
    obtain ⟨p', e⟩ := ih (fun y hy => hl y (List.mem_cons_of_mem _ hy)) hp.tl (acc ++ [p % x]) (p / x) (by simp; omega)
    refine ⟨p', ?_⟩
    have z : acc.length < 16777216 := by omega
    have z1 := hp.hd
    have z2 : x < 1073741824 := by have := hl x List.mem_cons_self; omega
    have t : turn (tName 3) m_index_of_b1 [3] (.int x) [S, .val (.int p), .own (nums acc), .none] h = .nx [S, .val (.int (p / x)), .own (nums (acc ++ [p % x])), .none] h := by simp [m_index_of_b1, z, z1, z2]
    rw [nums_cons, forL_cons, t, lR_nx, e]
    simp [dig]
theorem f_index_of_is (l : List Int) (hl : midI l) (hp : pos1 l) (hn : l.length ≤ 1000) (p : Int) (h : HP) : f_index_of [.tup (nums l), .int p] h = .ok (.tup (nums (ixs l p))) h := by
  unfold f_index_of
  rw [fnM_app]
  obtain ⟨p', e⟩ := dig_loop l.reverse (fun y hy => (hl y (List.mem_reverse.mp hy)).2) (fun y hy => hp y (List.mem_reverse.mp hy)) (.val (.tup (nums l))) [] p h (by simp; omega)
  simp only [nums_nil, List.nil_append] at e
  have u := dig_ixs l hp p
  simp [m_index_of, List.replicate, e, u]
/-! ### the last of a list -/
theorem atI_last (l : List DV) (d : DV) : atI (l ++ [d]) (-1) = some d := by
  have e : (-1 + ((l ++ [d]).length : Int)).toNat = l.length := by simp; omega
  unfold atI ixN
  rw [if_neg (by decide), if_pos (by simp; omega)]
  simp only [e]
  simp
theorem getI_last (l : List DV) (d : DV) (h : HP) : getI (l ++ [d]) (-1) h = .ok d h := by
  unfold getI
  rw [atI_last]
  rfl
theorem putAt_last (l : List DV) (x d : DV) : putAt (l ++ [x]) d (.int (-1)) = some (l ++ [d]) := by
  show (match ixN (l ++ [x]).length (-1) with
    | some j => some ((l ++ [x]).set j d)
    | none => none) = _
  have e : (-1 + ((l ++ [x]).length : Int)).toNat = l.length := by simp; omega
  unfold ixN
  rw [if_neg (by decide), if_pos (by simp; omega)]
  simp only [e]
  simp
/-! ### which lines the answer hangs on -/
def bls (l : List Bool) : List DV := l.map DV.bl
theorem bls_len (l : List Bool) : (bls l).length = l.length := List.length_map _
theorem bls_set (l : List Bool) (k : Nat) (b : Bool) : (bls l).set k (.bl b) = bls (l.set k b) := by
  unfold bls
  rw [List.map_set]
theorem bls_at (h : HP) (l : List Bool) (k : Nat) (hk : k < l.length) : getI (bls l) (k : Int) h = .ok (.bl (l.getD k false)) h := getI_nat h _ k (by
  unfold bls
  rw [List.getElem?_map, List.getD_eq_getElem?_getD, List.getElem?_eq_getElem hk]
  rfl)
/-- the lines, each with what it reads -/
def Reads (P : List DV) (R : List (List Nat)) : Prop := P.length = R.length ∧ ∀ (k : Nat) (d : DV) (r : List Nat), P[k]? = some d → R[k]? = some r → r.length ≤ 1000 ∧ (∀ x ∈ r, x < k) ∧ ∀ h, f_read_by [d] h = .ok (.lst (r.map iN)) h
def mark (f : List Bool) (r : List Nat) : List Bool := r.foldl (fun f x => f.set x true) f
def wantT (R : List (List Nat)) (f : List Bool) (k : Nat) : List Bool := if f.getD k false = true then mark f (R.getD k []) else f
def wantL (R : List (List Nat)) (n : Nat) (f : List Bool) : List Bool := ((List.range n).map fun k => n - 1 - k).foldl (wantT R) f
def wantF (R : List (List Nat)) : List Bool := wantL R R.length (List.replicate (R.length - 1) false ++ [true])
theorem mark_len (r : List Nat) (f : List Bool) : (mark f r).length = f.length := by
  unfold mark
  induction r generalizing f with
  | nil => rfl
  | cons x r ih => rw [List.foldl_cons, ih, List.length_set]
theorem wantT_len (R : List (List Nat)) (f : List Bool) (k : Nat) : (wantT R f k).length = f.length := by
  unfold wantT
  split
  · exact mark_len _ _
  · rfl
theorem mark_loop (A C : Slot) (h : HP) : ∀ (r : List Nat) (f : List Bool), (∀ x ∈ r, x < f.length) → forL (tName 3) m_wanted_lines_b1 [3] (r.map iN) [A, .own (bls f), C, .none] h = .nx [A, .own (bls (mark f r)), C, .none] h
  | [], f, _ => rfl
  | x :: r, f, hr => by
    have hx := hr x List.mem_cons_self
    have pa := putAt_nat (bls f) (.bl true) x (by rw [bls_len]; exact hx)
    rw [bls_set] at pa
    have t : turn (tName 3) m_wanted_lines_b1 [3] (iN x) [A, .own (bls f), C, .none] h = .nx [A, .own (bls (f.set x true)), C, .none] h := by simp [m_wanted_lines_b1, iN, pa]
    rw [List.map_cons, forL_cons, t, lR_nx, mark_loop A C h r (f.set x true) fun y hy => by rw [List.length_set]; exact hr y (List.mem_cons_of_mem _ hy)]
    rfl
theorem want_turn (P : List DV) (R : List (List Nat)) (rd : Reads P R) (k : Nat) (hk : k < P.length) (f : List Bool) (hf : f.length = P.length) (h : HP) :
    turn (tName 2) m_wanted_lines_b2 [2, 3] (.int (k : Int)) [.val (.lst P), .own (bls f), .none, .none] h = .nx [.val (.lst P), .own (bls (wantT R f k)), .none, .none] h := by
  have ga := bls_at h f k (by omega)
  have e1 : P[k]? = some P[k] := List.getElem?_eq_getElem hk
  have hk2 : k < R.length := rd.1 ▸ hk
  have e2 : R[k]? = some (R.getD k []) := by
    rw [List.getD_eq_getElem?_getD, List.getElem?_eq_getElem hk2]
    rfl
  obtain ⟨rl, rb, rr⟩ := rd.2 k _ _ e1 e2
  have gp := getI_nat h P k e1
  unfold wantT
  cases b : f.getD k false with
  | false =>
    rw [b] at ga
    simp [m_wanted_lines_b2, ga]
  | true =>
    rw [b] at ga
    have ml := mark_loop (.val (.lst P)) (.val (.int (k : Int))) h (R.getD k []) f (fun x hx => by have := rb x hx; omega)
    have rr := rr h
    generalize R.getD k [] = r at *
    generalize P[k] = d at *
    simp [m_wanted_lines_b2, ga, gp, rr, ml]
theorem want_loop (P : List DV) (R : List (List Nat)) (rd : Reads P R) (h : HP) : ∀ (ks : List Nat) (f : List Bool), (∀ k ∈ ks, k < P.length) → f.length = P.length →
    forL (tName 2) m_wanted_lines_b2 [2, 3] (ks.map fun (k : Nat) => DV.int (k : Int)) [.val (.lst P), .own (bls f), .none, .none] h = .nx [.val (.lst P), .own (bls (ks.foldl (wantT R) f)), .none, .none] h
  | [], f, _, _ => rfl
  | k :: ks, f, hk, hf => by
    rw [List.map_cons, forL_cons, want_turn P R rd k (hk k List.mem_cons_self) f hf h, lR_nx, want_loop P R rd h ks _ (fun j hj => hk j (List.mem_cons_of_mem _ hj)) (by rw [wantT_len]; exact hf)]
    rfl
theorem f_wanted_is (P : List DV) (R : List (List Nat)) (rd : Reads P R) (l0 : 0 < P.length) (l1 : P.length ≤ 1000) (h : HP) : f_wanted_lines [.lst P] h = .ok (.lst (bls (wantF R))) h := by
  unfold f_wanted_lines wantF wantL
  rw [fnM_app, ← rd.1]
  have lm := lMul_one (.bl false) P.length (by omega) h
  have rp : List.replicate P.length (DV.bl false) = List.replicate (P.length - 1) (.bl false) ++ [.bl false] := by
    rw [← List.replicate_succ']
    congr 1
    omega
  have pa := putAt_last (List.replicate (P.length - 1) (DV.bl false)) (.bl false) (.bl true)
  rw [← rp] at pa
  have fb : List.replicate (P.length - 1) (DV.bl false) ++ [DV.bl true] = bls (List.replicate (P.length - 1) false ++ [true]) := by simp [bls]
  rw [fb] at pa
  have e := want_loop P R rd h ((List.range P.length).map fun k => P.length - 1 - k) (List.replicate (P.length - 1) false ++ [true]) (fun k hk => by
    obtain ⟨j, hj, ej⟩ := List.mem_map.mp hk
    have := List.mem_range.mp hj
    omega) (by simp; omega)
  have it := itRR_nat P.length h (by omega)
  have rg : (rng P.length).reverse = ((List.range P.length).map fun k => P.length - 1 - k).map fun (k : Nat) => DV.int (k : Int) := by
    rw [rng_map, ← List.map_reverse, range_rev]
  rw [rg] at it
  generalize ((List.range P.length).map fun k => P.length - 1 - k) = ks at *
  have z : ([DV.bl false].length * P.length) ≤ 16777216 := by simp; omega
  simp [m_wanted_lines, List.replicate_succ, lm, pa, it, e]
/-- what a wanted line reads is wanted -/
theorem mark_keep (r : List Nat) (f : List Bool) (k : Nat) (h : f.getD k false = true) : (mark f r).getD k false = true := by
  unfold mark
  induction r generalizing f with
  | nil => exact h
  | cons x r ih =>
    rw [List.foldl_cons]
    apply ih
    rw [List.getD_eq_getElem?_getD] at h ⊢
    by_cases e : x = k
    · subst e
      by_cases z : x < f.length
      · rw [List.getElem?_set_self z]
        rfl
      · rw [List.getElem?_eq_none (by omega)] at h
        cases h
    · rw [List.getElem?_set_ne e]
      exact h
theorem mark_in (r : List Nat) (f : List Bool) (k : Nat) (hk : k ∈ r) (hl : k < f.length) : (mark f r).getD k false = true := by
  induction r generalizing f with
  | nil => cases hk
  | cons x r ih =>
    show (mark (f.set x true) r).getD k false = true
    rcases List.mem_cons.mp hk with e | e
    · subst e
      apply mark_keep
      rw [List.getD_eq_getElem?_getD, List.getElem?_set_self hl]
      rfl
    · exact ih _ e (by rw [List.length_set]; exact hl)
theorem mark_same (r : List Nat) (f : List Bool) (k : Nat) (hk : k ∉ r) : (mark f r).getD k false = f.getD k false := by
  induction r generalizing f with
  | nil => rfl
  | cons x r ih =>
    show (mark (f.set x true) r).getD k false = _
    rw [ih _ (fun m => hk (List.mem_cons_of_mem _ m)), List.getD_eq_getElem?_getD, List.getD_eq_getElem?_getD, List.getElem?_set_ne (fun e => hk (by rw [e]; exact List.mem_cons_self))]
theorem wantT_keep (R : List (List Nat)) (f : List Bool) (j k : Nat) (h : f.getD k false = true) : (wantT R f j).getD k false = true := by
  unfold wantT
  split
  · exact mark_keep _ _ _ h
  · exact h
theorem want_keep (R : List (List Nat)) : ∀ (ks : List Nat) (f : List Bool) (k : Nat), f.getD k false = true → (ks.foldl (wantT R) f).getD k false = true
  | [], _, _, h => h
  | j :: ks, f, k, h => want_keep R ks _ k (wantT_keep R f j k h)
theorem want_len (R : List (List Nat)) : ∀ (ks : List Nat) (f : List Bool), (ks.foldl (wantT R) f).length = f.length
  | [], _ => rfl
  | j :: ks, f => by rw [List.foldl_cons, want_len R ks, wantT_len]
theorem wantF_len (R : List (List Nat)) (h : 0 < R.length) : (wantF R).length = R.length := by
  unfold wantF wantL
  rw [want_len]
  simp
  omega
theorem wantF_last (R : List (List Nat)) (h : 0 < R.length) : (wantF R).getD (R.length - 1) false = true := by
  unfold wantF wantL
  apply want_keep
  simp
/-- walked from n down: what is marked by a line that is wanted -/
theorem wantL_closed (R : List (List Nat)) (hR : ∀ (k : Nat), ∀ x ∈ R.getD k [], x < k) : ∀ (n : Nat) (f : List Bool), n ≤ f.length → ∀ k, k < n → (wantL R n f).getD k false = true → ∀ x ∈ R.getD k [], (wantL R n f).getD x false = true
  | 0, _, _, _, hk, _, _, _ => by cases hk
  | n + 1, f, hf, k, hk, w, x, hx => by
    have e : wantL R (n + 1) f = wantL R n (wantT R f n) := by
      unfold wantL
      rw [List.range_succ_eq_map, List.map_cons, List.foldl_cons, List.map_map]
      simp only [Nat.add_sub_cancel, Nat.sub_zero]
      congr 1
      apply List.map_congr_left
      intro j _
      simp only [Function.comp_apply]
      omega
    rw [e] at w ⊢
    by_cases z : k = n
    · subst z
      have k1 : (f.getD k false) = true := by
        -- behind k nothing marks k
        have key : ∀ (m : Nat) (g : List Bool), m ≤ k → (wantL R m g).getD k false = g.getD k false := by
          intro m
          induction m with
          | zero => intro g _; rfl
          | succ m ih =>
            intro g hm
            have e2 : wantL R (m + 1) g = wantL R m (wantT R g m) := by
              unfold wantL
              rw [List.range_succ_eq_map, List.map_cons, List.foldl_cons, List.map_map]
              simp only [Nat.add_sub_cancel, Nat.sub_zero]
              congr 1
              apply List.map_congr_left
              intro j _
              simp only [Function.comp_apply]
              omega
            rw [e2, ih _ (by omega)]
            unfold wantT
            split
            · exact mark_same _ _ _ fun mm => by have := hR m k mm; omega
            · rfl
        rw [key k _ (Nat.le_refl _)] at w
        unfold wantT at w
        split at w
        · rename_i q
          exact q
        · exact w
      apply want_keep
      unfold wantT
      rw [if_pos k1]
      exact mark_in _ _ _ hx (by have := hR k x hx; omega)
    · exact wantL_closed R hR n (wantT R f n) (by rw [wantT_len]; omega) k (by omega) w x hx
theorem wantF_closed (R : List (List Nat)) (hR : ∀ (k : Nat), ∀ x ∈ R.getD k [], x < k) (k : Nat) (hk : k < R.length) (w : (wantF R).getD k false = true) : ∀ x ∈ R.getD k [], (wantF R).getD x false = true :=
  wantL_closed R hR R.length _ (by simp; omega) k hk w
/-! ### the sides of all lines, in general -/
theorem flat_hR (ns : List Int) (k : Nat) : (hR ns k).all flatO = true := rfl
theorem sides_pre (A G : DV) (h : HP) (hh : h.all flatO = true) : ∀ (P : List DV) (S D : List (List Int)) (R : List DV), P.length = D.length → S.length + P.length ≤ 900 →
    (∀ (j : Nat) (d : DV) (x : List Int), P[j]? = some d → D[j]? = some x → f_line_sides [d, .int ((S.length + j : Nat) : Int), .lst ((S ++ D.take j).map tp), G] h = .ok (tp x) h) →
    forL (tTup [3, 4]) m_sides_of_b1 [3, 4] (enD S.length (P ++ R)) [.val A, .val G, .own (S.map tp), .none, .none] h = forL (tTup [3, 4]) m_sides_of_b1 [3, 4] (enD (S.length + P.length) R) [.val A, .val G, .own ((S ++ D).map tp), .none, .none] h
  | [], S, D, R, el, _, _ => by
    have : D = [] := by
      cases D with
      | nil => rfl
      | cons _ _ => cases el
    subst this
    simp
  | d :: P, S, D, R, el, hl, hp => by
    cases D with
    | nil => cases el
    | cons x D =>
      rw [List.length_cons] at hl
      have e0 := hp 0 d x rfl rfl
      simp only [List.take_zero, List.append_nil, Nat.add_zero] at e0
      have t := sides_turn1 A G d S S.length x h hh (by omega) e0
      show forL _ _ _ (.tup [.int (S.length : Int), d] :: enD (S.length + 1) (P ++ R)) _ h = _
      rw [forL_cons, t, lR_nx]
      have ih := sides_pre A G h hh P (S ++ [x]) D R (by simpa using el) (by simp; omega) (fun j d' x' h1 h2 => by
        have := hp (j + 1) d' x' (by simpa using h1) (by simpa using h2)
        rw [List.length_append, List.length_singleton, show S.length + 1 + j = S.length + (j + 1) by omega, List.append_assoc, List.singleton_append]
        rw [List.take_succ_cons] at this
        exact this)
      rw [List.length_append, List.length_singleton, List.append_assoc, List.singleton_append] at ih
      rw [ih, List.length_cons, show S.length + 1 + P.length = S.length + (P.length + 1) by omega]
theorem cons_of {P : List DV} (h : 0 < P.length) : ∃ d r, P = d :: r := by
  cases P with
  | nil => cases h
  | cons d r => exact ⟨d, r, rfl⟩
theorem f_sides_ok (P : List DV) (D : List (List Int)) (G : DV) (h : HP) (hh : h.all flatO = true) (q : okD (.lst P) = true) (l0 : 0 < P.length) (l1 : P.length ≤ 40) (el : P.length = D.length)
    (hp : ∀ (j : Nat) (d : DV) (x : List Int), P[j]? = some d → D[j]? = some x → f_line_sides [d, .int (j : Int), .lst ((D.take j).map tp), G] h = .ok (tp x) h) : f_sides_of [.lst P, G] h = .ok (.lst (D.map tp)) h := by
  unfold f_sides_of
  rw [fnM_app]
  have lp := sides_pre (.lst P) G h hh P [] D [] el (by simp; omega) (fun j d x h1 h2 => by
    rw [List.length_nil, Nat.zero_add, List.nil_append]
    exact hp j d x h1 h2)
  have ne : vEq (.lst P) (.lst []) h = .ok (.bl false) h := by
    obtain ⟨d, r, e⟩ := cons_of l0
    rw [e] at q ⊢
    exact vEq_lst_cons h d r q
  rw [List.append_nil, List.nil_append, List.map_nil, List.length_nil] at lp
  have lp2 : forL (tTup [3, 4]) m_sides_of_b1 [3, 4] (enD 0 P) [.val (.lst P), .val G, .own [], .none, .none] h = .nx [.val (.lst P), .val G, .own (D.map tp), .none, .none] h := lp
  have z : ¬ (40 : Int) < (P.length : Int) := by omega
  simp [m_sides_of, List.replicate_succ, ne, z, lp2]
theorem f_sides_bad (P R : List DV) (ln : DV) (D : List (List Int)) (G : DV) (x : Ex) (h : HP) (hh : h.all flatO = true) (fx : flatRs x.l = true) (q : okD (.lst (P ++ ln :: R)) = true) (l1 : P.length + (R.length + 1) ≤ 40) (el : P.length = D.length)
    (hp : ∀ (j : Nat) (d : DV) (x : List Int), P[j]? = some d → D[j]? = some x → f_line_sides [d, .int (j : Int), .lst ((D.take j).map tp), G] h = .ok (tp x) h)
    (hb : f_line_sides [ln, .int (P.length : Int), .lst (D.map tp), G] h = .exc x h) : f_sides_of [.lst (P ++ ln :: R), G] h = .exc x h := by
  unfold f_sides_of
  rw [fnM_app]
  have lp := sides_pre (.lst (P ++ ln :: R)) G h hh P [] D (ln :: R) el (by simp; omega) (fun j d x h1 h2 => by
    rw [List.length_nil, Nat.zero_add, List.nil_append]
    exact hp j d x h1 h2)
  have ne : vEq (.lst (P ++ ln :: R)) (.lst []) h = .ok (.bl false) h := by
    obtain ⟨d, r, e⟩ := cons_of (show 0 < (P ++ ln :: R).length by simp; omega)
    rw [e] at q ⊢
    exact vEq_lst_cons h d r q
  rw [List.nil_append, List.map_nil, List.length_nil, Nat.zero_add] at lp
  obtain ⟨e', t⟩ := sides_turn2 (.lst (P ++ ln :: R)) G ln D P.length x h hh fx hb
  have lp2 : forL (tTup [3, 4]) m_sides_of_b1 [3, 4] (enD 0 (P ++ ln :: R)) [.val (.lst (P ++ ln :: R)), .val G, .own [], .none, .none] h = .exc x e' h := by
    rw [lp]
    show forL _ _ _ (.tup [.int (P.length : Int), ln] :: enD (P.length + 1) R) _ h = _
    rw [forL_cons, t]
    rfl
  have z : ¬ (40 : Int) < ((P ++ ln :: R).length : Int) := by simp; omega
  have z2 : ¬ (40 : Int) < (P.length : Int) + ((R.length : Int) + 1) := by omega
  simp [m_sides_of, List.replicate_succ, ne, z, z2, lp2]
/-! ### programs of givens and a line -/
theorem flat_row {ns : List Int} {h : HP} (r : Row0 ns h) : h.all flatO = true := by
  obtain ⟨k, e⟩ := r
  subst e
  rfl
theorem read_gv (i : Nat) (h : HP) : f_read_by [gv i] h = .ok (.lst []) h := read_c1 _ _ [] (fun _ => .non) h rfl (by decide) fun p hp => by cases hp
theorem okS_small {l : List Int} (h : okS l = true) : small l := okS_in h
/-- the sides of a line that may be -/
theorem line_ok (ln : Ln) (S : List (List Int)) (at_ : Nat) (G : DV) (l : List Int) (h : HP) (hS : S.length = at_) (so : ∀ s ∈ S, okS s = true) (hr : ∀ r ∈ ln.refs, r < at_) (n0 : 0 ≤ ln.num) (n1 : ln.num < 1000003) (ok : ln.ok) (due : ln.due S = some l) (ol : okS l = true) :
    f_line_sides [ln.dv, .int (at_ : Int), .lst (S.map tp), G] h = .ok (tp l) h := by
  have g : ∀ a, okS (S.getD a []) = true := fun a => by
    by_cases z : a < S.length
    · rw [List.getD_eq_getElem?_getD, List.getElem?_eq_getElem z, Option.getD_some]
      exact so _ (List.getElem_mem z)
    · rw [List.getD_eq_getElem?_getD, List.getElem?_eq_none (by omega)]
      rfl
  rw [line_is ln S at_ G h hS (fun a => okS_len (g a)) (fun a => okS_in (g a)) hr n0 n1 ok, due]
  show (if okSd l = true then _ else _) = _
  rw [okSd_eq, if_pos ol]
theorem line_gv (i : Nat) (S T : List (List Int)) (at_ : Nat) (l : List Int) (h : HP) (hi : T[i]? = some l) (ok : okS l = true) : f_line_sides [gv i, .int (at_ : Int), .lst (S.map tp), .lst (T.map tp)] h = .ok (tp l) h := by
  obtain ⟨lt, e⟩ := List.getElem?_eq_some_iff.mp hi
  have ed : T.getD i [] = l := by rw [List.getD_eq_getElem?_getD, hi]; rfl
  have := line_given i S T at_ h lt (by rw [ed]; exact okS_len ok) (by rw [ed, okSd_eq]; exact ok)
  rwa [ed] at this
/-! ### the answer of the plain deeds: a given, and a line on it -/
theorem ans_turn (P : List DV) (R : List (List Nat)) (rd : Reads P R) (S : List (List Int)) (Tt : DV) (W : List Bool) (F : List DV) (k : Nat) (d x : DV) (h h' : HP) (hP : P[k]? = some d) (hS : S.length = P.length) (hW : W.length = P.length) (hF : F.length = k) (hl : P.length ≤ 1000)
    (st : if W.getD k false = true then f_plain_table [d, .tup (nums (S.getD k [])), .lst ((R.getD k []).map fun r => F.getD r .non), Tt] h = .ok x h' else (x = .non ∧ h' = h)) :
    turn (tTup [5, 6]) m_plain_answer_b1 [5, 6, 7] (.tup [.int (k : Int), d]) [.val (.lst P), .val Tt, .val (.lst (S.map fun l => .tup (nums l))), .val (.lst (bls W)), .own F, .none, .none, .none, .none, .none] h =
      .nx [.val (.lst P), .val Tt, .val (.lst (S.map fun l => .tup (nums l))), .val (.lst (bls W)), .own (F ++ [x]), .none, .none, .none, .none, .none] h' := by
  have hk : k < P.length := (List.getElem?_eq_some_iff.mp hP).1
  have ga := bls_at h W k (by omega)
  have z : F.length < 16777216 := by omega
  cases b : W.getD k false with
  | false =>
    rw [b] at ga st
    simp only [Bool.false_eq_true, if_false] at st
    obtain ⟨st, sh⟩ := st
    subst st sh
    simp [m_plain_answer_b1, ga, z]
  | true =>
    rw [b] at ga st
    rw [if_pos rfl] at st
    have hk2 : k < R.length := rd.1 ▸ hk
    have e2 : R[k]? = some (R.getD k []) := by
      rw [List.getD_eq_getElem?_getD, List.getElem?_eq_getElem hk2]
      rfl
    obtain ⟨rl, rb, rr⟩ := rd.2 k _ _ hP e2
    have gs := getI_nat h (S.map fun l => DV.tup (nums l)) k (d := .tup (nums (S.getD k []))) (by
      rw [List.getElem?_map, List.getD_eq_getElem?_getD, List.getElem?_eq_getElem (by omega)]
      rfl)
    have c2 : m_plain_answer_c2 [.val (.lst P), .val Tt, .val (.lst (S.map fun l => .tup (nums l))), .val (.lst (bls W)), .own F, .val (.int (k : Int)), .val d, .none, .none, .none] h = .ok ((R.getD k []).map fun r => F.getD r .non) h := by
      unfold m_plain_answer_c2
      have rr := rr h
      rw [mLc_ints (A := Nat) (l := R.getD k []) iN (fun r => F.getD r .non) ?_ (by omega) fun r hr => ⟨_, rfl, ?_⟩]
      · simp [rr]
      · have lt := rb r hr
        have g := getI_nat h F r (d := F.getD r .non) (by
          rw [List.getD_eq_getElem?_getD, List.getElem?_eq_getElem (by omega)]
          rfl)
        generalize F.getD r .non = y at *
        simp [iN, g]
    generalize (R.getD k []).map (fun r => F.getD r .non) = own at *
    generalize S.getD k [] = s at *
    simp [m_plain_answer_b1, ga, z, c2, gs, st]

theorem ans_c1R (A : Slot) (l : List Int) (p : Nat) (h : HP) : m_plain_answer_c1 [A, .val (.lst [tdv l p]), .none, .none, .none, .none, .none, .none, .none, .none] h = .ok [.tup (nums l)] h := by
  unfold m_plain_answer_c1
  rw [mLc_ints (A := Nat) (l := [p]) (fun p => tdv l p) (fun _ => .tup (nums l)) ?_ (by simp) fun t ht => ⟨_, rfl, ?_⟩]
  · rfl
  · simp
  · have := fld_s l t h
    simp [this]
/-! ### a line's table -/
def tabF (s : List Int) (f : List Int → Int) : List Int := (List.range (prod s).toNat).map fun (p : Nat) => f (ixs s (p : Int))
theorem tabF_pos {s : List Int} (ok : okS s = true) {p : Nat} (hp : p < (prod s).toNat) : pos1 s := zero_prod (fun x hx => (okS_in ok x hx).1) (by omega)
theorem tabF_ok {s : List Int} {f : List Int → Int} (ok : okS s = true) (hf : ∀ m, inB s m → 0 ≤ f m ∧ f m < 1000003) : tabOk s (tabF s f) = true := by
  have nn := okS_nn ok
  refine tabOk_mk ok (by unfold tabF; simp; omega) ?_
  rw [List.all_eq_true]
  intro x hx
  obtain ⟨p, hp, e⟩ := List.mem_map.mp hx
  have hp := List.mem_range.mp hp
  have := hf _ (inB_ixs s (tabF_pos ok hp) p)
  rw [← e]
  unfold cellOk
  rw [decide_eq_true this.1, decide_eq_true this.2]
  rfl
theorem itN_prod {s : List Int} (ok : okS s = true) (h : HP) : itN (.int (prod s)) h = .ok ((List.range (prod s).toNat).map fun (k : Nat) => DV.int (k : Int)) h := by
  have a := okS_nn ok
  have b := okS_prod ok
  rw [itN_int h _ a (by omega), rng_map]
theorem table_coreR (tag : Str) (rest : List DV) (s : List Int) (own : List DV) (Tt : DV) (nm : Str) (i : Nat) (m : List DV → M DV) (f : List Int → Int) (h : HP)
    (hg : vEq (.str tag) (sx0 "given") h = .ok (.bl false) h) (he : vEq (.str tag) (sx0 "even") h = .ok (.bl false) h) (hs : vEq (.str tag) (sx0 "shape") h = .ok (.bl false) h)
    (lk : tab_CELLS.lookup tag = some (.fn nm i)) (fo : fnOf fs_CELLS (.fn i) = some m) (ok : okS s = true)
    (hf : ∀ a, inB s a → m [.tup (.str tag :: rest), .lst own, .tup (nums a)] h = .ok (.int (f a)) h ∧ 0 ≤ f a ∧ f a < 1000003) :
    f_plain_table [.tup (.str tag :: rest), .tup (nums s), .lst own, Tt] h = .ok (tdv s h.length) (h ++ [HObj.lst (nums (tabF s f))]) := by
  unfold f_plain_table
  rw [fnM_app]
  have g0 := getI0 (.str tag) rest h
  have vt := vTab_app tab_CELLS tag h lk
  have ci : f_cells_in [.tup (nums s)] h = .ok (.int (prod s)) h := cellsG true s (okS_mid ok) h
  have it := itN_prod ok h
  have c1 : m_plain_table_c1 [.val (.tup (.str tag :: rest)), .val (.tup (nums s)), .val (.lst own), .val Tt, .val (.fn i), .none] h = .ok (nums (tabF s f)) h := by
    unfold m_plain_table_c1 tabF
    rw [mLc_ints (A := Nat) (l := List.range (prod s).toNat) (fun (k : Nat) => .int (k : Int)) (fun (k : Nat) => .int (f (ixs s (k : Int)))) ?_ (by have := okS_prod ok; simp; omega) fun k hk => ⟨_, rfl, ?_⟩, ← nums_map]
    · simp [ci, it]
    · have hk := List.mem_range.mp hk
      have ps := tabF_pos ok hk
      have io := f_index_of_is s (okS_mid ok) ps (by have := okS_len ok; omega) (k : Int) h
      have hc := (hf _ (inB_ixs s ps (k : Int))).1
      simp [io, fo, orBad_some, hc]
  have tm := tab_mkL s (tabF s f) h (tabF_ok ok fun a ha => (hf a ha).2)
  simp [m_plain_table, List.replicate, g0, hg, he, hs, vt, Te.dv, c1, tm]
theorem table_givenR (l s : List Int) (p : Nat) (own : List DV) (h : HP) : f_plain_table [gv 0, .tup (nums s), .lst own, .lst [tdv l p]] h = .ok (tdv l p) h := by
  unfold f_plain_table gv
  rw [fnM_app]
  simp [m_plain_table, List.replicate, getI0, getI1]
theorem table_shapeR (a : Nat) (s c l : List Int) (p : Nat) (Tt : DV) (h : HP) (ok : tabOk s c = true) (q : Has h p c) : f_plain_table [.tup [sx0 "shape", iN a, .tup (nums s)], .tup (nums s), .lst [tdv l p], Tt] h = .ok (tdv s h.length) (h ++ [HObj.lst (nums c)]) := by
  unfold f_plain_table
  rw [fnM_app]
  have tm := tab_mkR s c p h ok q
  have v1 := fld_c l p h
  simp [m_plain_table, List.replicate, getI0, getI1, v1, tm]
theorem ans_twoR (ln : Ln) (l c due W : List Int) (p : Nat) (h : HP) (hp : Has h p c) (hh : h.all flatO = true) (ok : okS l = true) (okd_ : okS due = true) (hr : ln.refs = [0]) (hn : ln.num = 0) (lo : ln.ok) (lw : ln.wd) (ed : ln.due [l] = some due) (tw : tabOk due W = true)
    (ht : f_plain_table [ln.dv, .tup (nums due), .lst [tdv l p], .lst [tdv l p]] h = .ok (tdv due h.length) (h ++ [HObj.lst (nums W)])) :
    f_plain_answer [.lst [gv 0, ln.dv], .lst [tdv l p]] h = .ok (tdv due (h.length + 1)) (h ++ [HObj.lst (nums W), HObj.lst (nums W)]) := by
  have rd : Reads [gv 0, ln.dv] [[], [0]] := ⟨rfl, fun k d r e1 e2 => by
    match k with
    | 0 =>
      cases e1
      cases e2
      exact ⟨by decide, (fun x (hx : x ∈ []) => nomatch hx), fun h => read_gv 0 h⟩
    | 1 =>
      cases e1
      cases e2
      refine ⟨by decide, fun x hx => by rw [List.mem_singleton.mp hx]; decide, fun h => ?_⟩
      rw [f_read_by_is ln h, hr]
    | n + 2 => cases e1⟩
  have sd : f_sides_of [.lst [gv 0, ln.dv], .lst [tp l]] h = .ok (.lst [tp l, tp due]) h := by
    refine f_sides_ok [gv 0, ln.dv] [l, due] (.lst ([l].map tp)) h hh ?_ (by simp) (by simp) rfl fun j d x e1 e2 => ?_
    · exact okd_ok (okd_mono (okd_lst (okd_cons (okd_mono (okd_gv 0) (by decide)) (okd_cons (okd_ln ln lw) okd_no))) (by decide))
    · match j with
      | 0 =>
        cases e1
        cases e2
        exact line_gv 0 [] [l] 0 l h rfl ok
      | 1 =>
        cases e1
        cases e2
        exact line_ok ln [l] 1 _ due h rfl (fun s hs => by rw [List.mem_singleton.mp hs]; exact ok) (fun r hr2 => by rw [hr] at hr2; rw [List.mem_singleton.mp hr2]; decide) (by rw [hn]; decide) (by rw [hn]; decide) lo ed okd_
      | n + 2 => cases e1
  have w : wantF [[], [0]] = [true, true] := by decide
  unfold f_plain_answer
  rw [fnM_app]
  have c1 := ans_c1R (.val (.lst [gv 0, ln.dv])) l p h
  have wi := f_wanted_is [gv 0, ln.dv] [[], [0]] rd (by simp) (by simp) h
  rw [w] at wi
  have u0 := ans_turn [gv 0, ln.dv] [[], [0]] rd [l, due] (.lst [tdv l p]) [true, true] [] 0 (gv 0) (tdv l p) h h rfl rfl rfl rfl (by simp) (by
    show f_plain_table [gv 0, .tup (nums l), .lst [], .lst [tdv l p]] h = _
    exact table_givenR l l p [] h)
  have u1 := ans_turn [gv 0, ln.dv] [[], [0]] rd [l, due] (.lst [tdv l p]) [true, true] [tdv l p] 1 ln.dv (tdv due h.length) h (h ++ [HObj.lst (nums W)]) rfl rfl rfl rfl (by simp) ht
  have lp : forL (tTup [5, 6]) m_plain_answer_b1 [5, 6, 7] (enD 0 [gv 0, ln.dv]) [.val (.lst [gv 0, ln.dv]), .val (.lst [tdv l p]), .val (.lst [.tup (nums l), .tup (nums due)]), .val (.lst (bls [true, true])), .own [], .none, .none, .none, .none, .none] h =
      .nx [.val (.lst [gv 0, ln.dv]), .val (.lst [tdv l p]), .val (.lst [.tup (nums l), .tup (nums due)]), .val (.lst (bls [true, true])), .own [tdv l p, tdv due h.length], .none, .none, .none, .none, .none] (h ++ [HObj.lst (nums W)]) := by
    show forL _ _ _ [.tup [.int ((0 : Nat) : Int), gv 0], .tup [.int ((1 : Nat) : Int), ln.dv]] _ h = _
    rw [forL_cons]
    have u0 : turn (tTup [5, 6]) m_plain_answer_b1 [5, 6, 7] (.tup [.int ((0 : Nat) : Int), gv 0]) [.val (.lst [gv 0, ln.dv]), .val (.lst [tdv l p]), .val (.lst [.tup (nums l), .tup (nums due)]), .val (.lst (bls [true, true])), .own [], .none, .none, .none, .none, .none] h = _ := u0
    rw [u0, lR_nx, forL_cons]
    have u1 : turn (tTup [5, 6]) m_plain_answer_b1 [5, 6, 7] (.tup [.int ((1 : Nat) : Int), ln.dv]) [.val (.lst [gv 0, ln.dv]), .val (.lst [tdv l p]), .val (.lst [.tup (nums l), .tup (nums due)]), .val (.lst (bls [true, true])), .own ([] ++ [tdv l p]), .none, .none, .none, .none, .none] h = _ := u1
    have u1 := u1
    show lR (turn (tTup [5, 6]) m_plain_answer_b1 [5, 6, 7] (.tup [.int ((1 : Nat) : Int), ln.dv]) [.val (.lst [gv 0, ln.dv]), .val (.lst [tdv l p]), .val (.lst [.tup (nums l), .tup (nums due)]), .val (.lst (bls [true, true])), .own ([] ++ [tdv l p]), .none, .none, .none, .none, .none] h) _ = _
    rw [u1, lR_nx]
    rfl
  have hn2 : Has (h ++ [HObj.lst (nums W)]) h.length W := has_new h W
  have tm := tab_mkR due W h.length (h ++ [HObj.lst (nums W)]) tw hn2
  have v0 := fld_s due h.length (h ++ [HObj.lst (nums W)])
  have v1 := fld_c due h.length (h ++ [HObj.lst (nums W)])
  have gl := getI_last [tdv l p] (tdv due h.length) (h ++ [HObj.lst (nums W)])
  have gl : getI [tdv l p, tdv due h.length] (-1) (h ++ [HObj.lst (nums W)]) = .ok (tdv due h.length) (h ++ [HObj.lst (nums W)]) := gl
  have ie : itE (.lst [gv 0, ln.dv]) h = .ok (enD 0 [gv 0, ln.dv]) h := rfl
  have e1 : (h ++ [HObj.lst (nums W)]).length = h.length + 1 := by simp
  have e2 : h ++ [HObj.lst (nums W)] ++ [HObj.lst (nums W)] = h ++ [HObj.lst (nums W), HObj.lst (nums W)] := by simp
  rw [e1, e2] at tm
  generalize h ++ [HObj.lst (nums W)] = h1 at *
  have sd : f_sides_of [.lst [gv 0, ln.dv], .lst [.tup (nums l)]] h = .ok (.lst [.tup (nums l), .tup (nums due)]) h := sd
  generalize hP : [gv 0, ln.dv] = P at *
  simp [m_plain_answer, List.replicate, c1, sd, wi, lp, gl, v0, v1, tm, ie]
/-! ### the law's helpers: places, tables, drawn sides and cells -/
theorem f_is_table_is (l c : List Int) (p : Nat) (h : HP) (q : Has h p c) : f_law_is_table [tdv l p, .tup (nums l), .lst (nums c)] h = .ok (.bl true) h := by
  unfold f_law_is_table
  rw [fnM_app]
  have v0 := fld_s l p h
  have v1 := fld_c l p h
  have io : vIsO is_Table (tdv l p) h = .ok (.bl true) h := vIsO_obj is_Table cT _ h rfl
  have n0 := f_law_numbers_is l l h
  have n1 := f_law_numbers_is c c h
  rw [decide_eq_true rfl] at n0 n1
  have il := isl_has q
  have vt := vTup_has q
  simp [m_law_is_table, List.replicate, v0, v1, io, n0, n1, il, vt]
theorem own_tab (t : Int) (h0 : 0 ≤ t) (h1 : t < 8) (h : HP) : ∃ v : Int, 0 ≤ v ∧ v ≤ 4 ∧ getI [.int 2, .int 3, .int 1, .int 2, .int 3, .int 1, .int 4, .int 0] t h = .ok (.int v) h := by
  obtain ⟨k, rfl⟩ := Int.eq_ofNat_of_zero_le h0
  have : k = 0 ∨ k = 1 ∨ k = 2 ∨ k = 3 ∨ k = 4 ∨ k = 5 ∨ k = 6 ∨ k = 7 := by omega
  rcases this with e | e | e | e | e | e | e | e <;> subst e
  · exact ⟨2, by decide, by decide, getI_nat _ _ 0 rfl⟩
  · exact ⟨3, by decide, by decide, getI_nat _ _ 1 rfl⟩
  · exact ⟨1, by decide, by decide, getI_nat _ _ 2 rfl⟩
  · exact ⟨2, by decide, by decide, getI_nat _ _ 3 rfl⟩
  · exact ⟨3, by decide, by decide, getI_nat _ _ 4 rfl⟩
  · exact ⟨1, by decide, by decide, getI_nat _ _ 5 rfl⟩
  · exact ⟨4, by decide, by decide, getI_nat _ _ 6 rfl⟩
  · exact ⟨0, by decide, by decide, getI_nat _ _ 7 rfl⟩
def low4 (l : List Int) : Prop := l.length ≤ 4 ∧ ∀ x ∈ l, 0 ≤ x ∧ x ≤ 4
theorem low4_prod : ∀ (l : List Int) (n : Nat), l.length ≤ n → (∀ x ∈ l, 0 ≤ x ∧ x ≤ 4) → 0 ≤ prod l ∧ prod l ≤ 4 ^ n
  | [], n, _, _ => by
    refine ⟨by decide, ?_⟩
    have : (0 : Int) < 4 ^ n := Int.pow_pos (by decide)
    show (1 : Int) ≤ _
    omega
  | x :: r, n, hn, h => by
    obtain ⟨k, rfl⟩ : ∃ k, n = k + 1 := ⟨n - 1, by rw [List.length_cons] at hn; omega⟩
    obtain ⟨a, b⟩ := low4_prod r k (by rw [List.length_cons] at hn; omega) fun y hy => h y (List.mem_cons_of_mem _ hy)
    obtain ⟨c, d⟩ := h x List.mem_cons_self
    refine ⟨Int.mul_nonneg c a, ?_⟩
    rw [Int.pow_succ, prod, Int.mul_comm (4 ^ k)]
    exact Int.mul_le_mul d b a (by decide)
theorem low4_ok {l : List Int} (h : low4 l) : okS l = true ∧ prod l ≤ 256 := by
  obtain ⟨h1, h2⟩ := h
  have p := low4_prod l 4 h1 h2
  have q : (4 : Int) ^ 4 = 256 := by decide
  refine ⟨?_, by omega⟩
  unfold okS
  rw [decide_eq_true h1, decide_eq_true (by omega), in64_iff.mpr fun x hx => by have := h2 x hx; omega]
  rfl
theorem f_law_own_is (ns : List Int) (h : HP) (r : Row0 ns h) : ∃ (l : List Int) (h' : HP), low4 l ∧ Row0 ns h' ∧ f_law_own [.ref 0] h = .ok (.tup (nums l)) h' := by
  unfold f_law_own
  rw [fnM_app]
  obtain ⟨n, h1, n0, n1, r1, e1⟩ := f_law_taken_is ns 5 (by decide) h r
  obtain ⟨k, rfl⟩ := Int.eq_ofNat_of_zero_le n0
  have it := itN_nat h1 k (by omega)
  rw [rng_map] at it
  obtain ⟨ws, h2, c1, wl, wp, r2⟩ := mLc_nums (A := Nat) (l := List.range k) (vs := [2]) (mi := iB (eCall f_law_taken (aCons (eVar 0) (aCons (eC (.int 5)) aNil))) itN) (t := tName 2)
    (me := e2 vIdx (eFrz (aCons (eC (.int 2)) (aCons (eC (.int 3)) (aCons (eC (.int 1)) (aCons (eC (.int 2)) (aCons (eC (.int 3)) (aCons (eC (.int 1)) (aCons (eC (.int 4)) (aCons (eC (.int 0)) aNil))))))))) (eCall f_law_taken (aCons (eVar 0) (aCons (eC (.int 8)) aNil))))
    (e := [.val (.ref 0), .none, .none]) (h := h) (h1 := h1) (fun (k : Nat) => .int (k : Int)) (Row0 ns) (fun _ v => 0 ≤ v ∧ v ≤ 4) (by simp [e1, it]) (by simp; omega) r1 (fun x _ g rg => by
      obtain ⟨t, g', t0, t1, rg', e8⟩ := f_law_taken_is ns 8 (by decide) g rg
      obtain ⟨v, v0, v1, gv⟩ := own_tab t t0 t1 g'
      exact ⟨_, v, g', rfl, by simp [e8, gv], ⟨v0, v1⟩, rg'⟩)
  have c1 : m_law_own_c1 [.val (.ref 0), .none, .none] h = .ok (nums ws) h2 := c1
  have wl : ws.length ≤ 4 := by rw [wl]; simp; omega
  have wb : ∀ x ∈ ws, 0 ≤ x ∧ x ≤ 4 := fun x hx => by
    obtain ⟨_, _, q⟩ := wp x hx
    exact q
  have lc : f_law_cells [.lst (nums ws)] h2 = _ := lcellsG false ws (fun x hx => by have := wb x hx; omega) h2
  by_cases z : 54 < prod ws
  · have ct := cut_from (nums ws) 1
    rw [show ((1 : Nat) : Int) = 1 from rfl] at ct
    refine ⟨ws.drop 1, h2, ⟨by simp; omega, fun x hx => wb x (List.mem_of_mem_drop hx)⟩, r2, ?_⟩
    have tl : nums ws.tail = nums (ws.drop 1) := by cases ws <;> rfl
    have tl2 : (nums ws).tail = nums (ws.drop 1) := by cases ws <;> rfl
    simp [m_law_own, List.replicate, c1, lc, z, ct, tl, tl2]
  · exact ⟨ws, h2, ⟨wl, wb⟩, r2, by simp [m_law_own, List.replicate, c1, lc, z]⟩
theorem num_gen (q m s : Int) (hm : 0 < m) (k u : Int) (m1 : mulOk q k = true) (m2 : mulOk (q * k) (k + s % u) = true) (hu : 0 < u) (A B D E : Slot) (h : HP) : e2 vMod (e2 vAdd (eVar 2) (e2 vMul (e2 vMul (eC (.int q)) (eVar 4)) (e2 vAdd (eVar 4) (e2 vMod (eVar 2) (eC (.int u)))))) (eC (.int m)) [A, B, .val (.int s), D, .val (.int k), E] h = .ok (.int ((s + q * k * (k + s % u)) % m)) h := by
  simp [m1, m2, hm, hu]
theorem num_c1 (q m u s : Int) (hm : 0 < m) (hu : 0 < u) (hu2 : u ≤ 1000) (q0 : 0 ≤ q) (q1 : q ≤ 1000000) (n : Nat) (hn : n ≤ 10000) (A B D : Slot) (h : HP) (it : iB (eCall f_law_cells (aCons (eVar 1) aNil)) itN [A, B, .val (.int s), D, .none, .none] h = .ok ((List.range n).map fun (k : Nat) => DV.int (k : Int)) h) :
    mLc [4] (iB (eCall f_law_cells (aCons (eVar 1) aNil)) itN) (tName 4) mYes (e2 vMod (e2 vAdd (eVar 2) (e2 vMul (e2 vMul (eC (.int q)) (eVar 4)) (e2 vAdd (eVar 4) (e2 vMod (eVar 2) (eC (.int u)))))) (eC (.int m))) [A, B, .val (.int s), D, .none, .none] h = .ok (nums ((List.range n).map fun (k : Nat) => (s + q * (k : Int) * ((k : Int) + s % u)) % m)) h := by
  rw [mLc_ints (A := Nat) (l := List.range n) (fun (k : Nat) => .int (k : Int)) (fun (k : Nat) => .int ((s + q * (k : Int) * ((k : Int) + s % u)) % m)) it (by simp; omega) fun k hk => ⟨_, rfl, ?_⟩, ← nums_map]
  have hk := List.mem_range.mp hk
  have w0 := Int.emod_nonneg s (show u ≠ 0 by omega)
  have w1 := Int.emod_lt_of_pos s hu
  exact num_gen q m s hm k u (mulOk_r q (k : Int) (by omega) (by omega)) (mulOk_r (q * (k : Int)) ((k : Int) + s % u) (by omega) (by omega)) hu _ _ _ _ h
theorem all_ok {c : List Int} (hb : ∀ x ∈ c, 0 ≤ x ∧ x < 1000003) : c.all cellOk = true := by
  rw [List.all_eq_true]
  intro x hx
  have := hb x hx
  unfold cellOk
  rw [decide_eq_true this.1, decide_eq_true this.2]
  rfl
theorem mod_all (m : Int) (hm : 0 < m) {c : List Int} (f : Nat → Int) (n : Nat) (e : c = (List.range n).map fun k => f k % m) : ∀ x ∈ c, 0 ≤ x ∧ x < m := fun x hx => by
  rw [e] at hx
  obtain ⟨k, _, e⟩ := List.mem_map.mp hx
  rw [← e]
  exact ⟨Int.emod_nonneg _ (by omega), Int.emod_lt_of_pos _ hm⟩
theorem f_law_numbered_is (ns : List Int) (l : List Int) (hm : midI l) (p0 : 0 ≤ prod l) (p1 : prod l ≤ 10000) (h : HP) (r : Row0 ns h) : ∃ (c : List Int) (h' : HP), (c.length : Int) = prod l ∧ c.all cellOk = true ∧ Row0 ns h' ∧ f_law_numbered [.ref 0, .tup (nums l)] h = .ok (.lst (nums c)) h' := by
  unfold f_law_numbered
  rw [fnM_app]
  obtain ⟨s, h1, s0, s1, r1, e1⟩ := f_law_taken_is ns 1000003 (by omega) h r
  have lc : f_law_cells [.tup (nums l)] h1 = _ := lcellsG true l hm h1
  obtain ⟨n, en⟩ := Int.eq_ofNat_of_zero_le p0
  have it := itN_nat h1 n (by omega)
  rw [rng_map] at it
  obtain ⟨c, hc, c1⟩ : ∃ c : List Int, (c.length = n ∧ ∀ x ∈ c, 0 ≤ x ∧ x < 1000003) ∧ m_law_numbered_c1 [.val (.ref 0), .val (.tup (nums l)), .val (.int s), .none, .none, .none] h1 = .ok (nums c) h1 :=
    ⟨_, ⟨by simp, mod_all 1000003 (by omega) _ n rfl⟩, num_c1 48271 1000003 7 s (by omega) (by omega) (by omega) (by omega) (by omega) n (by omega) _ _ _ h1 (by simp [lc, en, it])⟩
  obtain ⟨cl, cb⟩ := hc
  by_cases z : s % 3 = 1
  · have c2 : m_law_numbered_c2 [.val (.ref 0), .val (.tup (nums l)), .val (.int s), .val (.lst (nums c)), .none, .none] h1 = .ok (nums (c.map fun x => x % 3)) h1 := by
      unfold m_law_numbered_c2
      rw [mLc_ints (A := Int) (l := c) DV.int (fun x => .int (x % 3)) ?_ (by omega) fun k hk => ⟨_, rfl, ?_⟩, ← nums_map]
      · simp [nums]
      · simp
    refine ⟨c.map fun x => x % 3, h1, by simp; omega, all_ok (fun x hx => ?_), r1, ?_⟩
    · obtain ⟨k, _, e⟩ := List.mem_map.mp hx
      omega
    · simp [m_law_numbered, List.replicate, e1, c1, z, c2]
  · exact ⟨c, h1, by omega, all_ok cb, r1, by simp [m_law_numbered, List.replicate, e1, c1, z]⟩
/-! ### spread -/
theorem inB_of : ∀ {l m : List Int}, m.length = l.length → (∀ k, k < l.length → 0 ≤ m.getD k 0 ∧ m.getD k 0 < l.getD k 0) → inB l m
  | [], [], _, _ => trivial
  | x :: l, a :: m, e, h => ⟨h 0 (by simp), inB_of (by simpa using e) fun k hk => by
      have := h (k + 1) (by simpa using hk)
      simpa using this⟩
  | [], _ :: _, e, _ => by simp at e
  | _ :: _, [], e, _ => by simp at e
def fitsTo (a S : List Int) : Prop := a.length ≤ S.length ∧ ∀ k, k < a.length → a.getD k 0 = 1 ∨ S.getD (S.length - a.length + k) 0 = a.getD k 0
theorem fitsTo_refl (a : List Int) : fitsTo a a := ⟨Nat.le_refl _, fun k _ => .inr (by rw [Nat.sub_self, Nat.zero_add])⟩
theorem fitsTo_trans {a b c : List Int} (h1 : fitsTo a b) (h2 : fitsTo b c) : fitsTo a c := by
  refine ⟨Nat.le_trans h1.1 h2.1, fun k hk => ?_⟩
  have l1 := h1.1
  have l2 := h2.1
  rcases h1.2 k hk with e | e
  · exact .inl e
  · rcases h2.2 (b.length - a.length + k) (by omega) with e2 | e2
    · exact .inl (by rw [← e, e2])
    · exact .inr (by rw [← e, ← e2, show c.length - b.length + (b.length - a.length + k) = c.length - a.length + k by omega])
def spr (l m : List Int) : List Int := (List.range l.length).map fun k => if l.getD k 0 = 1 then 0 else m.getD (m.length - l.length + k) 0
theorem spr_len (l m : List Int) : (spr l m).length = l.length := by simp [spr]
theorem spr_get (l m : List Int) (k : Nat) (hk : k < l.length) : (spr l m).getD k 0 = if l.getD k 0 = 1 then 0 else m.getD (m.length - l.length + k) 0 := by
  unfold spr
  rw [List.getD_eq_getElem?_getD, List.getElem?_map, List.getElem?_range hk]
  rfl
theorem inB_spr {l S m : List Int} (f : fitsTo l S) (h : inB S m) : inB l (spr l m) := by
  have ml := inB_len h
  have f1 := f.1
  refine inB_of (spr_len l m) fun k hk => ?_
  rw [spr_get l m k hk]
  rcases f.2 k hk with e | e
  · rw [if_pos e, e]
    exact ⟨by decide, by decide⟩
  · have := inB_at (S.length - l.length + k) h (by omega)
    rw [e, ← ml] at this
    split
    · omega
    · exact this
theorem getD_ext {a b : List Int} (h : a.length = b.length) (q : ∀ k, k < a.length → a.getD k 0 = b.getD k 0) : a = b := by
  apply List.ext_getElem h
  intro k h1 h2
  have := q k h1
  rw [List.getD_eq_getElem?_getD, List.getD_eq_getElem?_getD, List.getElem?_eq_getElem h1, List.getElem?_eq_getElem h2] at this
  exact this
theorem spr_self {l m : List Int} (h : inB l m) : spr l m = m := by
  have ml := inB_len h
  refine getD_ext (by rw [spr_len, ml]) fun k hk => ?_
  rw [spr_len] at hk
  rw [spr_get l m k hk, ml, Nat.sub_self, Nat.zero_add]
  have := inB_at k h hk
  split
  · omega
  · rfl
theorem padL_lo (a : List Int) (n k : Nat) (hk : k < a.length) (hn : a.length ≤ n) : padL a n (n - a.length + k) = a.getD k 0 := by
  unfold padL
  rw [if_pos (by omega), show n - a.length + k + a.length - n = k by omega]
theorem metO_some {a b S : List Int} (h : metO a b = some S) : S.length = max a.length b.length ∧ ∀ k, k < S.length → metOk (padL a S.length k) (padL b S.length k) = true ∧ S.getD k 0 = met (padL a S.length k) (padL b S.length k) := by
  have hl := metO_len h
  refine ⟨hl, fun k hk => ?_⟩
  unfold metO at h
  split at h
  · rename_i q
    cases h
    rw [hl] at hk ⊢
    have := List.all_eq_true.mp q k (List.mem_range.mpr hk)
    refine ⟨this, ?_⟩
    rw [List.getD_eq_getElem?_getD, List.getElem?_map, List.getElem?_range hk]
    rfl
  · cases h
theorem metO_fits {a b S : List Int} (h : metO a b = some S) : fitsTo a S ∧ fitsTo b S := by
  obtain ⟨hl, hk⟩ := metO_some h
  have la : a.length ≤ S.length := hl ▸ Nat.le_max_left _ _
  have lb : b.length ≤ S.length := hl ▸ Nat.le_max_right _ _
  refine ⟨⟨la, fun k ha => ?_⟩, ⟨lb, fun k hb => ?_⟩⟩
  · obtain ⟨o, e⟩ := hk (S.length - a.length + k) (by omega)
    rw [padL_lo a S.length k ha la] at o e
    by_cases z : a.getD k 0 = 1
    · exact .inl z
    · right
      rw [e]
      unfold met
      rw [if_neg z]
  · obtain ⟨o, e⟩ := hk (S.length - b.length + k) (by omega)
    rw [padL_lo b S.length k hb lb] at o e
    by_cases z : b.getD k 0 = 1
    · exact .inl z
    · right
      rw [e]
      unfold metOk at o
      simp only [Bool.or_eq_true, decide_eq_true_eq] at o
      unfold met
      rcases o with o | o | o
      · split
        · rfl
        · exact o
      · rw [if_pos o]
      · exact absurd o z
theorem padL_low {a : List Int} (ha : ∀ x ∈ a, 0 ≤ x ∧ x ≤ 4) (n k : Nat) : 0 ≤ padL a n k ∧ padL a n k ≤ 4 := by
  unfold padL
  split
  · rw [List.getD_eq_getElem?_getD]
    cases e : a[k + a.length - n]? with
    | none => exact ⟨by decide, by decide⟩
    | some v => exact ha v (List.mem_of_getElem? e)
  · exact ⟨by decide, by decide⟩
theorem metO_low {a b S : List Int} (ha : low4 a) (hb : low4 b) (h : metO a b = some S) : low4 S := by
  obtain ⟨hl, hk⟩ := metO_some h
  refine ⟨by rw [hl]; exact Nat.max_le.mpr ⟨ha.1, hb.1⟩, fun x hx => ?_⟩
  obtain ⟨k, lt, e⟩ := List.mem_iff_getElem.mp hx
  have e2 := (hk k lt).2
  rw [List.getD_eq_getElem?_getD, List.getElem?_eq_getElem lt, Option.getD_some, e] at e2
  rw [e2]
  unfold met
  split
  · exact padL_low hb.2 _ _
  · exact padL_low ha.2 _ _
theorem f_spread_is {l c m S : List Int} {p : Nat} {h : HP} (ok : okS l = true) (hc : (c.length : Int) = prod l) (fs : fitsTo l S) (hm : inB S m) (hS : S.length ≤ 1000) (q : Has h p c) : f_spread_cell [tdv l p, .tup (nums m)] h = .ok (.int (at0 l c (spr l m))) h := by
  unfold f_spread_cell
  rw [fnM_app]
  have ml := inB_len hm
  have f1 := fs.1
  have v0 := fld_s l p h
  have cf := cut_from (nums m) (m.length - l.length)
  rw [nums_drop, show ((m.length - l.length : Nat) : Int) = (m.length : Int) - l.length by omega] at cf
  have lp := forL_fold (A := Int × Int) (S := List Int) (t := tTup [3, 4]) (fg := [3, 4]) (b := m_spread_cell_b1) (h := h)
    (fun q => .tup [.int q.1, .int q.2]) (fun s => [.val (tdv l p), .val (.tup (nums m)), .own (nums s), .none, .none]) (fun s q => s ++ [if q.2 = 1 then 0 else q.1])
    (fun s ks => s.length + ks.length ≤ 2000) ((m.drop (m.length - l.length)).zip l) [] (by simp; omega) (fun s q ks h1 => by
      rw [List.length_cons] at h1
      have z : s.length < 16777216 := by omega
      refine ⟨by simp; omega, ?_⟩
      by_cases e : q.2 = 1
      · have mo := mulOk_r q.1 0 (by omega) (by omega)
        simp [m_spread_cell_b1, e, z, mo]
      · have mo := mulOk_r q.1 1 (by omega) (by omega)
        simp [m_spread_cell_b1, e, z, mo])
  rw [foldl_appA, List.nil_append, ← zipD_nums2] at lp
  have sp : ((m.drop (m.length - l.length)).zip l).map (fun q => if q.2 = 1 then 0 else q.1) = spr l m := by
    refine getD_ext (by simp [spr_len]; omega) fun k hk => ?_
    have hk2 : k < l.length := by simp at hk; omega
    rw [spr_get l m k hk2, List.getD_eq_getElem?_getD, List.getElem?_map, List.zip, List.getElem?_zipWith, List.getElem?_drop, List.getElem?_eq_getElem (l := m) (by omega), List.getElem?_eq_getElem hk2]
    rw [List.getD_eq_getElem?_getD, List.getD_eq_getElem?_getD, List.getElem?_eq_getElem hk2, List.getElem?_eq_getElem (l := m) (by omega)]
    rfl
  rw [sp] at lp
  have tc : f_Table_cell [tdv l p, .tup (nums (spr l m))] h = _ := tcell true (okS_mid ok) (inB_spr fs hm) hc q
  have mt := mt_c l p h
  rw [nums_nil] at lp
  have iz : itZM (.tup (nums (m.drop (m.length - l.length)))) (.tup (nums l)) h = .ok (zipD (nums (m.drop (m.length - l.length))) (nums l)) h := itZM_sq true _ l h
  generalize spr l m = sm at *
  generalize hd : nums (m.drop (m.length - l.length)) = md at *
  simp [m_spread_cell, List.replicate, v0, cf, iz, lp, mt, orM_some, tc]
theorem horn_range (l m : List Int) (hm : m.length = l.length) (f : Int) : (List.range l.length).foldl (fun s k => s * l.getD k 0 + m.getD k 0) f = horn l m f := by
  induction l generalizing m f with
  | nil => cases m <;> rfl
  | cons x r ih =>
    cases m with
    | nil => simp at hm
    | cons a t =>
      rw [List.length_cons, List.range_succ_eq_map, List.foldl_cons, List.foldl_map]
      have := ih t (by simpa using hm) (f * x + a)
      simpa [horn] using this
theorem f_law_look_is {l c m S : List Int} (ok : okS l = true) (hc : (c.length : Int) = prod l) (fs : fitsTo l S) (hm : inB S m) (hS : S.length ≤ 1000) (h : HP) : f_law_look [.tup (nums l), .lst (nums c), .tup (nums m)] h = .ok (.int (at0 l c (spr l m))) h := by
  unfold f_law_look
  rw [fnM_app]
  have ml := inB_len hm
  have f1 := fs.1
  have e := forL_fold (A := Nat) (S := Int) (t := tName 4) (fg := [4, 5]) (b := m_law_look_b1) (h := h)
    (fun k => .int (k : Int)) (fun s => [.val (.tup (nums l)), .val (.lst (nums c)), .val (.tup (nums m)), .val (.int s), .none, .none]) (fun s k => s * l.getD k 0 + (spr l m).getD k 0)
    (fun s ks => ∀ k ∈ ks, k < l.length) (List.range l.length) 0 (fun k hk => List.mem_range.mp hk) (fun s k ks h2 => by
      have hk := h2 k List.mem_cons_self
      have g1 := getI_nat h (nums l) k (nums_at hk)
      have g2 := getI_nat h (nums m) (m.length - l.length + k) (nums_at (by omega))
      rw [show ((m.length - l.length + k : Nat) : Int) = (m.length : Int) - l.length + k by omega] at g2
      have lx := okS_in ok (l.getD k 0) (by
        rw [List.getD_eq_getElem?_getD, List.getElem?_eq_getElem hk]
        exact List.getElem_mem hk)
      have mo := mulOk_r s (l.getD k 0) (by omega) (by omega)
      refine ⟨fun j hj => h2 j (List.mem_cons_of_mem _ hj), ?_⟩
      rw [spr_get l m k hk]
      by_cases z : l.getD k 0 = 1
      · rw [z] at g1 mo ⊢
        generalize m.getD (m.length - l.length + k) 0 = v at *
        simp [m_law_look_b1, g1, g2, mo]
      · rw [if_neg z]
        generalize m.getD (m.length - l.length + k) 0 = v at *
        generalize l.getD k 0 = x at *
        simp [m_law_look_b1, g1, g2, mo, z])
  rw [horn_range l (spr l m) (spr_len l m), inB_horn (inB_spr fs hm)] at e
  have g := at0_get (inB_spr fs hm) hc h
  have z : l.length ≤ 16777216 := by have := okS_len ok; omega
  simp [m_law_look, List.replicate, z, rng_map, e, g]

end LM

namespace LM
open PySem L2
@[simp] theorem w_turn_turn (h : HP) : vEq (.str (Str.ofString "turn")) (.str (Str.ofString "turn")) h = .ok (.bl true) h := by rw [vEq_str h _ _ (lay_str _ (by decide +kernel)) (lay_str _ (by decide +kernel)), decide_eq_true rfl]
@[simp] theorem w_turn_wide (h : HP) : vEq (.str (Str.ofString "turn")) (.str (Str.ofString "wide")) h = .ok (.bl false) h := by rw [vEq_str h _ _ (lay_str _ (by decide +kernel)) (lay_str _ (by decide +kernel)), decide_eq_false (by decide +kernel)]
@[simp] theorem w_turn_spread (h : HP) : vEq (.str (Str.ofString "turn")) (.str (Str.ofString "spread")) h = .ok (.bl false) h := by rw [vEq_str h _ _ (lay_str _ (by decide +kernel)) (lay_str _ (by decide +kernel)), decide_eq_false (by decide +kernel)]
@[simp] theorem w_turn_drop (h : HP) : vEq (.str (Str.ofString "turn")) (.str (Str.ofString "drop")) h = .ok (.bl false) h := by rw [vEq_str h _ _ (lay_str _ (by decide +kernel)) (lay_str _ (by decide +kernel)), decide_eq_false (by decide +kernel)]
@[simp] theorem w_wide_turn (h : HP) : vEq (.str (Str.ofString "wide")) (.str (Str.ofString "turn")) h = .ok (.bl false) h := by rw [vEq_str h _ _ (lay_str _ (by decide +kernel)) (lay_str _ (by decide +kernel)), decide_eq_false (by decide +kernel)]
@[simp] theorem w_wide_wide (h : HP) : vEq (.str (Str.ofString "wide")) (.str (Str.ofString "wide")) h = .ok (.bl true) h := by rw [vEq_str h _ _ (lay_str _ (by decide +kernel)) (lay_str _ (by decide +kernel)), decide_eq_true rfl]
@[simp] theorem w_wide_spread (h : HP) : vEq (.str (Str.ofString "wide")) (.str (Str.ofString "spread")) h = .ok (.bl false) h := by rw [vEq_str h _ _ (lay_str _ (by decide +kernel)) (lay_str _ (by decide +kernel)), decide_eq_false (by decide +kernel)]
@[simp] theorem w_wide_drop (h : HP) : vEq (.str (Str.ofString "wide")) (.str (Str.ofString "drop")) h = .ok (.bl false) h := by rw [vEq_str h _ _ (lay_str _ (by decide +kernel)) (lay_str _ (by decide +kernel)), decide_eq_false (by decide +kernel)]
@[simp] theorem w_spread_turn (h : HP) : vEq (.str (Str.ofString "spread")) (.str (Str.ofString "turn")) h = .ok (.bl false) h := by rw [vEq_str h _ _ (lay_str _ (by decide +kernel)) (lay_str _ (by decide +kernel)), decide_eq_false (by decide +kernel)]
@[simp] theorem w_spread_wide (h : HP) : vEq (.str (Str.ofString "spread")) (.str (Str.ofString "wide")) h = .ok (.bl false) h := by rw [vEq_str h _ _ (lay_str _ (by decide +kernel)) (lay_str _ (by decide +kernel)), decide_eq_false (by decide +kernel)]
@[simp] theorem w_spread_spread (h : HP) : vEq (.str (Str.ofString "spread")) (.str (Str.ofString "spread")) h = .ok (.bl true) h := by rw [vEq_str h _ _ (lay_str _ (by decide +kernel)) (lay_str _ (by decide +kernel)), decide_eq_true rfl]
@[simp] theorem w_spread_drop (h : HP) : vEq (.str (Str.ofString "spread")) (.str (Str.ofString "drop")) h = .ok (.bl false) h := by rw [vEq_str h _ _ (lay_str _ (by decide +kernel)) (lay_str _ (by decide +kernel)), decide_eq_false (by decide +kernel)]
@[simp] theorem w_drop_turn (h : HP) : vEq (.str (Str.ofString "drop")) (.str (Str.ofString "turn")) h = .ok (.bl false) h := by rw [vEq_str h _ _ (lay_str _ (by decide +kernel)) (lay_str _ (by decide +kernel)), decide_eq_false (by decide +kernel)]
@[simp] theorem w_drop_wide (h : HP) : vEq (.str (Str.ofString "drop")) (.str (Str.ofString "wide")) h = .ok (.bl false) h := by rw [vEq_str h _ _ (lay_str _ (by decide +kernel)) (lay_str _ (by decide +kernel)), decide_eq_false (by decide +kernel)]
@[simp] theorem w_drop_spread (h : HP) : vEq (.str (Str.ofString "drop")) (.str (Str.ofString "spread")) h = .ok (.bl false) h := by rw [vEq_str h _ _ (lay_str _ (by decide +kernel)) (lay_str _ (by decide +kernel)), decide_eq_false (by decide +kernel)]
@[simp] theorem w_drop_drop (h : HP) : vEq (.str (Str.ofString "drop")) (.str (Str.ofString "drop")) h = .ok (.bl true) h := by rw [vEq_str h _ _ (lay_str _ (by decide +kernel)) (lay_str _ (by decide +kernel)), decide_eq_true rfl]
@[simp] theorem w_cut_turn (h : HP) : vEq (.str (Str.ofString "cut")) (.str (Str.ofString "turn")) h = .ok (.bl false) h := by rw [vEq_str h _ _ (lay_str _ (by decide +kernel)) (lay_str _ (by decide +kernel)), decide_eq_false (by decide +kernel)]
@[simp] theorem w_cut_wide (h : HP) : vEq (.str (Str.ofString "cut")) (.str (Str.ofString "wide")) h = .ok (.bl false) h := by rw [vEq_str h _ _ (lay_str _ (by decide +kernel)) (lay_str _ (by decide +kernel)), decide_eq_false (by decide +kernel)]
@[simp] theorem w_cut_spread (h : HP) : vEq (.str (Str.ofString "cut")) (.str (Str.ofString "spread")) h = .ok (.bl false) h := by rw [vEq_str h _ _ (lay_str _ (by decide +kernel)) (lay_str _ (by decide +kernel)), decide_eq_false (by decide +kernel)]
@[simp] theorem w_cut_drop (h : HP) : vEq (.str (Str.ofString "cut")) (.str (Str.ofString "drop")) h = .ok (.bl false) h := by rw [vEq_str h _ _ (lay_str _ (by decide +kernel)) (lay_str _ (by decide +kernel)), decide_eq_false (by decide +kernel)]
@[simp] theorem w_shape_turn (h : HP) : vEq (.str (Str.ofString "shape")) (.str (Str.ofString "turn")) h = .ok (.bl false) h := by rw [vEq_str h _ _ (lay_str _ (by decide +kernel)) (lay_str _ (by decide +kernel)), decide_eq_false (by decide +kernel)]
@[simp] theorem w_shape_wide (h : HP) : vEq (.str (Str.ofString "shape")) (.str (Str.ofString "wide")) h = .ok (.bl false) h := by rw [vEq_str h _ _ (lay_str _ (by decide +kernel)) (lay_str _ (by decide +kernel)), decide_eq_false (by decide +kernel)]
@[simp] theorem w_shape_spread (h : HP) : vEq (.str (Str.ofString "shape")) (.str (Str.ofString "spread")) h = .ok (.bl false) h := by rw [vEq_str h _ _ (lay_str _ (by decide +kernel)) (lay_str _ (by decide +kernel)), decide_eq_false (by decide +kernel)]
@[simp] theorem w_shape_drop (h : HP) : vEq (.str (Str.ofString "shape")) (.str (Str.ofString "drop")) h = .ok (.bl false) h := by rw [vEq_str h _ _ (lay_str _ (by decide +kernel)) (lay_str _ (by decide +kernel)), decide_eq_false (by decide +kernel)]
@[simp] theorem w_drop_one (h : HP) : vEq (.str (Str.ofString "drop")) (.str (Str.ofString "one")) h = .ok (.bl false) h := by rw [vEq_str h _ _ (lay_str _ (by decide +kernel)) (lay_str _ (by decide +kernel)), decide_eq_false (by decide +kernel)]
@[simp] theorem w_cut_one (h : HP) : vEq (.str (Str.ofString "cut")) (.str (Str.ofString "one")) h = .ok (.bl false) h := by rw [vEq_str h _ _ (lay_str _ (by decide +kernel)) (lay_str _ (by decide +kernel)), decide_eq_false (by decide +kernel)]
@[simp] theorem w_turn_one (h : HP) : vEq (.str (Str.ofString "turn")) (.str (Str.ofString "one")) h = .ok (.bl false) h := by rw [vEq_str h _ _ (lay_str _ (by decide +kernel)) (lay_str _ (by decide +kernel)), decide_eq_false (by decide +kernel)]
@[simp] theorem w_wide_one (h : HP) : vEq (.str (Str.ofString "wide")) (.str (Str.ofString "one")) h = .ok (.bl false) h := by rw [vEq_str h _ _ (lay_str _ (by decide +kernel)) (lay_str _ (by decide +kernel)), decide_eq_false (by decide +kernel)]
@[simp] theorem w_spread_one (h : HP) : vEq (.str (Str.ofString "spread")) (.str (Str.ofString "one")) h = .ok (.bl false) h := by rw [vEq_str h _ _ (lay_str _ (by decide +kernel)) (lay_str _ (by decide +kernel)), decide_eq_false (by decide +kernel)]
@[simp] theorem w_shape_one (h : HP) : vEq (.str (Str.ofString "shape")) (.str (Str.ofString "one")) h = .ok (.bl false) h := by rw [vEq_str h _ _ (lay_str _ (by decide +kernel)) (lay_str _ (by decide +kernel)), decide_eq_false (by decide +kernel)]
/-! ### an index changed -/
theorem vadd3 (a b : List Int) (j : Int) (ha : a.length ≤ 1000) (hb : b.length ≤ 1000) (h : HP) : bR (vAdd (.tup (nums a)) (.tup [.int j]) h) (fun x h => vAdd x (.tup (nums b)) h) = .ok (.tup (nums (a ++ [j] ++ b))) h := by
  have z1 : a.length + 1 ≤ 16777216 := by omega
  have z2 : a.length + 1 + b.length ≤ 16777216 := by omega
  simp [z1, z2]
def ins (m : List Int) (k : Nat) (j : Int) : List Int := m.take k ++ [j] ++ m.drop k
theorem f_with_is (m : List Int) (k : Nat) (j : Int) (hl : m.length ≤ 1000) (h : HP) : f_with_place [.tup (nums m), .int (k : Int), .int j] h = .ok (.tup (nums (chg m k j))) h := by
  unfold f_with_place
  rw [fnM_app]
  have ct := cut_to (nums m) k
  have cf := cut_from (nums m) (k + 1)
  rw [nums_take] at ct
  rw [nums_drop, show ((k + 1 : Nat) : Int) = (k : Int) + 1 by omega] at cf
  have va := vadd3 (m.take k) (m.drop (k + 1)) j (by simp; omega) (by simp; omega) h
  simp only [m_with_place, sRet_app, e2_app, eCut_app, eVar_app, eC_app, eTup_app, aCons_app, aNil_app, oNone_app, oSome_app, List.map_cons, List.map_nil, List.length_cons, List.length_nil, List.replicate, List.append_nil, List.getElem?_cons_zero, List.getElem?_cons_succ, List.cons_append, List.nil_append, slV_val, bR_ok, oI_int, vCut_tup, vAdd_int, ct, cf, va]
  rfl
/-! ### what a view looks at -/
theorem vadd2 (a b : List Int) (ha : a.length ≤ 1000) (hb : b.length ≤ 1000) (h : HP) : vAdd (.tup (nums a)) (.tup (nums b)) h = .ok (.tup (nums (a ++ b))) h := by
  rw [vAdd_tup]
  · rw [nums_app]
  · rw [nums_len, nums_len]
    show _ ≤ 16777216
    omega
theorem vadd3' (a b : List Int) (j : Int) (ha : a.length ≤ 1000) (hb : b.length ≤ 1000) (h : HP) : vAdd (.tup (nums a)) (.tup [.int j]) h = .ok (.tup (nums (a ++ [j]))) h ∧ vAdd (.tup (nums (a ++ [j]))) (.tup (nums b)) h = .ok (.tup (nums (a ++ [j] ++ b))) h :=
  ⟨vadd2 a [j] ha (by simp) h, by
    rw [vAdd_tup]
    · rw [nums_app (a ++ [j]) b]
    · rw [nums_len, nums_len, List.length_append, List.length_singleton]
      show _ ≤ 16777216
      omega⟩
theorem f_law_changed_is (m : List Int) (k : Nat) (j : Int) (hl : m.length ≤ 1000) (h : HP) : f_law_changed [.tup (nums m), .int (k : Int), .int j] h = .ok (.tup (nums (chg m k j))) h := by
  unfold f_law_changed
  rw [fnM_app]
  have ct := cut_to (nums m) k
  have cf := cut_from (nums m) (k + 1)
  rw [nums_take] at ct
  rw [nums_drop, show ((k + 1 : Nat) : Int) = (k : Int) + 1 by omega] at cf
  obtain ⟨v1, v2⟩ := vadd3' (m.take k) (m.drop (k + 1)) j (by simp; omega) (by simp; omega) h
  unfold chg
  generalize nums (m.take k ++ [j] ++ m.drop (k + 1)) = R at *
  generalize nums (m.take k ++ [j]) = R1 at *
  generalize nums (m.take k) = mt at *
  generalize nums (m.drop (k + 1)) = mf at *
  simp [m_law_changed, List.replicate, ct, cf, v1, v2]
section
variable {l c m : List Int} {p : Nat} {h : HP}
theorem cellT (ok : okS l = true) (hc : (c.length : Int) = prod l) (q : Has h p c) (hb : inB l m) : f_Table_cell [tdv l p, .tup (nums m)] h = .ok (.int (at0 l c m)) h := tcell true (okS_mid ok) hb hc q
/-- wide -/
theorem inB_wide {w : Nat} (hw : w ≤ l.length) (hb : inB (l.take w ++ [1] ++ l.drop w) m) : inB l (wo m w) := by
  have h1 := inB_take w hb
  have h2 := inB_drop (w + 1) hb
  have e1 : (l.take w ++ [1] ++ l.drop w).take w = l.take w := by
    rw [List.append_assoc, List.take_append_of_le_length (by simp; omega), List.take_take, Nat.min_self]
  have e2 : (l.take w ++ [1] ++ l.drop w).drop (w + 1) = l.drop w := by
    have e : w + 1 = (l.take w ++ [(1 : Int)]).length := by simp; omega
    have q : (l.take w ++ [1] ++ l.drop w).drop (l.take w ++ [(1 : Int)]).length = l.drop w := List.drop_left
    rw [← e] at q
    exact q
  rw [e1] at h1
  rw [e2] at h2
  have := inB_app h1 h2
  rwa [List.take_append_drop] at this
theorem cell_wide_is (a w : Nat) (ok : okS l = true) (hc : (c.length : Int) = prod l) (q : Has h p c) (ml : m.length ≤ 1000) (hb : inB l (wo m w)) : f_cell_wide [.tup [sx0 "wide", iN a, .int (w : Int)], .lst [tdv l p], .tup (nums m)] h = .ok (.int (at0 l c (wo m w))) h := by
  unfold f_cell_wide
  rw [fnM_app]
  have tc := cellT ok hc q hb
  have mt := mt_c l p h
  have ct := cut_to (nums m) w
  have cf := cut_from (nums m) (w + 1)
  rw [nums_take] at ct
  rw [nums_drop, show ((w + 1 : Nat) : Int) = (w : Int) + 1 by omega] at cf
  have va := vadd2 (m.take w) (m.drop (w + 1)) (by simp; omega) (by simp; omega) h
  unfold wo at *
  generalize at0 l c (m.take w ++ m.drop (w + 1)) = v at *
  generalize nums (m.take w ++ m.drop (w + 1)) = R at *
  generalize nums (m.take w) = gt at *
  generalize nums (m.drop (w + 1)) = mf at *
  simp [m_cell_wide, List.replicate, getI0, getI2, ct, cf, va, mt, orM_some, tc]
theorem under_wide (a w : Nat) (ml : m.length ≤ 1000) (h : HP) : f_law_under [.tup [sx0 "wide", iN a, .int (w : Int)], .tup (nums l), .tup (nums m)] h = .ok (.tup (nums (wo m w))) h := by
  unfold f_law_under
  rw [fnM_app]
  have ct := cut_to (nums m) w
  have cf := cut_from (nums m) (w + 1)
  rw [nums_take] at ct
  rw [nums_drop, show ((w + 1 : Nat) : Int) = (w : Int) + 1 by omega] at cf
  have va := vadd2 (m.take w) (m.drop (w + 1)) (by simp; omega) (by simp; omega) h
  unfold wo at *
  generalize nums (m.take w ++ m.drop (w + 1)) = R at *
  generalize nums (m.take w) = gt at *
  generalize nums (m.drop (w + 1)) = mf at *
  simp [m_law_under, List.replicate, getI0, getI2, ct, cf, va]
/-- drop -/
theorem cell_drop_is (a s : Nat) (x : Int) (ok : okS l = true) (hc : (c.length : Int) = prod l) (q : Has h p c) (ml : m.length ≤ 1000) (hb : inB l (ins m s x)) : f_cell_drop [.tup [sx0 "drop", iN a, .int (s : Int), .int x], .lst [tdv l p], .tup (nums m)] h = .ok (.int (at0 l c (ins m s x))) h := by
  unfold f_cell_drop
  rw [fnM_app]
  have tc := cellT ok hc q hb
  have mt := mt_c l p h
  have ct := cut_to (nums m) s
  have cf := cut_from (nums m) s
  rw [nums_take] at ct
  rw [nums_drop] at cf
  obtain ⟨v1, v2⟩ := vadd3' (m.take s) (m.drop s) x (by simp; omega) (by simp; omega) h
  unfold ins at *
  generalize at0 l c (m.take s ++ [x] ++ m.drop s) = v at *
  generalize nums (m.take s ++ [x] ++ m.drop s) = R at *
  generalize nums (m.take s ++ [x]) = R1 at *
  generalize nums (m.take s) = gt at *
  generalize nums (m.drop s) = mf at *
  simp [m_cell_drop, List.replicate, getI0, getI2, getI3, ct, cf, v1, v2, mt, orM_some, tc]
theorem under_drop (a s : Nat) (x : Int) (ml : m.length ≤ 1000) (h : HP) : f_law_under [.tup [sx0 "drop", iN a, .int (s : Int), .int x], .tup (nums l), .tup (nums m)] h = .ok (.tup (nums (ins m s x))) h := by
  unfold f_law_under
  rw [fnM_app]
  have ct := cut_to (nums m) s
  have cf := cut_from (nums m) s
  rw [nums_take] at ct
  rw [nums_drop] at cf
  obtain ⟨v1, v2⟩ := vadd3' (m.take s) (m.drop s) x (by simp; omega) (by simp; omega) h
  unfold ins at *
  generalize nums (m.take s ++ [x] ++ m.drop s) = R at *
  generalize nums (m.take s ++ [x]) = R1 at *
  generalize nums (m.take s) = gt at *
  generalize nums (m.drop s) = mf at *
  simp [m_law_under, List.replicate, getI0, getI2, getI3, ct, cf, v1, v2]
/-- cut -/
theorem cut_in (b t n a s : Int) (b0 : 0 ≤ b) (b1 : b < s) (e0 : 0 ≤ b + t * (n - 1)) (e1 : b + t * (n - 1) < s) (a0 : 0 ≤ a) (a1 : a < n) : 0 ≤ b + t * a ∧ b + t * a < s := by
  by_cases z : 0 ≤ t
  · have h1 : 0 ≤ t * a := Int.mul_nonneg z a0
    have h2 : t * a ≤ t * (n - 1) := Int.mul_le_mul_of_nonneg_left (by omega) z
    omega
  · have h1 : (-t) * a ≤ (-t) * (n - 1) := Int.mul_le_mul_of_nonneg_left (by omega) (by omega)
    have h2 : 0 ≤ (-t) * a := Int.mul_nonneg (by omega) a0
    rw [Int.neg_mul] at h1 h2
    rw [Int.neg_mul] at h1
    omega
theorem cell_cut_is (a s : Nat) (b t n : Int) (ok : okS l = true) (hc : (c.length : Int) = prod l) (q : Has h p c) (ml : m.length ≤ 1000) (hs : s < m.length) (mo : mulOk t (m.getD s 0) = true) (hb : inB l (chg m s (b + t * m.getD s 0))) :
    f_cell_cut [.tup [sx0 "cut", iN a, .int (s : Int), .int b, .int t, .int n], .lst [tdv l p], .tup (nums m)] h = .ok (.int (at0 l c (chg m s (b + t * m.getD s 0)))) h := by
  unfold f_cell_cut
  rw [fnM_app]
  have tc := cellT ok hc q hb
  have mt := mt_c l p h
  have g := getI_nat h (nums m) s (nums_at hs)
  have wi := f_with_is m s (b + t * m.getD s 0) ml h
  have g4 : getI [sx0 "cut", iN a, .int (s : Int), .int b, .int t, .int n] 4 h = .ok (.int t) h := getI_nat h _ 4 rfl
  generalize m.getD s 0 = v at *
  generalize at0 l c (chg m s (b + t * v)) = r at *
  generalize nums (chg m s (b + t * v)) = R at *
  simp [m_cell_cut, List.replicate, getI0, getI2, getI3, g4, g, mo, wi, mt, orM_some, tc]
theorem under_cut (a s : Nat) (b t n : Int) (ml : m.length ≤ 1000) (hs : s < m.length) (mo : mulOk (m.getD s 0) t = true) (h : HP) :
    f_law_under [.tup [sx0 "cut", iN a, .int (s : Int), .int b, .int t, .int n], .tup (nums l), .tup (nums m)] h = .ok (.tup (nums (chg m s (b + t * m.getD s 0)))) h := by
  unfold f_law_under
  rw [fnM_app]
  have g := getI_nat h (nums m) s (nums_at hs)
  have wi := f_law_changed_is m s (b + m.getD s 0 * t) ml h
  have g4 : getI [sx0 "cut", iN a, .int (s : Int), .int b, .int t, .int n] 4 h = .ok (.int t) h := getI_nat h _ 4 rfl
  rw [Int.mul_comm t]
  generalize m.getD s 0 = v at *
  generalize nums (chg m s (b + v * t)) = R at *
  simp [m_law_under, List.replicate, getI0, getI2, getI3, g4, g, mo, wi]
/-- spread -/
theorem cell_spread_is {S : List Int} (a : Nat) (z : DV) (ok : okS l = true) (hc : (c.length : Int) = prod l) (q : Has h p c) (fs : fitsTo l S) (hm : inB S m) (hS : S.length ≤ 1000) : f_cell_spread [.tup [sx0 "spread", iN a, z], .lst [tdv l p], .tup (nums m)] h = .ok (.int (at0 l c (spr l m))) h := by
  unfold f_cell_spread
  rw [fnM_app]
  have s0 := f_spread_is ok hc fs hm hS q
  generalize at0 l c (spr l m) = v at *
  simp [m_cell_spread, List.replicate, getI0, s0]
theorem under_spread (a : Nat) (z : DV) (hl : l.length ≤ m.length) (h : HP) : f_law_under [.tup [sx0 "spread", iN a, z], .tup (nums l), .tup (nums m)] h = .ok (.tup (nums (m.drop (m.length - l.length)))) h := by
  unfold f_law_under
  rw [fnM_app]
  have cf := cut_from (nums m) (m.length - l.length)
  rw [nums_drop, show ((m.length - l.length : Nat) : Int) = (m.length : Int) - l.length by omega] at cf
  simp [m_law_under, List.replicate, getI0, cf]
theorem spr_drop (hl : l.length ≤ m.length) : spr l (m.drop (m.length - l.length)) = spr l m := by
  refine getD_ext (by rw [spr_len, spr_len]) fun k hk => ?_
  rw [spr_len] at hk
  rw [spr_get l _ k hk, spr_get l m k hk]
  split
  · rfl
  · rw [List.getD_eq_getElem?_getD, List.getD_eq_getElem?_getD, List.getElem?_drop, List.length_drop]
    congr 2
    omega
theorem fits_drop {S : List Int} (f : fitsTo l S) : fitsTo l (S.drop (S.length - l.length)) := by
  have f1 := f.1
  refine ⟨by rw [List.length_drop]; omega, fun k hk => ?_⟩
  rcases f.2 k hk with e | e
  · exact .inl e
  · right
    rw [← e, List.getD_eq_getElem?_getD, List.getD_eq_getElem?_getD, List.getElem?_drop, List.length_drop]
    congr 2
    omega
end
/-! ### turned -/
/-- the place of each number in an order -/
def plc (o : List Int) (k : Int) : Nat := (idxI o k).getD 0
def unt (o m : List Int) (n : Nat) : List Int := (List.range n).map fun (k : Nat) => m.getD (plc o (k : Int)) 0
theorem unt_len (o m : List Int) (n : Nat) : (unt o m n).length = n := by simp [unt]
theorem unt_get (o m : List Int) (n k : Nat) (hk : k < n) : (unt o m n).getD k 0 = m.getD (plc o (k : Int)) 0 := by
  unfold unt
  rw [List.getD_eq_getElem?_getD, List.getElem?_map, List.getElem?_range hk]
  rfl
theorem sorted_mem {o : List Int} {n : Nat} (h : sortedOk o n = true) (k : Nat) (hk : k < n) : (k : Int) ∈ o := by
  have e := of_decide_eq_true h
  have m : (k : Int) ∈ PySem.W.sortI o := by
    rw [e]
    exact List.mem_map.mpr ⟨k, List.mem_range.mpr hk, rfl⟩
  exact (PySem.W.sortI_perm o).mem_iff.mp m
theorem sorted_nodup {o : List Int} {n : Nat} (h : sortedOk o n = true) : o.Nodup := by
  have e := of_decide_eq_true h
  have nd : (PySem.W.sortI o).Nodup := by
    rw [e]
    unfold List.Nodup
    rw [List.pairwise_map]
    exact List.Pairwise.imp (fun {a b} (q : a ≠ b) (z : ((a : Nat) : Int) = (b : Int)) => q (by omega)) List.nodup_range
  exact (PySem.W.sortI_perm o).nodup_iff.mp nd
theorem idxI_mem : ∀ {o : List Int} {k : Int}, k ∈ o → ∃ j, idxI o k = some j ∧ o[j]? = some k
  | x :: r, k, h => by
    unfold idxI
    by_cases e : x = k
    · exact ⟨0, by rw [if_pos e], by rw [e]; rfl⟩
    · rw [if_neg e]
      rcases List.mem_cons.mp h with q | q
      · exact absurd q.symm e
      · obtain ⟨j, h1, h2⟩ := idxI_mem q
        exact ⟨j + 1, by rw [h1]; rfl, by simpa using h2⟩
theorem plc_ok {o : List Int} {n : Nat} (h : sortedOk o n = true) (k : Nat) (hk : k < n) : idxI o (k : Int) = some (plc o (k : Int)) ∧ plc o (k : Int) < n ∧ o.getD (plc o (k : Int)) 0 = (k : Int) := by
  obtain ⟨j, h1, h2⟩ := idxI_mem (sorted_mem h k hk)
  unfold plc
  rw [h1]
  have lt : j < o.length := (List.getElem?_eq_some_iff.mp h2).1
  rw [sorted_len h] at lt
  refine ⟨rfl, lt, ?_⟩
  rw [List.getD_eq_getElem?_getD]
  show (o[j]?).getD 0 = _
  rw [h2]
  rfl
theorem inB_unt {l o m : List Int} (so : sortedOk o l.length = true) (hb : inB (o.map fun j => l.getD j.toNat 0) m) : inB l (unt o m l.length) := by
  have ol := sorted_len so
  refine inB_of (unt_len _ _ _) fun k hk => ?_
  obtain ⟨_, p1, p2⟩ := plc_ok so k hk
  rw [unt_get o m l.length k hk]
  have b := inB_at (plc o (k : Int)) hb (by rw [List.length_map]; omega)
  have e : (o.map fun j => l.getD j.toNat 0).getD (plc o (k : Int)) 0 = l.getD k 0 := by
    rw [List.getD_eq_getElem?_getD, List.getElem?_map]
    rw [List.getD_eq_getElem?_getD] at p2
    cases q : o[plc o (k : Int)]? with
    | none =>
      have := List.getElem?_eq_none_iff.mp q
      omega
    | some v =>
      rw [q] at p2
      have p2 : v = (k : Int) := p2
      subst p2
      show l.getD ((k : Int)).toNat 0 = _
      rw [Int.toNat_natCast]
  rw [e] at b
  exact b
/-- the program's loop -/
def tset (m : List Int) (f : List Int) (q : Nat × Int) : List Int := f.set q.2.toNat (m.getD q.1 0)
theorem tloop (A B : Slot) (m : List Int) (h : HP) : ∀ (o : List Int) (k : Nat) (f : List Int), (∀ j ∈ o, 0 ≤ j ∧ j < (f.length : Int)) → k + o.length ≤ m.length →
    forL (tTup [4, 5]) m_cell_turn_b1 [4, 5] (enD k (nums o)) [A, B, .val (.tup (nums m)), .own (nums f), .none, .none] h = .nx [A, B, .val (.tup (nums m)), .own (nums (((List.range' k o.length).zip o).foldl (tset m) f)), .none, .none] h
  | [], _, _, _, _ => rfl
  | j :: o, k, f, hj, hl => by
    rw [List.length_cons] at hl
    obtain ⟨j0, j1⟩ := hj j List.mem_cons_self
    obtain ⟨i, rfl⟩ := Int.eq_ofNat_of_zero_le j0
    have g := getI_nat h (nums m) k (nums_at (by omega))
    have pa := putAt_nat (nums f) (.int (m.getD k 0)) i (by rw [nums_len]; omega)
    rw [nums_set] at pa
    have t : turn (tTup [4, 5]) m_cell_turn_b1 [4, 5] (.tup [.int (k : Int), .int (i : Int)]) [A, B, .val (.tup (nums m)), .own (nums f), .none, .none] h = .nx [A, B, .val (.tup (nums m)), .own (nums (f.set i (m.getD k 0))), .none, .none] h := by
      generalize m.getD k 0 = v at *
      simp [m_cell_turn_b1, g, pa]
    show forL _ _ _ (.tup [.int (k : Int), .int (i : Int)] :: enD (k + 1) (nums o)) _ h = _
    rw [forL_cons, t, lR_nx, tloop A B m h o (k + 1) (f.set i (m.getD k 0)) (fun y hy => by rw [List.length_set]; exact hj y (List.mem_cons_of_mem _ hy)) (by omega), List.length_cons, List.range'_succ, List.zip_cons_cons, List.foldl_cons]
    unfold tset
    rw [Int.toNat_natCast]
theorem tfold_len (m : List Int) : ∀ (q : List (Nat × Int)) (f : List Int), (q.foldl (tset m) f).length = f.length
  | [], _ => rfl
  | x :: q, f => by rw [List.foldl_cons, tfold_len m q, tset, List.length_set]
theorem idxI_cons (y k : Int) (o : List Int) : idxI (y :: o) k = if y = k then some 0 else (idxI o k).map (· + 1) := rfl
theorem tfold_get (m : List Int) : ∀ (o : List Int) (k : Nat) (f : List Int) (j : Nat), o.Nodup → (∀ y ∈ o, 0 ≤ y) → j < f.length → (((List.range' k o.length).zip o).foldl (tset m) f).getD j 0 = match idxI o (j : Int) with
    | some i => m.getD (k + i) 0
    | none => f.getD j 0
  | [], _, _, _, _, _, _ => rfl
  | y :: o, k, f, j, nd, hy, hj => by
    obtain ⟨n1, n2⟩ := List.nodup_cons.mp nd
    rw [List.length_cons, List.range'_succ, List.zip_cons_cons, List.foldl_cons, tfold_get m o (k + 1) (tset m f (k, y)) j n2 (fun z hz => hy z (List.mem_cons_of_mem _ hz)) (by rw [tset, List.length_set]; exact hj)]
    have y0 := hy y List.mem_cons_self
    rw [idxI_cons]
    by_cases e : y = (j : Int)
    · rw [if_pos e]
      have no : idxI o (j : Int) = none := by
        cases q : idxI o (j : Int) with
        | none => rfl
        | some i =>
          have := (idxI_ok q).1
          exact absurd (by rw [e]; exact List.mem_of_getElem? this) n1
      rw [no]
      show (tset m f (k, y)).getD j 0 = m.getD (k + 0) 0
      unfold tset
      show (f.set y.toNat (m.getD k 0)).getD j 0 = _
      rw [e, Int.toNat_natCast, List.getD_eq_getElem?_getD, List.getElem?_set_self hj]
      rfl
    · rw [if_neg e]
      cases q : idxI o (j : Int) with
      | none =>
        show (f.set y.toNat (m.getD k 0)).getD j 0 = f.getD j 0
        rw [List.getD_eq_getElem?_getD, List.getElem?_set_ne (by omega), ← List.getD_eq_getElem?_getD]
      | some i =>
        show m.getD (k + 1 + i) 0 = m.getD (k + (i + 1)) 0
        congr 1
        omega
theorem tfold_is {o m : List Int} {n : Nat} (so : sortedOk o n = true) : ((List.range' 0 o.length).zip o).foldl (tset m) (List.replicate n 0) = unt o m n := by
  refine getD_ext (by rw [tfold_len, List.length_replicate, unt_len]) fun j hj => ?_
  rw [tfold_len, List.length_replicate] at hj
  rw [tfold_get m o 0 _ j (sorted_nodup so) (fun y hy => (sorted_in so y hy).1) (by rw [List.length_replicate]; exact hj), unt_get o m n j hj, (plc_ok so j hj).1]
  show m.getD (0 + _) 0 = _
  rw [Nat.zero_add]
theorem cell_turn_is {l c m o : List Int} {p : Nat} {h : HP} (a : Nat) (ok : okS l = true) (hc : (c.length : Int) = prod l) (q : Has h p c) (so : sortedOk o l.length = true) (ml : m.length = l.length) (hb : inB l (unt o m l.length)) :
    f_cell_turn [.tup [sx0 "turn", iN a, .tup (nums o)], .lst [tdv l p], .tup (nums m)] h = .ok (.int (at0 l c (unt o m l.length))) h := by
  unfold f_cell_turn
  rw [fnM_app]
  have l4 := okS_len ok
  have ol := sorted_len so
  have lm := lMul_one (.int 0) m.length (by omega) h
  rw [nums_rep] at lm
  have lp := tloop (.val (.tup [sx0 "turn", iN a, .tup (nums o)])) (.val (.lst [tdv l p])) m h o 0 (List.replicate m.length 0) (fun j hj => by
    have := sorted_in so j hj
    rw [List.length_replicate]
    omega) (by omega)
  rw [ml, tfold_is so] at lp
  have tc : f_Table_cell [tdv l p, .lst (nums (unt o m l.length))] h = _ := tcell false (okS_mid ok) hb hc q
  have mt := mt_c l p h
  have ie : itE (.tup (nums o)) h = .ok (enD 0 (nums o)) h := rfl
  rw [ml] at lm
  have vl : vLen (.tup (nums m)) h = .ok (.int (l.length : Int)) h := by rw [vLen_tup, nums_len, ml]
  have z : ([DV.int 0].length * l.length) ≤ 16777216 := by simp; omega
  generalize at0 l c (unt o m l.length) = v at *
  generalize nums (unt o m l.length) = R at *
  generalize nums (List.replicate l.length 0) = Z at *
  generalize nums m = M at *
  generalize (l.length : Int) = n at *
  simp only [m_cell_turn, sSeq_app, sSetO_app, sFor_app, sFrz_app, sRet_app, iB2_app, iB_app, eFrz_app, e1_app, e2_app, eVar_app, eC_app, aCons_app, aNil_app, eMeth_app, List.map_cons, List.map_nil, List.length_cons, List.length_nil, List.replicate, List.cons_append, List.nil_append, List.getElem?_cons_zero, List.getElem?_cons_succ, List.set_cons_zero, List.set_cons_succ, slV_val, slF_own, bR_ok, uR_ok, qR_nx, vl, lm, vIdx_tup, vIdx_lst, getI0, getI2, ie, wipeE_cons, wipeE_nil, lp, mt, orM_some, tc, fR_rt]
theorem under_turn {l m o : List Int} (a : Nat) (l4 : l.length ≤ 4) (so : sortedOk o l.length = true) (ml : m.length = l.length) (h : HP) : f_law_under [.tup [sx0 "turn", iN a, .tup (nums o)], .tup (nums l), .tup (nums m)] h = .ok (.tup (nums (unt o m l.length))) h := by
  unfold f_law_under
  rw [fnM_app]
  have it := itN_nat h l.length (by omega)
  rw [rng_map] at it
  have c1 : m_law_under_c1 [.val (.tup [sx0 "turn", iN a, .tup (nums o)]), .val (.tup (nums l)), .val (.tup (nums m)), .none] h = .ok (nums (unt o m l.length)) h := by
    unfold m_law_under_c1 unt
    rw [mLc_ints (A := Nat) (l := List.range l.length) (fun (k : Nat) => .int (k : Int)) (fun (k : Nat) => .int (m.getD (plc o (k : Int)) 0)) ?_ (by rw [List.length_range]; omega) fun k hk => ⟨_, rfl, ?_⟩, ← nums_map]
    · simp [it]
    · obtain ⟨p0, p1, p2⟩ := plc_ok so k (List.mem_range.mp hk)
      have g := getI_nat h (nums m) (plc o (k : Int)) (nums_at (by omega))
      have vi := vIndex_nums o (k : Int) h
      rw [p0] at vi
      have vi : vIndex (.lst (nums o)) (.int (k : Int)) h = .ok (.int ((plc o (k : Int) : Nat) : Int)) h := vi
      generalize plc o (k : Int) = i at *
      generalize m.getD i 0 = v at *
      simp [getI2, isLst, vi, g]
  simp [m_law_under, List.replicate, getI0, c1]
/-! ### comprehensions, item by item -/
def All2 {A B : Type} (P : A → B → Prop) : List A → List B → Prop
  | [], [] => True
  | a :: l, b :: m => P a b ∧ All2 P l m
  | _, _ => False
theorem All2.len {A B : Type} {P : A → B → Prop} : ∀ {l : List A} {m : List B}, All2 P l m → m.length = l.length
  | [], [], _ => rfl
  | _ :: _, _ :: _, h => by rw [List.length_cons, List.length_cons, All2.len h.2]
  | [], _ :: _, h => by cases h
  | _ :: _, [], h => by cases h
theorem lcL_all {A B : Type} (g : A → DV) (f : B → DV) {t : DV → En → Option En} {me : En → M DV} {e : En} (R : HP → Prop) (P : A → B → Prop) : ∀ (l : List A) (h : HP), R h → (∀ x ∈ l, ∀ h, R h → ∃ (e1 : En) (v : B) (h' : HP), t (g x) e = some e1 ∧ me e1 h = .ok (f v) h' ∧ P x v ∧ R h') →
    ∃ (vs : List B) (h' : HP), lcL t mYes me e (l.map g) h = .ok (vs.map f) h' ∧ All2 P l vs ∧ R h'
  | [], h, r, _ => ⟨[], h, rfl, trivial, r⟩
  | x :: l, h, r, q => by
    obtain ⟨e1, v, h1, a, b, p, r1⟩ := q x List.mem_cons_self h r
    obtain ⟨vs, h2, c, d, r2⟩ := lcL_all g f R P l h1 r1 fun y hy => q y (List.mem_cons_of_mem _ hy)
    refine ⟨v :: vs, h2, ?_, ⟨p, d⟩, r2⟩
    rw [List.map_cons, lcL_is]
    unfold lcOne
    rw [a]
    show bR (bR (me e1 h) _) _ = _
    rw [b, bR_ok, bR_ok, c, bR_ok]
    rfl
theorem mLc_all {A B : Type} (g : A → DV) (f : B → DV) {vs : List Nat} {mi : En → M (List DV)} {t : DV → En → Option En} {me : En → M DV} {e : En} {h h1 : HP} {l : List A} (R : HP → Prop) (P : A → B → Prop) (hi : mi e h = .ok (l.map g) h1) (hl : l.length ≤ 16777216) (r : R h1)
    (q : ∀ x ∈ l, ∀ h, R h → ∃ (e1 : En) (v : B) (h' : HP), t (g x) (wipeE e vs) = some e1 ∧ me e1 h = .ok (f v) h' ∧ P x v ∧ R h') : ∃ (ws : List B) (h' : HP), mLc vs mi t mYes me e h = .ok (ws.map f) h' ∧ All2 P l ws ∧ R h' := by
  obtain ⟨ws, h2, a, b, d⟩ := lcL_all g f R P l h1 r q
  refine ⟨ws, h2, ?_, b, d⟩
  unfold mLc
  rw [bind_app, hi, bR_ok, if_pos (by rw [List.length_map]; exact hl)]
  unfold noX
  rw [a]
theorem wo_low2 {l : List Int} {k : Nat} (h : low4 l) (hk : k < l.length) : low4 (wo l k) := ⟨by rw [wo_len l k hk]; have := h.1; omega, fun x hx => h.2 x (by
  unfold wo at hx
  rcases List.mem_append.mp hx with q | q
  · exact List.mem_of_mem_take q
  · exact List.mem_of_mem_drop q)⟩
/-! ### the drawn view -/
inductive View (l : List Int) : Ln → List Int → Prop
  | turn (o : List Int) (so : sortedOk o l.length = true) : View l (.turn 0 o) (o.map fun j => l.getD j.toNat 0)
  | wide (w : Nat) (hw : w ≤ l.length) : View l (.wide 0 (w : Int)) (l.take w ++ [1] ++ l.drop w)
  | spread (s : List Int) (fs : fitsTo l s) (s5 : s.length ≤ 5) : View l (.spread 0 s) s
  | shape (s : List Int) (ps : prod s = prod l) (s5 : s.length ≤ 5) : View l (.shape 0 s) s
  | drop (s : Nat) (x : Int) (hs : s < l.length) (x0 : 0 ≤ x) (x1 : x < l.getD s 0) : View l (.drop 0 (s : Int) x) (wo l s)
  | cut (s : Nat) (b t n : Int) (hs : s < l.length) (n0 : 0 ≤ n) (n1 : n ≤ 4) (t0 : t ≠ 0) (t1 : -3 ≤ t) (t2 : t ≤ 3) (b0 : 0 ≤ b) (b1 : b < l.getD s 0) (e0 : 0 < n → 0 ≤ b + t * (n - 1)) (e1 : 0 < n → b + t * (n - 1) < l.getD s 0) : View l (.cut 0 (s : Int) b t n) (chg l s n)
def small256 (l : List Int) : Prop := l.length ≤ 5 ∧ ∀ x ∈ l, 0 ≤ x ∧ x ≤ 256
theorem low_small {l : List Int} (h : low4 l) : small256 l := ⟨by have := h.1; omega, fun x hx => by have := h.2 x hx; omega⟩
theorem low_get {l : List Int} (h : low4 l) (k : Nat) (hk : k < l.length) : 0 ≤ l.getD k 0 ∧ l.getD k 0 ≤ 4 := h.2 _ (by
  rw [List.getD_eq_getElem?_getD, List.getElem?_eq_getElem hk]
  exact List.getElem_mem hk)
theorem view_small {l due : List Int} {ln : Ln} (v : View l ln due) (lo : low4 l) (ss : ∀ s, (ln = .spread 0 s ∨ ln = .shape 0 s) → small256 s) : small256 due := by
  have l4 := lo.1
  cases v with
  | turn o so =>
    refine ⟨by rw [List.length_map, sorted_len so]; omega, fun x hx => ?_⟩
    obtain ⟨j, hj, e⟩ := List.mem_map.mp hx
    obtain ⟨j0, j1⟩ := sorted_in so j hj
    have := low_get lo j.toNat (by omega)
    rw [← e]
    omega
  | wide w hw =>
    refine ⟨by simp; omega, fun x hx => ?_⟩
    rcases List.mem_append.mp hx with q | q
    · rcases List.mem_append.mp q with q | q
      · have := lo.2 x (List.mem_of_mem_take q); omega
      · rw [List.mem_singleton.mp q]; omega
    · have := lo.2 x (List.mem_of_mem_drop q); omega
  | spread s fs s5 => exact ss _ (.inl rfl)
  | shape s ps s5 => exact ss _ (.inr rfl)
  | drop s x hs x0 x1 =>
    have := low_small (wo_low2 lo hs)
    exact this
  | cut s b t n hs n0 n1 t0 t1 t2 b0 b1 e0 e1 =>
    refine ⟨by rw [chg_len l s n hs]; omega, fun x hx => ?_⟩
    unfold chg at hx
    rcases List.mem_append.mp hx with q | q
    · rcases List.mem_append.mp q with q | q
      · have := lo.2 x (List.mem_of_mem_take q); omega
      · rw [List.mem_singleton.mp q]; omega
    · have := lo.2 x (List.mem_of_mem_drop q); omega
theorem metO_of {a S : List Int} (f : fitsTo a S) : metO a S = some S := by
  have f1 := f.1
  have mx : max a.length S.length = S.length := Nat.max_eq_right f1
  have key : ∀ k, k < S.length → metOk (padL a S.length k) (padL S S.length k) = true ∧ met (padL a S.length k) (padL S S.length k) = S.getD k 0 := fun k hk => by
    have pS : padL S S.length k = S.getD k 0 := by
      have := padL_lo S S.length k hk (Nat.le_refl _)
      rwa [Nat.sub_self, Nat.zero_add] at this
    rw [pS]
    by_cases z : S.length - a.length ≤ k
    · have pa := padL_lo a S.length (k - (S.length - a.length)) (by omega) f1
      rw [show S.length - a.length + (k - (S.length - a.length)) = k by omega] at pa
      rcases f.2 (k - (S.length - a.length)) (by omega) with e | e
      · rw [pa, e]
        exact ⟨by simp [metOk], by simp [met]⟩
      · rw [show S.length - a.length + (k - (S.length - a.length)) = k by omega] at e
        rw [pa, ← e]
        refine ⟨by simp [metOk], ?_⟩
        unfold met
        split
        · rfl
        · rfl
    · have pa : padL a S.length k = 1 := by
        unfold padL
        rw [if_neg z]
      rw [pa]
      exact ⟨by simp [metOk], by simp [met]⟩
  unfold metO
  rw [mx, if_pos (List.all_eq_true.mpr fun k hk => (key k (List.mem_range.mp hk)).1)]
  congr 1
  refine getD_ext (by simp) fun k hk => ?_
  have hk : k < S.length := by simpa using hk
  rw [List.getD_eq_getElem?_getD, List.getElem?_map, List.getElem?_range hk]
  exact (key k hk).2
theorem view_due {l due : List Int} {ln : Ln} (v : View l ln due) (lo : low4 l) (ok : okS due = true) : ln.due [l] = some due ∧ ln.ok ∧ ln.wd ∧ ln.refs = [0] ∧ ln.num = 0 := by
  have l4 := lo.1
  have kin : ∀ s : Nat, s < l.length → inS (s : Int) l = true := fun s hs => by
    unfold inS
    rw [decide_eq_true (by omega), decide_eq_true (by omega)]
    rfl
  cases v with
  | turn o so =>
    refine ⟨?_, by have := sorted_len so; show o.length ≤ 900; omega, trivial, rfl, rfl⟩
    show turnO l o = _
    unfold turnO
    rw [if_pos so]
  | wide w hw =>
    refine ⟨?_, trivial, trivial, rfl, rfl⟩
    show wideO l (w : Int) = _
    unfold wideO
    rw [decide_eq_true (by omega), decide_eq_true (by omega), if_pos (show (true && true) = true from rfl), Int.toNat_natCast]
  | spread s fs s5 =>
    refine ⟨?_, by show due.length ≤ 6; omega, trivial, rfl, rfl⟩
    show spreadO l due = _
    unfold spreadO
    rw [if_pos (metO_of fs)]
  | shape s ps s5 =>
    refine ⟨?_, by show due.length ≤ 6; omega, trivial, rfl, rfl⟩
    show shapeO l due = _
    unfold shapeO
    rw [okSd_eq, ok, prodI_eq, prodI_eq, decide_eq_true ps, if_pos (show (true && true) = true from rfl)]
  | drop s x hs x0 x1 =>
    refine ⟨?_, trivial, trivial, rfl, rfl⟩
    show dropO l (s : Int) x = _
    unfold dropO inR
    rw [kin s hs, Int.toNat_natCast, decide_eq_true x0, decide_eq_true x1, if_pos (show (true && (true && true)) = true from rfl)]
  | cut s b t n hs n0 n1 t0 t1 t2 b0 b1 e0 e1 =>
    refine ⟨?_, ⟨by omega, by omega⟩, trivial, rfl, rfl⟩
    show cutO l (s : Int) b t n = _
    unfold cutO inR
    rw [kin s hs, Int.toNat_natCast, decide_eq_false t0, decide_eq_false (show ¬ n < 0 by omega), if_pos (show (true && (!false && !false)) = true from rfl), if_neg]
    rintro ⟨q1, q2⟩
    have q1 := of_decide_eq_true q1
    rw [decide_eq_true b0, decide_eq_true b1, decide_eq_true (e0 q1), decide_eq_true (e1 q1)] at q2
    cases q2
/-! ### the law draws a view -/
theorem rot_ok (n t : Nat) (hn : n ≤ 4) (ht : t < max 1 n) : sortedOk ((List.range n).map fun (k : Nat) => ((k : Int) + (t : Int)) % (n : Int)) n = true ∧ sortedOk ((List.range n).map fun (k : Nat) => ((k : Int) + (t : Int)) % (n : Int)).reverse n = true := by
  have : n = 0 ∨ n = 1 ∨ n = 2 ∨ n = 3 ∨ n = 4 := by omega
  rcases this with e | e | e | e | e <;> subst e
  · have : t = 0 := by simp at ht; omega
    subst this
    constructor <;> decide +kernel
  · have : t = 0 := by simp at ht; omega
    subst this
    constructor <;> decide +kernel
  · have : t = 0 ∨ t = 1 := by simp at ht; omega
    rcases this with e | e <;> subst e <;> constructor <;> decide +kernel
  · have : t = 0 ∨ t = 1 ∨ t = 2 := by simp at ht; omega
    rcases this with e | e | e <;> subst e <;> constructor <;> decide +kernel
  · have : t = 0 ∨ t = 1 ∨ t = 2 ∨ t = 3 := by simp at ht; omega
    rcases this with e | e | e | e <;> subst e <;> constructor <;> decide +kernel
theorem all2_fits : ∀ {l ws : List Int}, All2 (fun (x v : Int) => (x = 1 ∧ 0 ≤ v ∧ v ≤ 3) ∨ (x ≠ 1 ∧ v = x)) l ws → ∀ k, k < l.length → l.getD k 0 = 1 ∨ ws.getD k 0 = l.getD k 0
  | x :: l, v :: ws, h, 0, _ => by
    rcases h.1 with q | q
    · exact .inl q.1
    · exact .inr q.2
  | x :: l, v :: ws, h, k + 1, hk => all2_fits (l := l) (ws := ws) h.2 k (by simpa using hk)
  | [], _, _, _, hk => by cases hk
  | _ :: _, [], h, _, _ => by cases h
theorem all2_low : ∀ {l ws : List Int}, (∀ x ∈ l, 0 ≤ x ∧ x ≤ 4) → All2 (fun (x v : Int) => (x = 1 ∧ 0 ≤ v ∧ v ≤ 3) ∨ (x ≠ 1 ∧ v = x)) l ws → ∀ x ∈ ws, 0 ≤ x ∧ x ≤ 4
  | [], [], _, _, x, hx => by cases hx
  | y :: l, v :: ws, hl, h, x, hx => by
    rcases List.mem_cons.mp hx with e | e
    · have := hl y List.mem_cons_self
      rcases h.1 with q | q <;> omega
    · exact all2_low (fun z hz => hl z (List.mem_cons_of_mem _ hz)) h.2 x e
  | [], _ :: _, _, h, _, _ => by cases h
  | _ :: _, [], _, h, _, _ => by cases h
theorem law_view_is (ns : List Int) (l : List Int) (lo : low4 l) (w : Int) (w0 : 0 ≤ w) (w1 : w < 4) (h : HP) (r : Row0 ns h) : ∃ (ln : Ln) (due : List Int) (h' : HP), View l ln due ∧ small256 due ∧ Row0 ns h' ∧ f_law_view [.ref 0, .int 0, .tup (nums l), .int w] h = .ok (.tup [ln.dv, .tup (nums due)]) h' := by
  have l4 := lo.1
  unfold f_law_view
  rw [fnM_app]
  have wl : vLen (.tup (nums l)) h = .ok (.int (l.length : Int)) h := by rw [vLen_tup, nums_len]
  have ww : w = 0 ∨ w = 1 ∨ w = 2 ∨ w = 3 := by omega
  rcases ww with e | e | e | e <;> subst e
  · -- turn
    obtain ⟨t, h1, t0, t1, r1, e1⟩ := f_law_taken_is ns (max 1 (l.length : Int)) (by omega) h r
    obtain ⟨t, rfl⟩ := Int.eq_ofNat_of_zero_le t0
    have mx : (if (1 : Int) < (l.length : Int) then (l.length : Int) else 1) = max 1 (l.length : Int) := by omega
    obtain ⟨h2, h3, h4, r2, r3⟩ : True ∧ True ∧ True ∧ True ∧ True := ⟨trivial, trivial, trivial, trivial, trivial⟩
    have ok := rot_ok l.length t l4 (by omega)
    have it := itN_nat h1 l.length (by omega)
    rw [rng_map] at it
    have c1 : ∀ (A B C D E F G I : Slot), m_law_view_c1 [A, B, C, D, .val (.int (l.length : Int)), E, F, .val (.int (t : Int)), G, I, .none, .none] h1 = .ok (nums ((List.range l.length).map fun (k : Nat) => ((k : Int) + (t : Int)) % (l.length : Int))) h1 := fun A B C D E F G I => by
      unfold m_law_view_c1
      rw [mLc_ints (A := Nat) (l := List.range l.length) (fun (k : Nat) => .int (k : Int)) (fun (k : Nat) => .int (((k : Int) + (t : Int)) % (l.length : Int))) ?_ (by rw [List.length_range]; omega) fun k hk => ⟨_, rfl, ?_⟩, ← nums_map]
      · simp [it]
      · have := List.mem_range.mp hk
        have z : (0 : Int) < (l.length : Int) := by omega
        clear mx e1 it t1
        generalize (l.length : Int) = n at *
        simp [z]
    obtain ⟨ho1, ho2⟩ := ok
    generalize ho : ((List.range l.length).map fun (k : Nat) => ((k : Int) + (t : Int)) % (l.length : Int)) = o at *
    obtain ⟨f, h5, f0, f1, r5, e5⟩ := f_law_taken_is ns 2 (by omega) h1 r1
    have c2 : ∀ (o : List Int) (so : sortedOk o l.length = true) (A B D E F G H I : Slot), m_law_view_c2 [A, B, .val (.tup (nums l)), D, E, F, G, H, .val (.lst (nums o)), I, .none, .none] h5 = .ok (nums (o.map fun j => l.getD j.toNat 0)) h5 := fun o so A B D E F G H I => by
      unfold m_law_view_c2
      have ol := sorted_len so
      rw [mLc_ints (A := Int) (l := o) DV.int (fun j => .int (l.getD j.toNat 0)) ?_ (by omega) fun j hj => ⟨_, rfl, ?_⟩, ← nums_map]
      · simp [nums]
      · obtain ⟨j0, j1⟩ := sorted_in so j hj
        obtain ⟨k, rfl⟩ := Int.eq_ofNat_of_zero_le j0
        have g := getI_nat h5 (nums l) k (nums_at (by omega))
        rw [Int.toNat_natCast]
        generalize l.getD k 0 = v at *
        simp [g]
    have ff : f = 0 ∨ f = 1 := by omega
    rcases ff with e | e <;> subst e
    · refine ⟨.turn 0 o, _, h5, .turn o ho1, view_small (.turn o ho1) lo (fun s q => by rcases q with q | q <;> cases q), r5, ?_⟩
      have c2 := c2 o ho1
      generalize (o.map fun j => l.getD j.toNat 0) = du at *
      simp [m_law_view, m_law_view_r1, List.replicate, mx, e1, c1, e5, c2, Ln.dv, iN]
    · have rv : lLstRev (.lst (nums o)) h5 = .ok (nums o.reverse) h5 := by
        show Res.ok (nums o).reverse h5 = _
        rw [nums_rev]
      refine ⟨.turn 0 o.reverse, _, h5, .turn _ ho2, view_small (.turn _ ho2) lo (fun s q => by rcases q with q | q <;> cases q), r5, ?_⟩
      have c2 := c2 o.reverse ho2
      generalize (o.reverse.map fun j => l.getD j.toNat 0) = du at *
      generalize o.reverse = o2 at *
      simp [m_law_view, m_law_view_r1, List.replicate, mx, e1, c1, e5, c2, rv, Ln.dv, iN]
  · -- wide
    obtain ⟨t, h1, t0, t1, r1, e1⟩ := f_law_taken_is ns ((l.length : Int) + 1) (by omega) h r
    obtain ⟨t, rfl⟩ := Int.eq_ofNat_of_zero_le t0
    have v : View l (.wide 0 (t : Int)) (l.take t ++ [1] ++ l.drop t) := .wide t (by omega)
    refine ⟨_, _, h1, v, view_small v lo (fun s q => by rcases q with q | q <;> cases q), r1, ?_⟩
    have ct := cut_to (nums l) t
    have cf := cut_from (nums l) t
    rw [nums_take] at ct
    rw [nums_drop] at cf
    obtain ⟨v1, v2⟩ := vadd3' (l.take t) (l.drop t) 1 (by simp; omega) (by simp; omega) h1
    generalize nums (l.take t ++ [1] ++ l.drop t) = R at *
    generalize nums (l.take t ++ [1]) = R1 at *
    generalize nums (l.take t) = gt at *
    generalize nums (l.drop t) = gf at *
    simp [m_law_view, m_law_view_r1, m_law_view_r2, List.replicate, e1, ct, cf, v1, v2, Ln.dv, iN]
  · -- spread
    obtain ⟨ws, h2, c3, al, r2⟩ := mLc_all (A := Int) (B := Int) (l := l) (vs := [11]) (mi := iB (eVar 2) itS) (t := tName 11)
      (me := e2 vIdx (eFrz (aCons (eVar 11) (aCons (eCall f_law_taken (aCons (eVar 0) (aCons (eC (.int 4)) aNil))) aNil))) (e1 vInt (e2 vEq (eVar 11) (eC (.int 1)))))
      (e := [.val (.ref 0), .val (.int 0), .val (.tup (nums l)), .val (.int 2), .val (.int (l.length : Int)), .none, .none, .none, .none, .none, .none, .none]) (h := h) (h1 := h) DV.int DV.int (Row0 ns) (fun (x v : Int) => (x = 1 ∧ 0 ≤ v ∧ v ≤ 3) ∨ (x ≠ 1 ∧ v = x)) (by simp [nums]) (by omega) r (fun x _ g rg => by
        obtain ⟨t, g', t0, t1, rg', e8⟩ := f_law_taken_is ns 4 (by omega) g rg
        by_cases z : x = 1
        · exact ⟨_, t, g', rfl, by simp [e8, z, getI1], .inl ⟨z, t0, by omega⟩, rg'⟩
        · exact ⟨_, x, g', rfl, by simp [e8, z, getI0], .inr ⟨z, rfl⟩, rg'⟩)
    have c3 : m_law_view_c3 [.val (.ref 0), .val (.int 0), .val (.tup (nums l)), .val (.int 2), .val (.int (l.length : Int)), .none, .none, .none, .none, .none, .none, .none] h = .ok (nums ws) h2 := c3
    have wl2 := al.len
    have fz := all2_fits al
    have lw := all2_low lo.2 al
    obtain ⟨f, h5, f0, f1, r5, e5⟩ := f_law_taken_is ns 2 (by omega) h2 r2
    have ff : f = 0 ∨ f = 1 := by omega
    rcases ff with e | e <;> subst e
    · have fs : fitsTo l ws := ⟨by omega, fun k hk => by
        rw [wl2, Nat.sub_self, Nat.zero_add]
        exact fz k hk⟩
      have v : View l (.spread 0 ws) ws := .spread ws fs (by omega)
      refine ⟨_, _, h5, v, ⟨by omega, fun x hx => by have := lw x hx; omega⟩, r5, ?_⟩
      simp [m_law_view, m_law_view_r1, m_law_view_r2, m_law_view_r3, List.replicate, c3, e5, Ln.dv, iN]
    · obtain ⟨t, h6, t0, t1, r6, e6⟩ := f_law_taken_is ns 4 (by omega) h5 r5
      have fs : fitsTo l (t :: ws) := ⟨by rw [List.length_cons]; omega, fun k hk => by
        rw [List.length_cons, show ws.length + 1 - l.length + k = k + 1 by omega, List.getD_cons_succ]
        exact fz k hk⟩
      have v : View l (.spread 0 (t :: ws)) (t :: ws) := .spread _ fs (by rw [List.length_cons]; omega)
      refine ⟨_, _, h6, v, ⟨by rw [List.length_cons]; omega, fun x hx => by
        rcases List.mem_cons.mp hx with q | q
        · omega
        · have := lw x q; omega⟩, r6, ?_⟩
      have va := vadd2 [t] ws (by simp) (by omega) h6
      have va : vAdd (.tup [.int t]) (.tup (nums ws)) h6 = .ok (.tup (.int t :: nums ws)) h6 := va
      simp [m_law_view, m_law_view_r1, m_law_view_r2, m_law_view_r3, List.replicate, c3, e5, e6, va, Ln.dv, iN]
  · -- shape
    have lc : f_law_cells [.tup (nums l)] h = _ := lcellsG true l (okS_mid (low4_ok lo).1) h
    obtain ⟨t, h1, t0, t1, r1, e1⟩ := f_law_taken_is ns 4 (by omega) h r
    have p1 := (low4_ok lo).2
    have p0 := okS_nn (low4_ok lo).1
    have rv : vTupRevA (.tup (nums l)) h = .ok (.tup (nums l.reverse)) h := by rw [vTupRevA_tup, nums_rev]
    have key : ∃ s : List Int, prod s = prod l ∧ small256 s ∧ getI [.tup (nums l.reverse), .tup [.int (prod l)], .tup [.int 1, .int (prod l)], .tup [.int (prod l), .int 1]] t h1 = .ok (.tup (nums s)) h1 := by
      have tt : t = 0 ∨ t = 1 ∨ t = 2 ∨ t = 3 := by omega
      rcases tt with e | e | e | e <;> subst e
      · exact ⟨l.reverse, prod_rev l, ⟨by rw [List.length_reverse]; omega, fun x hx => by have := lo.2 x (List.mem_reverse.mp hx); omega⟩, getI0 _ _ h1⟩
      · exact ⟨[prod l], by simp [prod], ⟨by simp, fun x hx => by rw [List.mem_singleton.mp hx]; omega⟩, getI1 _ _ _ h1⟩
      · exact ⟨[1, prod l], by simp [prod], ⟨by simp, fun x hx => by
          simp only [List.mem_cons, List.not_mem_nil, or_false] at hx
          rcases hx with e | e <;> rw [e] <;> omega⟩, getI2 _ _ _ _ h1⟩
      · exact ⟨[prod l, 1], by simp [prod], ⟨by simp, fun x hx => by
          simp only [List.mem_cons, List.not_mem_nil, or_false] at hx
          rcases hx with e | e <;> rw [e] <;> omega⟩, getI3 _ _ _ _ _ h1⟩
    obtain ⟨s, ps, ss, gs⟩ := key
    have v : View l (.shape 0 s) s := .shape s ps ss.1
    refine ⟨_, _, h1, v, ss, r1, ?_⟩
    generalize prod l = pl at *
    simp [m_law_view, m_law_view_r1, m_law_view_r2, m_law_view_r3, m_law_view_r4, m_law_view_r5, m_law_view_r6, List.replicate, lc, rv, e1, gs, Ln.dv, iN]
theorem cut_room (b s t n r f : Int) (s1 : s ≤ 4) (b0 : 0 ≤ b) (b1 : b < s) (t0 : 1 ≤ t) (t1 : t ≤ 3) (hr : r = (s - 1 - b) / t) (f0 : 0 ≤ f) (f1 : f < r + 2) (hn : n = r + 1 - f) : 0 ≤ n ∧ n ≤ 4 ∧ (0 < n → 0 ≤ b + t * (n - 1) ∧ b + t * (n - 1) < s) := by
  have tt : t = 1 ∨ t = 2 ∨ t = 3 := by omega
  rcases tt with e | e | e <;> subst e <;> refine ⟨by omega, by omega, fun _ => ⟨by omega, by omega⟩⟩
theorem cut_back (b s t n r f : Int) (s1 : s ≤ 4) (b0 : 0 ≤ b) (b1 : b < s) (t0 : 1 ≤ t) (t1 : t ≤ 3) (hr : r = b / t) (f0 : 0 ≤ f) (f1 : f < r + 2) (hn : n = r + 1 - f) : 0 ≤ n ∧ n ≤ 4 ∧ (0 < n → 0 ≤ b + (0 - t) * (n - 1) ∧ b + (0 - t) * (n - 1) < s) := by
  have tt : t = 1 ∨ t = 2 ∨ t = 3 := by omega
  rcases tt with e | e | e <;> subst e <;> refine ⟨by omega, by omega, fun _ => ⟨by omega, by omega⟩⟩
/-- a drop, a cut; or a one where the side is nought -/
theorem law_sided_is (ns : List Int) (l : List Int) (lo : low4 l) (ne : l ≠ []) (w : Int) (hw : w = 7 ∨ w = 8) (h : HP) (r : Row0 ns h) :
    (∃ (ln : Ln) (due : List Int) (h' : HP), View l ln due ∧ small256 due ∧ Row0 ns h' ∧ (ln.dv = ln.dv) ∧ (∃ t r, ln.dv = .tup (.str t :: r) ∧ vEq (.str t) (sx0 "one") h' = .ok (.bl false) h') ∧ f_law_sided [.ref 0, .int 0, .tup (nums l), .int w] h = .ok (.tup [ln.dv, .tup (nums due)]) h') ∨
    (∃ (h' : HP), Row0 ns h' ∧ f_law_sided [.ref 0, .int 0, .tup (nums l), .int w] h = .ok (.tup [.tup [sx0 "one", sx0 "none", .int 0], .tup (nums l)]) h') := by
  have l4 := lo.1
  have lp := List.length_pos_iff.mpr ne
  unfold f_law_sided
  rw [fnM_app]
  obtain ⟨s, h1, s0, s1, r1, e1⟩ := f_law_taken_is ns (l.length : Int) (by omega) h r
  obtain ⟨s, rfl⟩ := Int.eq_ofNat_of_zero_le s0
  have hs : s < l.length := by omega
  have g := getI_nat h1 (nums l) s (nums_at hs)
  obtain ⟨x0, x1⟩ := low_get lo s hs
  by_cases z : l.getD s 0 = 0
  · right
    refine ⟨h1, r1, ?_⟩
    rw [z] at g
    rcases hw with e | e <;> subst e <;> simp [m_law_sided, m_law_sided_r1, m_law_sided_r2, m_law_sided_r3, m_law_sided_r4, m_law_sided_r5, m_law_sided_r6, List.replicate, e1, g]
  · left
    obtain ⟨b, h2, b0, b1, r2, e2⟩ := f_law_taken_is ns (l.getD s 0) (by omega) h1 r1
    rcases hw with e | e <;> subst e
    · have v : View l (.drop 0 (s : Int) b) (wo l s) := .drop s b hs b0 b1
      refine ⟨_, _, h2, v, view_small v lo (fun s q => by rcases q with q | q <;> cases q), r2, rfl, ⟨Str.ofString "drop", _, rfl, by simp⟩, ?_⟩
      have ct := cut_to (nums l) s
      have cf := cut_from (nums l) (s + 1)
      rw [nums_take] at ct
      rw [nums_drop, show ((s + 1 : Nat) : Int) = (s : Int) + 1 by omega] at cf
      have va := vadd2 (l.take s) (l.drop (s + 1)) (by simp; omega) (by simp; omega) h2
      unfold wo
      generalize nums (l.take s ++ l.drop (s + 1)) = R at *
      generalize nums (l.take s) = gt at *
      generalize nums (l.drop (s + 1)) = gf at *
      generalize l.getD s 0 = x at *
      simp [m_law_sided, m_law_sided_r1, m_law_sided_r2, m_law_sided_r3, m_law_sided_r4, m_law_sided_r5, m_law_sided_r6, m_law_sided_r7, m_law_sided_r8, List.replicate, e1, g, z, e2, ct, cf, va, Ln.dv, iN]
    · obtain ⟨t, h3, t0, t1, r3, e3⟩ := f_law_taken_is ns 3 (by omega) h2 r2
      obtain ⟨f, h4, f0, f1, r4, e4⟩ := f_law_taken_is ns 2 (by omega) h3 r3
      have tp1 : 0 < 1 + t := by omega
      have tp2 : 1 + t < 1073741824 := by omega
      have ff : f = 0 ∨ f = 1 := by omega
      rcases ff with e | e <;> subst e
      · have rp : 0 ≤ (l.getD s 0 - 1 - b) / (1 + t) := Int.ediv_nonneg (by omega) (by omega)
        obtain ⟨q, h5, q0, q1, r5, e5⟩ := f_law_taken_is ns ((l.getD s 0 - 1 - b) / (1 + t) + 2) (by omega) h4 r4
        obtain ⟨n0, n1, n2⟩ := cut_room b (l.getD s 0) (1 + t) _ _ q (by omega) b0 b1 (by omega) (by omega) rfl q0 q1 rfl
        have v : View l (.cut 0 (s : Int) b (1 + t) ((l.getD s 0 - 1 - b) / (1 + t) + 1 - q)) (chg l s ((l.getD s 0 - 1 - b) / (1 + t) + 1 - q)) := .cut s b _ _ hs n0 n1 (by omega) (by omega) (by omega) b0 b1 (fun z => (n2 z).1) (fun z => (n2 z).2)
        refine ⟨_, _, h5, v, view_small v lo (fun s q => by rcases q with q | q <;> cases q), r5, rfl, ⟨Str.ofString "cut", _, rfl, by simp⟩, ?_⟩
        have ch := f_law_changed_is l s ((l.getD s 0 - 1 - b) / (1 + t) + 1 - q) (by omega) h5
        generalize l.getD s 0 = x at *
        generalize nums (chg l s ((x - 1 - b) / (1 + t) + 1 - q)) = R at *
        simp [m_law_sided, m_law_sided_r1, m_law_sided_r2, m_law_sided_r3, m_law_sided_r4, m_law_sided_r5, m_law_sided_r6, m_law_sided_r7, m_law_sided_r8, m_law_sided_r9, m_law_sided_r10, m_law_sided_r11, m_law_sided_r12, m_law_sided_r13, List.replicate, e1, g, z, e2, e3, e4, e5, tp1, tp2, ch, Ln.dv, iN]
      · have rp : 0 ≤ b / (1 + t) := Int.ediv_nonneg b0 (by omega)
        obtain ⟨q, h5, q0, q1, r5, e5⟩ := f_law_taken_is ns (b / (1 + t) + 2) (by omega) h4 r4
        obtain ⟨n0, n1, n2⟩ := cut_back b (l.getD s 0) (1 + t) _ _ q (by omega) b0 b1 (by omega) (by omega) rfl q0 q1 rfl
        have v : View l (.cut 0 (s : Int) b (0 - (1 + t)) (b / (1 + t) + 1 - q)) (chg l s (b / (1 + t) + 1 - q)) := .cut s b _ _ hs n0 n1 (by omega) (by omega) (by omega) b0 b1 (fun z => (n2 z).1) (fun z => (n2 z).2)
        refine ⟨_, _, h5, v, view_small v lo (fun s q => by rcases q with q | q <;> cases q), r5, rfl, ⟨Str.ofString "cut", _, rfl, by simp⟩, ?_⟩
        have ch := f_law_changed_is l s (b / (1 + t) + 1 - q) (by omega) h5
        generalize l.getD s 0 = x at *
        generalize nums (chg l s (b / (1 + t) + 1 - q)) = R at *
        generalize hT : 0 - (1 + t) = T at *
        simp [m_law_sided, m_law_sided_r1, m_law_sided_r2, m_law_sided_r3, m_law_sided_r4, m_law_sided_r5, m_law_sided_r6, m_law_sided_r7, m_law_sided_r8, m_law_sided_r9, m_law_sided_r10, m_law_sided_r11, m_law_sided_r12, m_law_sided_r13, List.replicate, e1, g, z, e2, e3, e4, e5, tp1, tp2, ch, Ln.dv, iN, hT]

end LM

namespace LM
open PySem L2
/-! ### the view's cells -/
def okN (n : Int) : Prop := 0 ≤ n ∧ n < 1000003
def lookI (l : List Int) : Ln → List Int → List Int
  | .turn _ o, m => unt o m l.length
  | .wide _ w, m => wo m w.toNat
  | .spread _ _, m => spr l m
  | .drop _ s x, m => ins m s.toNat x
  | .cut _ s b t _, m => chg m s.toNat (b + t * m.getD s.toNat 0)
  | _, m => m
def isShape : Ln → Bool
  | .shape _ _ => true
  | _ => false
theorem look_in {l due m : List Int} {ln : Ln} (v : View l ln due) (ns : isShape ln = false) (hb : inB due m) : inB l (lookI l ln m) := by
  have ml := inB_len hb
  cases v with
  | turn o so => exact inB_unt so hb
  | wide w hw =>
    show inB l (wo m ((w : Int)).toNat)
    rw [Int.toNat_natCast]
    exact inB_wide hw hb
  | spread s fs s5 => exact inB_spr fs hb
  | shape s ps s5 => cases ns
  | drop s x hs x0 x1 =>
    show inB l (ins m ((s : Int)).toNat x)
    rw [Int.toNat_natCast]
    exact inB_ins hs hb x0 x1
  | cut s b t n hs n0 n1 t0 t1 t2 b0 b1 e0 e1 =>
    show inB l (chg m ((s : Int)).toNat (b + t * m.getD ((s : Int)).toNat 0))
    rw [Int.toNat_natCast]
    have q := inB_at s hb (by rw [chg_len l s n hs]; exact hs)
    rw [chg_get l s n hs] at q
    obtain ⟨q0, q1⟩ := q
    obtain ⟨c0, c1⟩ := cut_in b t n (m.getD s 0) (l.getD s 0) b0 b1 (e0 (by omega)) (e1 (by omega)) q0 q1
    have := inB_chg (k := s) (a := b + t * m.getD s 0) (y := l.getD s 0) hb c0 c1
    rw [chg_chg l s n _ hs, chg_self l s hs] at this
    exact this
section
variable {l due c : List Int} {ln : Ln} {p : Nat}
theorem view_table (v : View l ln due) (ns : isShape ln = false) (ok : okS l = true) (okd_ : okS due = true) (hc : (c.length : Int) = prod l) (co : c.all cellOk = true) (h : HP) (q : Has h p c) :
    f_plain_table [ln.dv, .tup (nums due), .lst [tdv l p], .lst [tdv l p]] h = .ok (tdv due h.length) (h ++ [HObj.lst (nums (tabF due fun m => at0 l c (lookI l ln m)))]) := by
  have l4 := okS_len ok
  have d4 := okS_len okd_
  have hk : ∀ m, inB due m → okN (at0 l c (lookI l ln m)) := fun m hm => at0_ok (look_in v ns hm) hc co
  have v0 := v
  cases v with
  | turn o so =>
    exact table_coreR _ _ _ [tdv l p] _ _ _ f_cell_turn _ h (by simp) (by simp) (by simp) rfl rfl okd_ fun m hm => ⟨cell_turn_is 0 ok hc q so (by rw [inB_len hm, List.length_map, sorted_len so]) (look_in v0 ns hm), hk m hm⟩
  | wide w hw =>
    refine table_coreR _ _ _ [tdv l p] _ _ _ f_cell_wide _ h (by simp) (by simp) (by simp) rfl rfl okd_ fun m hm => ⟨?_, hk m hm⟩
    have b := look_in v0 ns hm
    have b : inB l (wo m ((w : Int)).toNat) := b
    show _ = Res.ok (DV.int (at0 l c (wo m ((w : Int)).toNat))) h
    rw [Int.toNat_natCast] at b ⊢
    exact cell_wide_is 0 w ok hc q (by rw [inB_len hm]; omega) b
  | spread s fs s5 =>
    exact table_coreR _ _ _ [tdv l p] _ _ _ f_cell_spread _ h (by simp) (by simp) (by simp) rfl rfl okd_ fun m hm => ⟨cell_spread_is 0 _ ok hc q fs hm (by omega), hk m hm⟩
  | shape s ps s5 => cases ns
  | drop s x hs x0 x1 =>
    refine table_coreR _ _ _ [tdv l p] _ _ _ f_cell_drop _ h (by simp) (by simp) (by simp) rfl rfl okd_ fun m hm => ⟨?_, hk m hm⟩
    have b := look_in v0 ns hm
    have b : inB l (ins m ((s : Int)).toNat x) := b
    show _ = Res.ok (DV.int (at0 l c (ins m ((s : Int)).toNat x))) h
    rw [Int.toNat_natCast] at b ⊢
    exact cell_drop_is 0 s x ok hc q (by rw [inB_len hm]; omega) b
  | cut s b t n hs n0 n1 t0 t1 t2 b0 b1 e0 e1 =>
    refine table_coreR _ _ _ [tdv l p] _ _ _ f_cell_cut _ h (by simp) (by simp) (by simp) rfl rfl okd_ fun m hm => ⟨?_, hk m hm⟩
    have bb := look_in v0 ns hm
    have bb : inB l (chg m ((s : Int)).toNat (b + t * m.getD ((s : Int)).toNat 0)) := bb
    show _ = Res.ok (DV.int (at0 l c (chg m ((s : Int)).toNat (b + t * m.getD ((s : Int)).toNat 0)))) h
    rw [Int.toNat_natCast] at bb ⊢
    have ml := inB_len hm
    rw [chg_len l s n hs] at ml
    exact cell_cut_is 0 s b t n ok hc q (by omega) (by omega) (mulOk_l t _ (by omega) (by omega)) bb
theorem look_law {m : List Int} (v : View l ln due) (ns : isShape ln = false) (ok : okS l = true) (okd_ : okS due = true) (hc : (c.length : Int) = prod l) (hb : inB due m) (h : HP) :
    ∃ u : List Int, f_law_under [ln.dv, .tup (nums l), .tup (nums m)] h = .ok (.tup (nums u)) h ∧ f_law_look [.tup (nums l), .lst (nums c), .tup (nums u)] h = .ok (.int (at0 l c (lookI l ln m))) h := by
  have l4 := okS_len ok
  have d4 := okS_len okd_
  have ml := inB_len hb
  have li := look_in v ns hb
  have lk := f_law_look_is ok hc (fitsTo_refl l) li (by omega) h
  rw [spr_self li] at lk
  cases v with
  | turn o so =>
    rw [List.length_map, sorted_len so] at ml
    exact ⟨_, under_turn 0 l4 so ml h, lk⟩
  | wide w hw =>
    refine ⟨wo m w, under_wide 0 w (by omega) h, ?_⟩
    have lk : f_law_look [.tup (nums l), .lst (nums c), .tup (nums (wo m ((w : Int)).toNat))] h = .ok (.int (at0 l c (wo m ((w : Int)).toNat))) h := lk
    show _ = Res.ok (DV.int (at0 l c (wo m ((w : Int)).toNat))) h
    rw [Int.toNat_natCast] at lk ⊢
    exact lk
  | spread s fs s5 =>
    have f1 := fs.1
    refine ⟨m.drop (m.length - l.length), under_spread 0 _ (by omega) h, ?_⟩
    have bd := inB_drop (due.length - l.length) hb
    have lk2 := f_law_look_is ok hc (fits_drop fs) (m := m.drop (m.length - l.length)) (by rw [ml]; exact bd) (by simp; omega) h
    rw [spr_drop (by omega)] at lk2
    exact lk2
  | shape s ps s5 => cases ns
  | drop s x hs x0 x1 =>
    refine ⟨ins m s x, under_drop 0 s x (by omega) h, ?_⟩
    have lk : f_law_look [.tup (nums l), .lst (nums c), .tup (nums (ins m ((s : Int)).toNat x))] h = .ok (.int (at0 l c (ins m ((s : Int)).toNat x))) h := lk
    show _ = Res.ok (DV.int (at0 l c (ins m ((s : Int)).toNat x))) h
    rw [Int.toNat_natCast] at lk ⊢
    exact lk
  | cut s b t n hs n0 n1 t0 t1 t2 b0 b1 e0 e1 =>
    rw [chg_len l s n hs] at ml
    have q := inB_at s hb (by rw [chg_len l s n hs]; exact hs)
    rw [chg_get l s n hs] at q
    refine ⟨chg m s (b + t * m.getD s 0), under_cut 0 s b t n (by omega) (by omega) (mulOk_r _ t (by omega) (by omega)) h, ?_⟩
    have lk : f_law_look [.tup (nums l), .lst (nums c), .tup (nums (chg m ((s : Int)).toNat (b + t * m.getD ((s : Int)).toNat 0)))] h = .ok (.int (at0 l c (chg m ((s : Int)).toNat (b + t * m.getD ((s : Int)).toNat 0)))) h := lk
    show _ = Res.ok (DV.int (at0 l c (chg m ((s : Int)).toNat (b + t * m.getD ((s : Int)).toNat 0)))) h
    rw [Int.toNat_natCast] at lk ⊢
    exact lk
end
/-! ### the law -/
theorem mxO_le : ∀ (l : List Int) (d x : Int), x ∈ l → x ≤ mxO l d := by
  have key : ∀ (l : List Int) (y : Int), y ≤ l.foldl max y ∧ ∀ x ∈ l, x ≤ l.foldl max y := by
    intro l
    induction l with
    | nil => exact fun y => ⟨Int.le_refl y, fun x hx => by cases hx⟩
    | cons a r ih =>
      intro y
      obtain ⟨h1, h2⟩ := ih (max y a)
      refine ⟨by rw [List.foldl_cons]; omega, fun x hx => ?_⟩
      rw [List.foldl_cons]
      rcases List.mem_cons.mp hx with e | e
      · rw [e]; omega
      · exact h2 x e
  intro l d x hx
  cases l with
  | nil => cases hx
  | cons a r =>
    obtain ⟨h1, h2⟩ := key r a
    rcases List.mem_cons.mp hx with e | e
    · rw [e]; exact h1
    · exact h2 x e
theorem five_loop (A : Slot) (B C D E F G I J : Slot) (due : List Int) (p : Nat) (N : Slot) : ∀ (n k : Nat) (c : List Int) (h : HP), k + n = c.length → Has h p c →
    ∃ c', forL (tName 9) m_law_b2 [9] ((List.range' k n).map fun (j : Nat) => DV.int (j : Int)) [A, B, C, D, E, F, G, I, .val (tdv due p), .none, J, N] h = .nx [A, B, C, D, E, F, G, I, .val (tdv due p), .none, J, N] (h.set p (HObj.lst (nums c')))
  | 0, k, c, h, _, q => ⟨c, by
      have : h.set p (HObj.lst (nums c)) = h := by
        apply List.ext_getElem?
        intro i
        by_cases e : i = p
        · subst e
          rw [List.getElem?_set_self (List.getElem?_eq_some_iff.mp q).1]
          exact q.symm
        · rw [List.getElem?_set_ne (Ne.symm e)]
      rw [this]
      rfl⟩
  | n + 1, k, c, h, hl, q => by
    have lt := (List.getElem?_eq_some_iff.mp q).1
    have pa := putAt_nat (nums c) (.int 5) k (by rw [nums_len]; omega)
    rw [nums_set] at pa
    have v1 := fld_c due p h
    have hs : hSet h (.ref p) (.int (k : Int)) (.int 5) = some (h.set p (.lst (nums (c.set k 5)))) := by
      show (match h[p]? with
        | some (.lst l) => (match putAt l (.int 5) (.int (k : Int)) with
          | some l2 => some (h.set p (.lst l2))
          | none => none)
        | _ => none) = _
      rw [show h[p]? = some (HObj.lst (nums c)) from q]
      simp only [pa]
    have t : turn (tName 9) m_law_b2 [9] (.int (k : Int)) [A, B, C, D, E, F, G, I, .val (tdv due p), .none, J, N] h = .nx [A, B, C, D, E, F, G, I, .val (tdv due p), .none, J, N] (h.set p (HObj.lst (nums (c.set k 5)))) := by
      simp [m_law_b2, v1, hs, hNx]
    have q2 : Has (h.set p (HObj.lst (nums (c.set k 5)))) p (c.set k 5) := by
      unfold Has
      rw [List.getElem?_set_self lt]
    obtain ⟨c', e⟩ := five_loop A B C D E F G I J due p N n (k + 1) (c.set k 5) _ (by rw [List.length_set]; omega) q2
    refine ⟨c', ?_⟩
    rw [List.range'_succ, List.map_cons, forL_cons, t, lR_nx, e, List.set_set]
theorem flat_app {h : HP} (hh : h.all flatO = true) (c : List Int) : (h ++ [HObj.lst (nums c)]).all flatO = true := by
  rw [List.all_append, hh, Bool.true_and]
  have := flat_nums c
  show (flatRs (nums c) && true) = true
  rw [Bool.and_true]
  exact this

end LM

namespace LM
open PySem L2
@[simp] theorem w_one_one (h : HP) : vEq (.str (Str.ofString "one")) (.str (Str.ofString "one")) h = .ok (.bl true) h := by rw [vEq_str h _ _ (lay_str _ (by decide +kernel)) (lay_str _ (by decide +kernel)), decide_eq_true rfl]
theorem vNe_lit (h : HP) (a b : Str) (v : Bool) (q : eqD (.str a) (.str b) = some v) : vNe (.str a) (.str b) h = .ok (.bl (!v)) h := by
  unfold vNe
  rw [q]
  rfl
def env12 (S A : Slot) (l c : List Int) (due5 : Slot) (ln : Ln) (due : List Int) : En :=
  [S, .val (.ref 0), A, .val (.tup (nums l)), .val (.lst (nums c)), due5, .none, .none, .none, .none, .val (.tup [ln.dv, .tup (nums due)]), .none]
theorem loop12 {l due c : List Int} {ln : Ln} (S A : Slot) (v : View l ln due) (ns : isShape ln = false) (ok : okS l = true) (okd_ : okS due = true) (hc : (c.length : Int) = prod l) (h : HP) :
    forL (tName 11) m_law_b1 [11] ((List.range (prod due).toNat).map fun (k : Nat) => DV.int (k : Int)) (env12 S A l c (.own []) ln due) h = .nx (env12 S A l c (.own (nums (tabF due fun m => at0 l c (lookI l ln m)))) ln due) h := by
  have p0 := okS_nn okd_
  have p1 := okS_prod okd_
  have e := forL_fold (A := Nat) (S := List Int) (t := tName 11) (fg := [11]) (b := m_law_b1) (h := h) (fun k => .int (k : Int)) (fun s => env12 S A l c (.own (nums s)) ln due) (fun s k => s ++ [at0 l c (lookI l ln (ixs due (k : Int)))])
    (fun s ks => s.length + ks.length ≤ 4096 ∧ ∀ k ∈ ks, k < (prod due).toNat) (List.range (prod due).toNat) [] ⟨by simp; omega, fun k hk => List.mem_range.mp hk⟩ (fun s k ks ⟨h1, h2⟩ => by
      rw [List.length_cons] at h1
      have hk := h2 k List.mem_cons_self
      have ps := tabF_pos okd_ hk
      have ib := inB_ixs due ps (k : Int)
      have li := lindexG due (okS_mid okd_) ps (by have := okS_len okd_; omega) (fun j => prod_drop_le (in64_iff.mpr (okS_in okd_)) (okS_len okd_) j) (k : Int) h
      obtain ⟨u, u1, u2⟩ := look_law (c := c) v ns ok okd_ hc ib h
      refine ⟨⟨by simp; omega, fun j hj => h2 j (List.mem_cons_of_mem _ hj)⟩, ?_⟩
      have z : s.length < 16777216 := by omega
      unfold env12
      generalize at0 l c (lookI l ln (ixs due (k : Int))) = x at *
      generalize ixs due (k : Int) = ix at *
      generalize ln.dv = ld at *
      simp [m_law_b1, getI0, getI1, li, u1, u2, z])
  rw [foldl_appA, List.nil_append] at e
  exact e
theorem law_end12 (S A : Slot) (l c due : List Int) (ln : Ln) (v : View l ln due) (sm : small256 due) (lo : low4 l) (hc : (c.length : Int) = prod l) (co : c.all cellOk = true) (h : HP) (hh : h.all flatO = true)
    (tg : ∃ t r, ln.dv = .tup (.str t :: r) ∧ (∀ h, vEq (.str t) (sx0 "one") h = .ok (.bl false) h) ∧ ∀ h, vNe (.str t) (sx0 "shape") h = .ok (.bl (!isShape ln)) h) :
    ∃ h', fR (m_law_r5 (env12 S A l c .none ln due) h) = .ok (.bl true) h' := by
  obtain ⟨t, r, et, t1, t2⟩ := tg
  have ok := (low4_ok lo).1
  have md : midI due := fun x hx => by have := sm.2 x hx; omega
  have lc : f_law_cells [.tup (nums due)] h = _ := lcellsG true due md h
  have k6 : m_law_r5 (env12 S A l c .none ln due) h = m_law_r6 (env12 S A l c .none ln due) h := by
    unfold env12
    rw [et]
    simp [m_law_r5, getI0, t1]
  by_cases bad : (4 : Int) < (due.length : Int) ∨ 250 < prod due ∨ 64 < mxO due 0
  · refine ⟨h, ?_⟩
    rw [k6]
    unfold env12
    generalize ln.dv = ld at *
    rcases bad with b | b | b
    · simp [m_law_r6, getI1, b]
    · by_cases b1 : (4 : Int) < (due.length : Int) <;> simp [m_law_r6, getI1, b1, lc, b]
    · by_cases b1 : (4 : Int) < (due.length : Int)
      · simp [m_law_r6, getI1, b1]
      · by_cases b2 : 250 < prod due <;> simp [m_law_r6, getI1, b1, lc, b2, b]
  · have b1 : ¬ (4 : Int) < (due.length : Int) := fun q => bad (.inl q)
    have b2 : ¬ 250 < prod due := fun q => bad (.inr (.inl q))
    have b3 : ¬ 64 < mxO due 0 := fun q => bad (.inr (.inr q))
    have okd_ : okS due = true := by
      unfold okS
      rw [decide_eq_true (show due.length ≤ 4 by omega), decide_eq_true (show prod due ≤ 4096 by omega), in64_iff.mpr fun x hx => ⟨(sm.2 x hx).1, by have := mxO_le due 0 x hx; omega⟩]
      rfl
    have it := itN_prod okd_ h
    -- the cells due
    obtain ⟨W, tw, k9, pt⟩ : ∃ W : List Int, tabOk due W = true ∧ m_law_r5 (env12 S A l c .none ln due) h = m_law_r9 (env12 S A l c (.own (nums W)) ln due) h ∧ ∀ (h : HP) (p : Nat), Has h p c → f_plain_table [ln.dv, .tup (nums due), .lst [tdv l p], .lst [tdv l p]] h = .ok (tdv due h.length) (h ++ [HObj.lst (nums W)]) := by
      cases z : isShape ln with
      | false =>
        refine ⟨tabF due fun m => at0 l c (lookI l ln m), tabF_ok okd_ fun m hm => at0_ok (look_in v z hm) hc co, ?_, fun h p q => view_table v z ok okd_ hc co h q⟩
        have lp := loop12 (c := c) S A v z ok okd_ hc h
        rw [k6]
        rw [z] at t2
        have t2 := t2 h
        unfold env12 at lp ⊢
        rw [et] at lp ⊢
        generalize (tabF due fun m => at0 l c (lookI l ln m)) = W at *
        simp [m_law_r6, m_law_r7, m_law_r8, getI0, getI1, b1, b2, b3, lc, t2, it, lp]
      | true =>
        have hs : (due.length : Int) = due.length := rfl
        have tk : tabOk due c = true := by
          cases v with
          | shape s ps s5 => exact tabOk_mk okd_ (by rw [hc, ps]) co
          | _ => cases z
        refine ⟨c, tk, ?_, fun h p q => by
          cases v with
          | shape s ps s5 => exact table_shapeR 0 due c l p _ h tk q
          | _ => cases z⟩
        · rw [k6]
          rw [z] at t2
          have t2 := t2 h
          unfold env12
          rw [et]
          simp [m_law_r6, m_law_r7, m_law_r8, getI0, getI1, b1, b2, b3, lc, t2]
    have hne : h.length ≠ h.length + 2 := by omega
    have vd := view_due v lo okd_
    obtain ⟨ed, lok, lw, lr, lnm⟩ := vd
    -- the table
    have tk := tabOk_mk ok hc co
    have tm := tab_mkL l c h tk
    have q0 := has_new h c
    have f0 := flat_app hh c
    have l0 : (h ++ [HObj.lst (nums c)]).length = h.length + 1 := by simp
    generalize hh0 : h ++ [HObj.lst (nums c)] = h0 at *
    have pa := ans_twoR ln l c due W h.length h0 q0 f0 ok okd_ lr lnm lok lw ed tw (pt h0 h.length q0)
    have pa : f_plain_answer [.lst [.tup [sx0 "given", .int 0], ln.dv], .lst [tdv l h.length]] h0 = _ := pa
    -- the answer
    have f1 : (h0 ++ [HObj.lst (nums W), HObj.lst (nums W)]).all flatO = true := by
      have a := flat_app (flat_app f0 W) W
      rwa [List.append_assoc] at a
    have q1 : Has (h0 ++ [HObj.lst (nums W), HObj.lst (nums W)]) h.length c := has_app q0 _
    have q2 : Has (h0 ++ [HObj.lst (nums W), HObj.lst (nums W)]) (h0.length + 1) W := by
      unfold Has
      rw [List.getElem?_append_right (by omega), show h0.length + 1 - h0.length = 1 by omega]
      rfl
    have i1 := f_is_table_is due W (h0.length + 1) _ q2
    generalize hh1 : h0 ++ [HObj.lst (nums W), HObj.lst (nums W)] = h1 at *
    -- its cells changed
    have W4 := okS_prod okd_
    have wl : (W.length : Int) = prod due := (tabOk_of tw).2.1
    obtain ⟨c', lp⟩ := five_loop S (.val (.ref 0)) A (.val (.tup (nums l))) (.val (.lst (nums c))) (.val (.lst (nums W))) (.val (tdv l h.length)) (.val (.lst [.tup [sx0 "given", .int 0], ln.dv])) (.val (.tup [ln.dv, .tup (nums due)])) due (h0.length + 1) .none W.length 0 W h1 (by omega) q2
    rw [← List.range_eq_range'] at lp
    have itw := itN_nat h1 W.length (by omega)
    rw [rng_map] at itw
    have vl := vLen_has q2
    have q3 : Has (h1.set (h0.length + 1) (HObj.lst (nums c'))) h.length c := by
      unfold Has
      rw [List.getElem?_set_ne (by omega)]
      exact q1
    have f3 : (h1.set (h0.length + 1) (HObj.lst (nums c'))).all flatO = true := by
      rw [List.all_eq_true]
      intro x hx
      rcases List.mem_or_eq_of_mem_set hx with z | z
      · exact List.all_eq_true.mp f1 x z
      · rw [z]
        exact flat_nums c'
    have i3 := f_is_table_is l c h.length _ q3
    generalize hh3 : h1.set (h0.length + 1) (HObj.lst (nums c')) = h3 at *
    have pb := ans_twoR ln l c due W h.length h3 q3 f3 ok okd_ lr lnm lok lw ed tw (pt h3 h.length q3)
    have pb : f_plain_answer [.lst [.tup [sx0 "given", .int 0], ln.dv], .lst [tdv l h.length]] h3 = _ := pb
    have q4 : Has (h3 ++ [HObj.lst (nums W), HObj.lst (nums W)]) (h3.length + 1) W := by
      unfold Has
      rw [List.getElem?_append_right (by omega), show h3.length + 1 - h3.length = 1 by omega]
      rfl
    have i4 := f_is_table_is due W (h3.length + 1) _ q4
    have v1 := fld_c due (h0.length + 1) h1
    refine ⟨h3 ++ [HObj.lst (nums W), HObj.lst (nums W)], ?_⟩
    rw [k9]
    unfold env12
    generalize ln.dv = ld at *
    generalize h0.length + 1 = p2 at *
    generalize h3.length + 1 = p4 at *
    generalize h.length = p0 at *
    generalize h3 ++ [HObj.lst (nums W), HObj.lst (nums W)] = h4 at *
    simp [m_law_r9, m_law_r10, m_law_r11, m_law_r12, m_law_r13, m_law_r14, getI0, getI1, tm, pa, i1, v1, vl, itw, lp, i3, pb, i4]
theorem tags12 {l due : List Int} {ln : Ln} (v : View l ln due) : ∃ t r, ln.dv = .tup (.str t :: r) ∧ (∀ h, vEq (.str t) (sx0 "one") h = .ok (.bl false) h) ∧ ∀ h, vNe (.str t) (sx0 "shape") h = .ok (.bl (!isShape ln)) h := by
  cases v with
  | turn o so => exact ⟨_, _, rfl, fun h => by simp, fun h => vNe_lit h _ _ false (by decide +kernel)⟩
  | wide w hw => exact ⟨_, _, rfl, fun h => by simp, fun h => vNe_lit h _ _ false (by decide +kernel)⟩
  | spread s fs s5 => exact ⟨_, _, rfl, fun h => by simp, fun h => vNe_lit h _ _ false (by decide +kernel)⟩
  | shape s ps s5 => exact ⟨_, _, rfl, fun h => by simp, fun h => vNe_lit h _ _ true (by decide +kernel)⟩
  | drop s x hs x0 x1 => exact ⟨_, _, rfl, fun h => by simp, fun h => vNe_lit h _ _ false (by decide +kernel)⟩
  | cut s b t n hs n0 n1 t0 t1 t2 b0 b1 e0 e1 => exact ⟨_, _, rfl, fun h => by simp, fun h => vNe_lit h _ _ false (by decide +kernel)⟩
theorem wide0 (l : List Int) : View l (.wide 0 0) (1 :: l) := by
  have := View.wide (l := l) 0 (Nat.zero_le _)
  simpa using this
theorem way12 (t : Int) (t0 : 0 ≤ t) (t1 : t < 7) : ∃ w : Int, (0 ≤ w ∧ w < 4 ∨ w = 7 ∨ w = 8) ∧ ∀ h, getI [.int 0, .int 1, .int 2, .int 3, .int 7, .int 8, .int 8] t h = .ok (.int w) h := by
  have : t = 0 ∨ t = 1 ∨ t = 2 ∨ t = 3 ∨ t = 4 ∨ t = 5 ∨ t = 6 := by omega
  rcases this with e | e | e | e | e | e | e <;> subst e
  · exact ⟨0, .inl (by omega), fun h => getI_nat h _ 0 rfl⟩
  · exact ⟨1, .inl (by omega), fun h => getI_nat h _ 1 rfl⟩
  · exact ⟨2, .inl (by omega), fun h => getI_nat h _ 2 rfl⟩
  · exact ⟨3, .inl (by omega), fun h => getI_nat h _ 3 rfl⟩
  · exact ⟨7, .inr (by omega), fun h => getI_nat h _ 4 rfl⟩
  · exact ⟨8, .inr (by omega), fun h => getI_nat h _ 5 rfl⟩
  · exact ⟨8, .inr (by omega), fun h => getI_nat h _ 6 rfl⟩
theorem law_good (ns : List Int) (hl : ns.length ≤ 63) (hbt : ∀ k ∈ ns, Builtin.Int.intBits k ≤ 1048576) : ∃ h', f_law [.scr ns] [] = .ok (.bl true) h' := by
  unfold f_law
  rw [fnM_app]
  have r0 : Row0 ns [HObj.lst [.scr ns, .int 0]] := ⟨0, rfl⟩
  obtain ⟨t, h1, t0, t1, r1, e1⟩ := f_law_taken_is ns 7 (by omega) _ r0
  obtain ⟨w, hw, gw⟩ := way12 t t0 t1
  have gw := gw h1
  obtain ⟨l, h2, lo, r2, e2⟩ := f_law_own_is ns h1 r1
  have lok := low4_ok lo
  obtain ⟨c, h3, hc, co, r3, e3⟩ := f_law_numbered_is ns l (okS_mid lok.1) (okS_nn lok.1) (by omega) h2 r2
  have ee : List.map Slot.val [DV.scr ns] ++ List.replicate (12 - [DV.scr ns].length) Slot.none = [.val (.scr ns), .none, .none, .none, .none, .none, .none, .none, .none, .none, .none, .none] := rfl
  rw [ee]
  have k4 : m_law [.val (.scr ns), .none, .none, .none, .none, .none, .none, .none, .none, .none, .none, .none] [] = m_law_r4 [.val (.scr ns), .val (.ref 0), .val (.int w), .val (.tup (nums l)), .val (.lst (nums c)), .none, .none, .none, .none, .none, .none, .none] h3 := by
    simp [m_law, m_law_r1, m_law_r2, m_law_r3, e1, gw, e2, e3]
  rw [k4]
  have ne := vNe_tup0 h3 l
  have key : ∃ (ln : Ln) (due : List Int) (h' : HP), View l ln due ∧ small256 due ∧ Row0 ns h' ∧
      (m_law_r4 [.val (.scr ns), .val (.ref 0), .val (.int w), .val (.tup (nums l)), .val (.lst (nums c)), .none, .none, .none, .none, .none, .none, .none] h3 = m_law_r5 (env12 (.val (.scr ns)) (.val (.int w)) l c .none ln due) h' ∨
       ∃ z, m_law_r4 [.val (.scr ns), .val (.ref 0), .val (.int w), .val (.tup (nums l)), .val (.lst (nums c)), .none, .none, .none, .none, .none, .none, .none] h3 = m_law_r5 [.val (.scr ns), .val (.ref 0), .val (.int w), .val (.tup (nums l)), .val (.lst (nums c)), .none, .none, .none, .none, .none, .val (.tup [.tup [sx0 "one", sx0 "none", .int 0], z]), .none] h' ∧ ln = .wide 0 0 ∧ due = 1 :: l) := by
    have s1 : small256 (1 :: l) := ⟨by rw [List.length_cons]; have := lo.1; omega, fun x hx => by
      rcases List.mem_cons.mp hx with q | q
      · omega
      · have := lo.2 x q; omega⟩
    rcases hw with ⟨w0, w1⟩ | hw
    · obtain ⟨ln, due, h4, v, sm, r4, e4⟩ := law_view_is ns l lo w w0 w1 h3 r3
      refine ⟨ln, due, h4, v, sm, r4, .inl ?_⟩
      unfold env12
      simp [m_law_r4, w1, e4]
    · have w1 : ¬ w < 4 := by omega
      by_cases z : l = []
      · rw [decide_eq_true z] at ne
        refine ⟨.wide 0 0, 1 :: l, h3, wide0 l, s1, r3, .inl ?_⟩
        unfold env12
        subst z
        simp [m_law_r4, w1, ne, Ln.dv, iN]
        have ne : vNe (.tup []) (.tup []) h3 = .ok (.bl false) h3 := by simpa using ne
        simp [ne]
      · rw [decide_eq_false z] at ne
        rcases law_sided_is ns l lo z w hw h3 r3 with ⟨ln, due, h4, v, sm, r4, _, _, e4⟩ | ⟨h4, r4, e4⟩
        · refine ⟨ln, due, h4, v, sm, r4, .inl ?_⟩
          unfold env12
          simp [m_law_r4, w1, ne, e4]
        · refine ⟨.wide 0 0, 1 :: l, h4, wide0 l, s1, r4, .inr ⟨.tup (nums l), ?_, rfl, rfl⟩⟩
          simp [m_law_r4, w1, ne, e4]
  obtain ⟨ln, due, h4, v, sm, r4, k | ⟨z, k, e5, e6⟩⟩ := key
  · rw [k]
    exact law_end12 _ _ l c due ln v sm lo hc co h4 (flat_row r4) (tags12 v)
  · rw [k]
    have va := vadd2 [1] l (by simp) (by have := lo.1; omega) h4
    have va : vAdd (.tup [.int 1]) (.tup (nums l)) h4 = .ok (.tup (.int 1 :: nums l)) h4 := va
    obtain ⟨h', fin⟩ := law_end12 (.val (.scr ns)) (.val (.int w)) l c (1 :: l) (.wide 0 0) (wide0 l) (by rw [← e6]; exact sm) lo hc co h4 (flat_row r4) (tags12 (wide0 l))
    refine ⟨h', ?_⟩
    rw [← fin]
    unfold env12
    have nn : nums (1 :: l) = .int 1 :: nums l := rfl
    have d0 : Ln.dv (.wide 0 0) = .tup [sx0 "wide", .int 0, .int 0] := rfl
    rw [nn, d0]
    simp only [m_law_r5]
    simp [getI0, va]

end LM

namespace LM
open PySem L2
def glu (K : PySem.W.Frag) : Glue := ⟨K, fun i => He.ga K (fnames.getD i Str.empty), fun i => cAd K i, cfl⟩
def tp_ (w : World) (K : PySem.W.Frag) (mg : Str → Option Value) (base : Heap) : Tp := ⟨PySem.Challenge.rw_loomarrays_k12_views_cell_by_cell.prog, w, mg, base, glu K⟩
section
variable {w : World} {K : PySem.W.Frag} {h base : Heap} {mg : Str → Option Value}
theorem blt_ (X : K.In h) (G : h.Ns mainGlobals mg) (c : SaysL fa_ fns_ ts_ ck_ w K) : Blt mg := ⟨He.free_ok X G (c.d.fact 64 (f := .free "len") rfl), He.free_ok X G (c.d.fact 65 (f := .free "range") rfl), He.free_ok X G (c.d.fact 66 (f := .free "tuple") rfl), He.free_ok X G (c.d.fact 67 (f := .free "list") rfl), He.free_ok X G (c.d.fact 68 (f := .free "int") rfl), He.free_ok X G (c.d.fact 69 (f := .free "bool") rfl), He.free_ok X G (c.d.fact 70 (f := .free "str") rfl), He.free_ok X G (c.d.fact 71 (f := .free "isinstance") rfl), He.free_ok X G (c.d.fact 72 (f := .free "max") rfl), He.free_ok X G (c.d.fact 73 (f := .free "min") rfl), He.free_ok X G (c.d.fact 74 (f := .free "sum") rfl), He.free_ok X G (c.d.fact 75 (f := .free "zip") rfl), He.free_ok X G (c.d.fact 76 (f := .free "reversed") rfl), He.free_ok X G (c.d.fact 77 (f := .free "enumerate") rfl), He.free_ok X G (c.d.fact 78 (f := .free "sorted") rfl), He.free_ok X G (c.d.fact 79 (f := .free "set") rfl), He.free_ok X G (c.d.fact 80 (f := .free "dict") rfl), He.free_ok X G (c.d.fact 81 (f := .free "ValueError") rfl), He.free_ok X G (c.d.fact 82 (f := .free "any") rfl), He.free_ok X G (c.d.fact 83 (f := .free "all") rfl)⟩
theorem tb_BOTH (X : K.In h) (G : h.Ns mainGlobals mg) (c : SaysL fa_ fns_ ts_ ck_ w K) : TabOk (tp_ w K mg base) "BOTH" tab_BOTH := by
  obtain ⟨es, n, D⟩ := c.t.tab 0 (t := (fun K => He.ga K "BOTH", ["add", "less", "times", "least", "most", "below", "alike"])) rfl
  exact tab_of (T := tp_ w K mg base) (He.glo_ok X G (c.d.fact 89 (f := .glo "BOTH") rfl)) D (ckAll_at c.c 0 rfl) (by
    intro q hq x id e
    simp only [tab_BOTH, List.mem_cons, List.not_mem_nil, or_false] at hq
    rcases hq with hq | hq | hq | hq | hq | hq | hq <;> subst hq <;> cases e <;> rfl)
theorem tb_CELLS (X : K.In h) (G : h.Ns mainGlobals mg) (c : SaysL fa_ fns_ ts_ ck_ w K) : TabOk (tp_ w K mg base) "CELLS" tab_CELLS := by
  obtain ⟨es, n, D⟩ := c.t.tab 1 (t := (fun K => He.ga K "CELLS", ["turn", "cut", "drop", "wide", "spread", "shift", "one", "both", "where", "fold", "run", "pick", "join"])) rfl
  exact tab_of (T := tp_ w K mg base) (He.glo_ok X G (c.d.fact 90 (f := .glo "CELLS") rfl)) D (ckAll_at c.c 1 rfl) (by
    intro q hq x id e
    simp only [tab_CELLS, List.mem_cons, List.not_mem_nil, or_false] at hq
    rcases hq with hq | hq | hq | hq | hq | hq | hq | hq | hq | hq | hq | hq | hq <;> subst hq <;> cases e <;> rfl)
theorem tb_FITS (X : K.In h) (G : h.Ns mainGlobals mg) (c : SaysL fa_ fns_ ts_ ck_ w K) : TabOk (tp_ w K mg base) "FITS" tab_FITS := by
  obtain ⟨es, n, D⟩ := c.t.tab 2 (t := (fun K => He.ga K "FITS", ["turn", "cut", "drop", "wide", "spread", "shape", "shift", "one", "both", "where", "fold", "run", "pick", "join"])) rfl
  exact tab_of (T := tp_ w K mg base) (He.glo_ok X G (c.d.fact 91 (f := .glo "FITS") rfl)) D (ckAll_at c.c 2 rfl) (by
    intro q hq x id e
    simp only [tab_FITS, List.mem_cons, List.not_mem_nil, or_false] at hq
    rcases hq with hq | hq | hq | hq | hq | hq | hq | hq | hq | hq | hq | hq | hq | hq <;> subst hq <;> cases e <;> rfl)
theorem tb_READS (X : K.In h) (G : h.Ns mainGlobals mg) (c : SaysL fa_ fns_ ts_ ck_ w K) : TabOk (tp_ w K mg base) "READS" tab_READS := by
  obtain ⟨es, n, D⟩ := c.t.tab 3 (t := (fun K => He.ga K "READS", ["given", "even", "turn", "cut", "drop", "wide", "spread", "shape", "shift", "one", "both", "where", "fold", "run", "pick", "join"])) rfl
  exact tab_of (T := tp_ w K mg base) (He.glo_ok X G (c.d.fact 92 (f := .glo "READS") rfl)) D (ckAll_at c.c 3 rfl) (by
    intro q hq x id e
    simp only [tab_READS, List.mem_cons, List.not_mem_nil, or_false] at hq
    rcases hq with hq | hq | hq | hq | hq | hq | hq | hq | hq | hq | hq | hq | hq | hq | hq | hq <;> subst hq <;> cases e <;> rfl)
theorem e_hE0_NoCell (X : K.In h) (G : h.Ns mainGlobals mg) (c : SaysL fa_ fns_ ts_ ck_ w K) : Eo0 (tp_ w K mg base) "NoCell" 3 := eo0_of (He.glo_ok X G (c.d.fact 96 (f := .glo "NoCell") rfl)) (ckAll_at c.c 7 (b := fun K => eo0B (cAd K 3) K) rfl)
theorem e_hE0_NoTable (X : K.In h) (G : h.Ns mainGlobals mg) (c : SaysL fa_ fns_ ts_ ck_ w K) : Eo0 (tp_ w K mg base) "NoTable" 1 := eo0_of (He.glo_ok X G (c.d.fact 94 (f := .glo "NoTable") rfl)) (ckAll_at c.c 8 (b := fun K => eo0B (cAd K 1) K) rfl)
theorem e_hE_BadLine (X : K.In h) (G : h.Ns mainGlobals mg) (c : SaysL fa_ fns_ ts_ ck_ w K) : Eo2 (tp_ w K mg base) "BadLine" 2 "at" "why" := by
  obtain ⟨fd, F⟩ := c.d.def_ 64 (d := dIni "BadLine" "BadLine.__init__" 16 0) rfl
  exact eo2_of (T := (tp_ w K mg base)) (He.glo_ok X G (c.d.fact 95 (f := .glo "BadLine") rfl)) rfl (ckAll_at c.c 4 (b := fun K => eoB ["at", "why"] (cAd K 2) K) rfl) ⟨fd, ["self", "at", "why"], F.bindsN fun _ _ _ _ _ _ us hl => match us, hl with | [_, _, _], _ => rfl, init2_ok (x1 := "at") (x2 := "why") F ⟨rfl, rfl, rfl, by decide +kernel, rfl, by decide +kernel, by decide +kernel⟩ (.inl rfl) (.inl rfl) (.inl rfl) (by decide) (by decide) (by decide) (by decide)⟩
theorem e_hF_cells (X : K.In h) (G : h.Ns mainGlobals mg) (c : SaysL fa_ fns_ ts_ ck_ w K) : FldL (tp_ w K mg base) "cells" fl_cells := (fldL_cons (fld_of (T := (tp_ w K mg base)) (fs := ["sides", "cells"]) (ckAll_at c.c 5 (b := fun K => mayB ["sides", "cells"] (cAd K 4) K) rfl) rfl (by decide) rfl (by decide)) fldL_nil)
theorem e_hF_sides (X : K.In h) (G : h.Ns mainGlobals mg) (c : SaysL fa_ fns_ ts_ ck_ w K) : FldL (tp_ w K mg base) "sides" fl_sides := (fldL_cons (fld_of (T := (tp_ w K mg base)) (fs := ["sides", "cells"]) (ckAll_at c.c 5 (b := fun K => mayB ["sides", "cells"] (cAd K 4) K) rfl) rfl (by decide) rfl (by decide)) fldL_nil)
theorem e_hIs_Table (X : K.In h) (G : h.Ns mainGlobals mg) (c : SaysL fa_ fns_ ts_ ck_ w K) : IsL (tp_ w K mg base) 4 is_Table := (isL_cons (is_of (T := (tp_ w K mg base)) (ckAll_at c.c 9 (b := fun K => isB (cAd K 4) (cAd K 4) true K) rfl)) isL_nil)
theorem e_hG_Table (X : K.In h) (G : h.Ns mainGlobals mg) (c : SaysL fa_ fns_ ts_ ck_ w K) : (tp_ w K mg base).mg "Table" = some (.ref ((tp_ w K mg base).g.cA 4)) := (He.glo_ok X G (c.d.fact 97 (f := .glo "Table") rfl))
theorem o_one_deed (X : K.In h) (G : h.Ns mainGlobals mg) (c : SaysL fa_ fns_ ts_ ck_ w K)  : Fo (tp_ w K mg base) "one_deed" 0 1 2 f_one_deed := by
  obtain ⟨fd, F⟩ := c.d.def_ 0 (d := dRec "one_deed" 2) rfl
  exact ⟨He.glo_ok X G (c.d.fact 0 (f := .glo "one_deed") rfl), F.kp, fd, ["deed", "number"], F.bindsN fun _ _ _ _ _ _ us hl => match us, hl with | [_, _], _ => rfl, fn_rule (T := tp_ w K mg base) F sc_one_deed fun X' c' hX => d_one_deed (blt_ X G c) (He.int_ok X G (c.d.fact 84 (f := .int "REST" (1000003)) rfl)) hX⟩
theorem o_added (X : K.In h) (G : h.Ns mainGlobals mg) (c : SaysL fa_ fns_ ts_ ck_ w K)  : Fo (tp_ w K mg base) "added" 1 1 2 f_added := by
  obtain ⟨fd, F⟩ := c.d.def_ 1 (d := dRec "added" 3) rfl
  exact ⟨He.glo_ok X G (c.d.fact 1 (f := .glo "added") rfl), F.kp, fd, ["one", "other"], F.bindsN fun _ _ _ _ _ _ us hl => match us, hl with | [_, _], _ => rfl, fn_rule (T := tp_ w K mg base) F sc_added fun X' c' hX => d_added (blt_ X G c) (He.int_ok X G (c.d.fact 84 (f := .int "REST" (1000003)) rfl)) hX⟩
theorem o_lessened (X : K.In h) (G : h.Ns mainGlobals mg) (c : SaysL fa_ fns_ ts_ ck_ w K)  : Fo (tp_ w K mg base) "lessened" 2 1 2 f_lessened := by
  obtain ⟨fd, F⟩ := c.d.def_ 2 (d := dRec "lessened" 4) rfl
  exact ⟨He.glo_ok X G (c.d.fact 2 (f := .glo "lessened") rfl), F.kp, fd, ["one", "other"], F.bindsN fun _ _ _ _ _ _ us hl => match us, hl with | [_, _], _ => rfl, fn_rule (T := tp_ w K mg base) F sc_lessened fun X' c' hX => d_lessened (blt_ X G c) (He.int_ok X G (c.d.fact 84 (f := .int "REST" (1000003)) rfl)) hX⟩
theorem o_multiplied (X : K.In h) (G : h.Ns mainGlobals mg) (c : SaysL fa_ fns_ ts_ ck_ w K)  : Fo (tp_ w K mg base) "multiplied" 3 1 2 f_multiplied := by
  obtain ⟨fd, F⟩ := c.d.def_ 3 (d := dRec "multiplied" 5) rfl
  exact ⟨He.glo_ok X G (c.d.fact 3 (f := .glo "multiplied") rfl), F.kp, fd, ["one", "other"], F.bindsN fun _ _ _ _ _ _ us hl => match us, hl with | [_, _], _ => rfl, fn_rule (T := tp_ w K mg base) F sc_multiplied fun X' c' hX => d_multiplied (blt_ X G c) (He.int_ok X G (c.d.fact 84 (f := .int "REST" (1000003)) rfl)) hX⟩
theorem o_lesser (X : K.In h) (G : h.Ns mainGlobals mg) (c : SaysL fa_ fns_ ts_ ck_ w K)  : Fo (tp_ w K mg base) "lesser" 4 1 2 f_lesser := by
  obtain ⟨fd, F⟩ := c.d.def_ 4 (d := dRec "lesser" 6) rfl
  exact ⟨He.glo_ok X G (c.d.fact 4 (f := .glo "lesser") rfl), F.kp, fd, ["one", "other"], F.bindsN fun _ _ _ _ _ _ us hl => match us, hl with | [_, _], _ => rfl, fn_rule (T := tp_ w K mg base) F sc_lesser fun X' c' hX => d_lesser (blt_ X G c)  hX⟩
theorem o_greater (X : K.In h) (G : h.Ns mainGlobals mg) (c : SaysL fa_ fns_ ts_ ck_ w K)  : Fo (tp_ w K mg base) "greater" 5 1 2 f_greater := by
  obtain ⟨fd, F⟩ := c.d.def_ 5 (d := dRec "greater" 7) rfl
  exact ⟨He.glo_ok X G (c.d.fact 5 (f := .glo "greater") rfl), F.kp, fd, ["one", "other"], F.bindsN fun _ _ _ _ _ _ us hl => match us, hl with | [_, _], _ => rfl, fn_rule (T := tp_ w K mg base) F sc_greater fun X' c' hX => d_greater (blt_ X G c)  hX⟩
theorem o_is_below (X : K.In h) (G : h.Ns mainGlobals mg) (c : SaysL fa_ fns_ ts_ ck_ w K)  : Fo (tp_ w K mg base) "is_below" 6 1 2 f_is_below := by
  obtain ⟨fd, F⟩ := c.d.def_ 6 (d := dRec "is_below" 8) rfl
  exact ⟨He.glo_ok X G (c.d.fact 6 (f := .glo "is_below") rfl), F.kp, fd, ["one", "other"], F.bindsN fun _ _ _ _ _ _ us hl => match us, hl with | [_, _], _ => rfl, fn_rule (T := tp_ w K mg base) F sc_is_below fun X' c' hX => d_is_below (blt_ X G c)  hX⟩
theorem o_is_alike (X : K.In h) (G : h.Ns mainGlobals mg) (c : SaysL fa_ fns_ ts_ ck_ w K)  : Fo (tp_ w K mg base) "is_alike" 7 1 2 f_is_alike := by
  obtain ⟨fd, F⟩ := c.d.def_ 7 (d := dRec "is_alike" 9) rfl
  exact ⟨He.glo_ok X G (c.d.fact 7 (f := .glo "is_alike") rfl), F.kp, fd, ["one", "other"], F.bindsN fun _ _ _ _ _ _ us hl => match us, hl with | [_, _], _ => rfl, fn_rule (T := tp_ w K mg base) F sc_is_alike fun X' c' hX => d_is_alike (blt_ X G c)  hX⟩
theorem o_both_deed (X : K.In h) (G : h.Ns mainGlobals mg) (c : SaysL fa_ fns_ ts_ ck_ w K) (F_added : Fo (tp_ w K mg base) "added" 1 1 2 f_added) (F_lessened : Fo (tp_ w K mg base) "lessened" 2 1 2 f_lessened) (F_multiplied : Fo (tp_ w K mg base) "multiplied" 3 1 2 f_multiplied) (F_lesser : Fo (tp_ w K mg base) "lesser" 4 1 2 f_lesser) (F_greater : Fo (tp_ w K mg base) "greater" 5 1 2 f_greater) (F_is_below : Fo (tp_ w K mg base) "is_below" 6 1 2 f_is_below) (F_is_alike : Fo (tp_ w K mg base) "is_alike" 7 1 2 f_is_alike) : Fo (tp_ w K mg base) "both_deed" 8 2 3 f_both_deed := by
  obtain ⟨fd, F⟩ := c.d.def_ 8 (d := dRec "both_deed" 11) rfl
  exact ⟨He.glo_ok X G (c.d.fact 8 (f := .glo "both_deed") rfl), F.kp, fd, ["deed", "one", "other"], F.bindsN fun _ _ _ _ _ _ us hl => match us, hl with | [_, _, _], _ => rfl, fn_rule (T := tp_ w K mg base) F sc_both_deed fun X' c' hX => d_both_deed (blt_ X G c) F_added F_lessened F_multiplied F_lesser F_greater F_is_below F_is_alike (tb_BOTH X G c) hX⟩
theorem o_folded_none (X : K.In h) (G : h.Ns mainGlobals mg) (c : SaysL fa_ fns_ ts_ ck_ w K)  : Fo (tp_ w K mg base) "folded_none" 9 1 1 f_folded_none := by
  obtain ⟨fd, F⟩ := c.d.def_ 9 (d := dRec "folded_none" 12) rfl
  exact ⟨He.glo_ok X G (c.d.fact 9 (f := .glo "folded_none") rfl), F.kp, fd, ["deed"], F.bindsN fun _ _ _ _ _ _ us hl => match us, hl with | [_], _ => rfl, fn_rule (T := tp_ w K mg base) F sc_folded_none fun X' c' hX => d_folded_none (blt_ X G c)  hX⟩
theorem o_cells_in (X : K.In h) (G : h.Ns mainGlobals mg) (c : SaysL fa_ fns_ ts_ ck_ w K)  : Fo (tp_ w K mg base) "cells_in" 10 1 1 f_cells_in := by
  obtain ⟨fd, F⟩ := c.d.def_ 10 (d := dRec "cells_in" 22) rfl
  exact ⟨He.glo_ok X G (c.d.fact 10 (f := .glo "cells_in") rfl), F.kp, fd, ["sides"], F.bindsN fun _ _ _ _ _ _ us hl => match us, hl with | [_], _ => rfl, fn_rule (T := tp_ w K mg base) F sc_cells_in fun X' c' hX => d_cells_in (blt_ X G c)  hX⟩
theorem o_sides_fit (X : K.In h) (G : h.Ns mainGlobals mg) (c : SaysL fa_ fns_ ts_ ck_ w K) (F_cells_in : Fo (tp_ w K mg base) "cells_in" 10 1 1 f_cells_in) : Fo (tp_ w K mg base) "sides_fit" 11 2 1 f_sides_fit := by
  obtain ⟨fd, F⟩ := c.d.def_ 11 (d := dRec "sides_fit" 23) rfl
  exact ⟨He.glo_ok X G (c.d.fact 11 (f := .glo "sides_fit") rfl), F.kp, fd, ["sides"], F.bindsN fun _ _ _ _ _ _ us hl => match us, hl with | [_], _ => rfl, fn_rule (T := tp_ w K mg base) F sc_sides_fit fun X' c' hX => d_sides_fit (blt_ X G c) F_cells_in (He.int_ok X G (c.d.fact 86 (f := .int "LONGEST" (64)) rfl)) (He.int_ok X G (c.d.fact 87 (f := .int "MOST_CELLS" (4096)) rfl)) (He.int_ok X G (c.d.fact 85 (f := .int "MOST_SIDES" (4)) rfl)) hX⟩
theorem o_place_at (X : K.In h) (G : h.Ns mainGlobals mg) (c : SaysL fa_ fns_ ts_ ck_ w K)  : Fo (tp_ w K mg base) "place_at" 12 1 2 f_place_at := by
  obtain ⟨fd, F⟩ := c.d.def_ 12 (d := dRec "place_at" 24) rfl
  exact ⟨He.glo_ok X G (c.d.fact 12 (f := .glo "place_at") rfl), F.kp, fd, ["sides", "at"], F.bindsN fun _ _ _ _ _ _ us hl => match us, hl with | [_, _], _ => rfl, fn_rule (T := tp_ w K mg base) F sc_place_at fun X' c' hX => d_place_at (blt_ X G c)  hX⟩
theorem o_index_of (X : K.In h) (G : h.Ns mainGlobals mg) (c : SaysL fa_ fns_ ts_ ck_ w K)  : Fo (tp_ w K mg base) "index_of" 13 1 2 f_index_of := by
  obtain ⟨fd, F⟩ := c.d.def_ 13 (d := dRec "index_of" 25) rfl
  exact ⟨He.glo_ok X G (c.d.fact 13 (f := .glo "index_of") rfl), F.kp, fd, ["sides", "place"], F.bindsN fun _ _ _ _ _ _ us hl => match us, hl with | [_, _], _ => rfl, fn_rule (T := tp_ w K mg base) F sc_index_of fun X' c' hX => d_index_of (blt_ X G c)  hX⟩
theorem o_sides_met (X : K.In h) (G : h.Ns mainGlobals mg) (c : SaysL fa_ fns_ ts_ ck_ w K)  : Fo (tp_ w K mg base) "sides_met" 14 1 2 f_sides_met := by
  obtain ⟨fd, F⟩ := c.d.def_ 14 (d := dRec "sides_met" 26) rfl
  exact ⟨He.glo_ok X G (c.d.fact 14 (f := .glo "sides_met") rfl), F.kp, fd, ["one", "other"], F.bindsN fun _ _ _ _ _ _ us hl => match us, hl with | [_, _], _ => rfl, fn_rule (T := tp_ w K mg base) F sc_sides_met fun X' c' hX => d_sides_met (blt_ X G c)  hX⟩
theorem o_read_by (X : K.In h) (G : h.Ns mainGlobals mg) (c : SaysL fa_ fns_ ts_ ck_ w K)  : Fo (tp_ w K mg base) "read_by" 15 1 1 f_read_by := by
  obtain ⟨fd, F⟩ := c.d.def_ 15 (d := dRec "read_by" 30) rfl
  exact ⟨He.glo_ok X G (c.d.fact 15 (f := .glo "read_by") rfl), F.kp, fd, ["line"], F.bindsN fun _ _ _ _ _ _ us hl => match us, hl with | [_], _ => rfl, fn_rule (T := tp_ w K mg base) F sc_read_by fun X' c' hX => d_read_by (blt_ X G c) (tb_READS X G c) hX⟩
theorem o_without_side (X : K.In h) (G : h.Ns mainGlobals mg) (c : SaysL fa_ fns_ ts_ ck_ w K)  : Fo (tp_ w K mg base) "without_side" 16 1 2 f_without_side := by
  obtain ⟨fd, F⟩ := c.d.def_ 16 (d := dRec "without_side" 31) rfl
  exact ⟨He.glo_ok X G (c.d.fact 16 (f := .glo "without_side") rfl), F.kp, fd, ["sides", "side"], F.bindsN fun _ _ _ _ _ _ us hl => match us, hl with | [_, _], _ => rfl, fn_rule (T := tp_ w K mg base) F sc_without_side fun X' c' hX => d_without_side (blt_ X G c)  hX⟩
theorem o_fit_turn (X : K.In h) (G : h.Ns mainGlobals mg) (c : SaysL fa_ fns_ ts_ ck_ w K)  : Fo (tp_ w K mg base) "fit_turn" 17 1 2 f_fit_turn := by
  obtain ⟨fd, F⟩ := c.d.def_ 17 (d := dRec "fit_turn" 32) rfl
  exact ⟨He.glo_ok X G (c.d.fact 17 (f := .glo "fit_turn") rfl), F.kp, fd, ["line", "own"], F.bindsN fun _ _ _ _ _ _ us hl => match us, hl with | [_, _], _ => rfl, fn_rule (T := tp_ w K mg base) F sc_fit_turn fun X' c' hX => d_fit_turn (blt_ X G c)  hX⟩
theorem o_fit_cut (X : K.In h) (G : h.Ns mainGlobals mg) (c : SaysL fa_ fns_ ts_ ck_ w K)  : Fo (tp_ w K mg base) "fit_cut" 18 1 2 f_fit_cut := by
  obtain ⟨fd, F⟩ := c.d.def_ 18 (d := dRec "fit_cut" 33) rfl
  exact ⟨He.glo_ok X G (c.d.fact 18 (f := .glo "fit_cut") rfl), F.kp, fd, ["line", "own"], F.bindsN fun _ _ _ _ _ _ us hl => match us, hl with | [_, _], _ => rfl, fn_rule (T := tp_ w K mg base) F sc_fit_cut fun X' c' hX => d_fit_cut (blt_ X G c)  hX⟩
theorem o_fit_drop (X : K.In h) (G : h.Ns mainGlobals mg) (c : SaysL fa_ fns_ ts_ ck_ w K) (F_without_side : Fo (tp_ w K mg base) "without_side" 16 1 2 f_without_side) : Fo (tp_ w K mg base) "fit_drop" 19 2 2 f_fit_drop := by
  obtain ⟨fd, F⟩ := c.d.def_ 19 (d := dRec "fit_drop" 34) rfl
  exact ⟨He.glo_ok X G (c.d.fact 19 (f := .glo "fit_drop") rfl), F.kp, fd, ["line", "own"], F.bindsN fun _ _ _ _ _ _ us hl => match us, hl with | [_, _], _ => rfl, fn_rule (T := tp_ w K mg base) F sc_fit_drop fun X' c' hX => d_fit_drop (blt_ X G c) F_without_side hX⟩
theorem o_fit_wide (X : K.In h) (G : h.Ns mainGlobals mg) (c : SaysL fa_ fns_ ts_ ck_ w K)  : Fo (tp_ w K mg base) "fit_wide" 20 1 2 f_fit_wide := by
  obtain ⟨fd, F⟩ := c.d.def_ 20 (d := dRec "fit_wide" 35) rfl
  exact ⟨He.glo_ok X G (c.d.fact 20 (f := .glo "fit_wide") rfl), F.kp, fd, ["line", "own"], F.bindsN fun _ _ _ _ _ _ us hl => match us, hl with | [_, _], _ => rfl, fn_rule (T := tp_ w K mg base) F sc_fit_wide fun X' c' hX => d_fit_wide (blt_ X G c)  hX⟩
theorem o_fit_spread (X : K.In h) (G : h.Ns mainGlobals mg) (c : SaysL fa_ fns_ ts_ ck_ w K) (F_sides_met : Fo (tp_ w K mg base) "sides_met" 14 1 2 f_sides_met) : Fo (tp_ w K mg base) "fit_spread" 21 2 2 f_fit_spread := by
  obtain ⟨fd, F⟩ := c.d.def_ 21 (d := dRec "fit_spread" 36) rfl
  exact ⟨He.glo_ok X G (c.d.fact 21 (f := .glo "fit_spread") rfl), F.kp, fd, ["line", "own"], F.bindsN fun _ _ _ _ _ _ us hl => match us, hl with | [_, _], _ => rfl, fn_rule (T := tp_ w K mg base) F sc_fit_spread fun X' c' hX => d_fit_spread (blt_ X G c) F_sides_met hX⟩
theorem o_fit_shape (X : K.In h) (G : h.Ns mainGlobals mg) (c : SaysL fa_ fns_ ts_ ck_ w K) (F_cells_in : Fo (tp_ w K mg base) "cells_in" 10 1 1 f_cells_in) (F_sides_fit : Fo (tp_ w K mg base) "sides_fit" 11 2 1 f_sides_fit) : Fo (tp_ w K mg base) "fit_shape" 22 3 2 f_fit_shape := by
  obtain ⟨fd, F⟩ := c.d.def_ 22 (d := dRec "fit_shape" 37) rfl
  exact ⟨He.glo_ok X G (c.d.fact 22 (f := .glo "fit_shape") rfl), F.kp, fd, ["line", "own"], F.bindsN fun _ _ _ _ _ _ us hl => match us, hl with | [_, _], _ => rfl, fn_rule (T := tp_ w K mg base) F sc_fit_shape fun X' c' hX => d_fit_shape (blt_ X G c) F_cells_in F_sides_fit hX⟩
theorem o_fit_along (X : K.In h) (G : h.Ns mainGlobals mg) (c : SaysL fa_ fns_ ts_ ck_ w K)  : Fo (tp_ w K mg base) "fit_along" 23 1 2 f_fit_along := by
  obtain ⟨fd, F⟩ := c.d.def_ 23 (d := dRec "fit_along" 38) rfl
  exact ⟨He.glo_ok X G (c.d.fact 23 (f := .glo "fit_along") rfl), F.kp, fd, ["line", "own"], F.bindsN fun _ _ _ _ _ _ us hl => match us, hl with | [_, _], _ => rfl, fn_rule (T := tp_ w K mg base) F sc_fit_along fun X' c' hX => d_fit_along (blt_ X G c)  hX⟩
theorem o_fit_met (X : K.In h) (G : h.Ns mainGlobals mg) (c : SaysL fa_ fns_ ts_ ck_ w K) (F_sides_met : Fo (tp_ w K mg base) "sides_met" 14 1 2 f_sides_met) : Fo (tp_ w K mg base) "fit_met" 24 2 2 f_fit_met := by
  obtain ⟨fd, F⟩ := c.d.def_ 24 (d := dRec "fit_met" 39) rfl
  exact ⟨He.glo_ok X G (c.d.fact 24 (f := .glo "fit_met") rfl), F.kp, fd, ["line", "own"], F.bindsN fun _ _ _ _ _ _ us hl => match us, hl with | [_, _], _ => rfl, fn_rule (T := tp_ w K mg base) F sc_fit_met fun X' c' hX => d_fit_met (blt_ X G c) F_sides_met hX⟩
theorem o_fit_fold (X : K.In h) (G : h.Ns mainGlobals mg) (c : SaysL fa_ fns_ ts_ ck_ w K) (F_without_side : Fo (tp_ w K mg base) "without_side" 16 1 2 f_without_side) : Fo (tp_ w K mg base) "fit_fold" 25 2 2 f_fit_fold := by
  obtain ⟨fd, F⟩ := c.d.def_ 25 (d := dRec "fit_fold" 40) rfl
  exact ⟨He.glo_ok X G (c.d.fact 25 (f := .glo "fit_fold") rfl), F.kp, fd, ["line", "own"], F.bindsN fun _ _ _ _ _ _ us hl => match us, hl with | [_, _], _ => rfl, fn_rule (T := tp_ w K mg base) F sc_fit_fold fun X' c' hX => d_fit_fold (blt_ X G c) F_without_side hX⟩
theorem o_fit_pick (X : K.In h) (G : h.Ns mainGlobals mg) (c : SaysL fa_ fns_ ts_ ck_ w K)  : Fo (tp_ w K mg base) "fit_pick" 26 1 2 f_fit_pick := by
  obtain ⟨fd, F⟩ := c.d.def_ 26 (d := dRec "fit_pick" 41) rfl
  exact ⟨He.glo_ok X G (c.d.fact 26 (f := .glo "fit_pick") rfl), F.kp, fd, ["line", "own"], F.bindsN fun _ _ _ _ _ _ us hl => match us, hl with | [_, _], _ => rfl, fn_rule (T := tp_ w K mg base) F sc_fit_pick fun X' c' hX => d_fit_pick (blt_ X G c)  hX⟩
theorem o_fit_join (X : K.In h) (G : h.Ns mainGlobals mg) (c : SaysL fa_ fns_ ts_ ck_ w K) (F_without_side : Fo (tp_ w K mg base) "without_side" 16 1 2 f_without_side) : Fo (tp_ w K mg base) "fit_join" 27 2 2 f_fit_join := by
  obtain ⟨fd, F⟩ := c.d.def_ 27 (d := dRec "fit_join" 42) rfl
  exact ⟨He.glo_ok X G (c.d.fact 27 (f := .glo "fit_join") rfl), F.kp, fd, ["line", "own"], F.bindsN fun _ _ _ _ _ _ us hl => match us, hl with | [_, _], _ => rfl, fn_rule (T := tp_ w K mg base) F sc_fit_join fun X' c' hX => d_fit_join (blt_ X G c) F_without_side hX⟩
theorem o_number_of (X : K.In h) (G : h.Ns mainGlobals mg) (c : SaysL fa_ fns_ ts_ ck_ w K)  : Fo (tp_ w K mg base) "number_of" 28 1 1 f_number_of := by
  obtain ⟨fd, F⟩ := c.d.def_ 28 (d := dRec "number_of" 44) rfl
  exact ⟨He.glo_ok X G (c.d.fact 28 (f := .glo "number_of") rfl), F.kp, fd, ["line"], F.bindsN fun _ _ _ _ _ _ us hl => match us, hl with | [_], _ => rfl, fn_rule (T := tp_ w K mg base) F sc_number_of fun X' c' hX => d_number_of (blt_ X G c)  hX⟩
theorem o_line_sides (X : K.In h) (G : h.Ns mainGlobals mg) (c : SaysL fa_ fns_ ts_ ck_ w K) (F_sides_fit : Fo (tp_ w K mg base) "sides_fit" 11 2 1 f_sides_fit) (F_read_by : Fo (tp_ w K mg base) "read_by" 15 1 1 f_read_by) (F_fit_turn : Fo (tp_ w K mg base) "fit_turn" 17 1 2 f_fit_turn) (F_fit_cut : Fo (tp_ w K mg base) "fit_cut" 18 1 2 f_fit_cut) (F_fit_drop : Fo (tp_ w K mg base) "fit_drop" 19 2 2 f_fit_drop) (F_fit_wide : Fo (tp_ w K mg base) "fit_wide" 20 1 2 f_fit_wide) (F_fit_spread : Fo (tp_ w K mg base) "fit_spread" 21 2 2 f_fit_spread) (F_fit_shape : Fo (tp_ w K mg base) "fit_shape" 22 3 2 f_fit_shape) (F_fit_along : Fo (tp_ w K mg base) "fit_along" 23 1 2 f_fit_along) (F_fit_met : Fo (tp_ w K mg base) "fit_met" 24 2 2 f_fit_met) (F_fit_fold : Fo (tp_ w K mg base) "fit_fold" 25 2 2 f_fit_fold) (F_fit_pick : Fo (tp_ w K mg base) "fit_pick" 26 1 2 f_fit_pick) (F_fit_join : Fo (tp_ w K mg base) "fit_join" 27 2 2 f_fit_join) (F_number_of : Fo (tp_ w K mg base) "number_of" 28 1 1 f_number_of) : Fo (tp_ w K mg base) "line_sides" 29 4 4 f_line_sides := by
  obtain ⟨fd, F⟩ := c.d.def_ 29 (d := dRec "line_sides" 45) rfl
  exact ⟨He.glo_ok X G (c.d.fact 29 (f := .glo "line_sides") rfl), F.kp, fd, ["line", "at", "known", "given"], F.bindsN fun _ _ _ _ _ _ us hl => match us, hl with | [_, _, _, _], _ => rfl, fn_rule (T := tp_ w K mg base) F sc_line_sides fun X' c' hX => d_line_sides (blt_ X G c) F_sides_fit F_read_by F_fit_turn F_fit_cut F_fit_drop F_fit_wide F_fit_spread F_fit_shape F_fit_along F_fit_met F_fit_fold F_fit_pick F_fit_join F_number_of (e_hE_BadLine X G c) (tb_FITS X G c) (He.int_ok X G (c.d.fact 84 (f := .int "REST" (1000003)) rfl)) hX⟩
theorem o_sides_of (X : K.In h) (G : h.Ns mainGlobals mg) (c : SaysL fa_ fns_ ts_ ck_ w K) (F_line_sides : Fo (tp_ w K mg base) "line_sides" 29 4 4 f_line_sides) : Fo (tp_ w K mg base) "sides_of" 30 5 2 f_sides_of := by
  obtain ⟨fd, F⟩ := c.d.def_ 30 (d := dRec "sides_of" 46) rfl
  exact ⟨He.glo_ok X G (c.d.fact 30 (f := .glo "sides_of") rfl), F.kp, fd, ["program", "given"], F.bindsN fun _ _ _ _ _ _ us hl => match us, hl with | [_, _], _ => rfl, fn_rule (T := tp_ w K mg base) F sc_sides_of fun X' c' hX => d_sides_of (blt_ X G c) F_line_sides (e_hE_BadLine X G c) (He.int_ok X G (c.d.fact 88 (f := .int "MOST_LINES" (40)) rfl)) hX⟩
theorem o_wanted_lines (X : K.In h) (G : h.Ns mainGlobals mg) (c : SaysL fa_ fns_ ts_ ck_ w K) (F_read_by : Fo (tp_ w K mg base) "read_by" 15 1 1 f_read_by) : Fo (tp_ w K mg base) "wanted_lines" 31 2 1 f_wanted_lines := by
  obtain ⟨fd, F⟩ := c.d.def_ 31 (d := dRec "wanted_lines" 48) rfl
  exact ⟨He.glo_ok X G (c.d.fact 31 (f := .glo "wanted_lines") rfl), F.kp, fd, ["program"], F.bindsN fun _ _ _ _ _ _ us hl => match us, hl with | [_], _ => rfl, fn_rule (T := tp_ w K mg base) F sc_wanted_lines fun X' c' hX => d_wanted_lines (blt_ X G c) F_read_by hX⟩
theorem o_with_place (X : K.In h) (G : h.Ns mainGlobals mg) (c : SaysL fa_ fns_ ts_ ck_ w K)  : Fo (tp_ w K mg base) "with_place" 32 1 3 f_with_place := by
  obtain ⟨fd, F⟩ := c.d.def_ 32 (d := dRec "with_place" 52) rfl
  exact ⟨He.glo_ok X G (c.d.fact 32 (f := .glo "with_place") rfl), F.kp, fd, ["at", "side", "place"], F.bindsN fun _ _ _ _ _ _ us hl => match us, hl with | [_, _, _], _ => rfl, fn_rule (T := tp_ w K mg base) F sc_with_place fun X' c' hX => d_with_place (blt_ X G c)  hX⟩
theorem o_Table_cell (X : K.In h) (G : h.Ns mainGlobals mg) (c : SaysL fa_ fns_ ts_ ck_ w K) (F_place_at : Fo (tp_ w K mg base) "place_at" 12 1 2 f_place_at) : ∃ fd ps, Binds K fd ps [] ∧ FnOk (tp_ w K mg base).P w K mg base (L2N.CX (tp_ w K mg base).P w) 2 (He.ma K (cAd K 4) "cell") fd ps (spF (glu K) 2 f_Table_cell) := by
  obtain ⟨fd, F⟩ := c.d.def_ 65 (d := dMet "Table" "cell" "Table.cell" 50 1) rfl
  exact ⟨fd, ["self", "at"], F.bindsN fun _ _ _ _ _ _ us hl => match us, hl with | [_, _], _ => rfl, fn_rule (T := tp_ w K mg base) F sc_Table_cell fun X' c' hX => d_Table_cell (blt_ X G c) F_place_at (e_hF_cells X G c) (e_hF_sides X G c) hX⟩
theorem o_spread_cell (X : K.In h) (G : h.Ns mainGlobals mg) (c : SaysL fa_ fns_ ts_ ck_ w K) (hMo_cell : MoL (tp_ w K mg base) "cell" 2 2 mt_cell) : Fo (tp_ w K mg base) "spread_cell" 33 3 2 f_spread_cell := by
  obtain ⟨fd, F⟩ := c.d.def_ 33 (d := dRec "spread_cell" 53) rfl
  exact ⟨He.glo_ok X G (c.d.fact 33 (f := .glo "spread_cell") rfl), F.kp, fd, ["table", "at"], F.bindsN fun _ _ _ _ _ _ us hl => match us, hl with | [_, _], _ => rfl, fn_rule (T := tp_ w K mg base) F sc_spread_cell fun X' c' hX => d_spread_cell (blt_ X G c) (e_hF_sides X G c) hMo_cell hX⟩
theorem o_cell_turn (X : K.In h) (G : h.Ns mainGlobals mg) (c : SaysL fa_ fns_ ts_ ck_ w K) (hMo_cell : MoL (tp_ w K mg base) "cell" 2 2 mt_cell) : Fo (tp_ w K mg base) "cell_turn" 34 3 3 f_cell_turn := by
  obtain ⟨fd, F⟩ := c.d.def_ 34 (d := dRec "cell_turn" 54) rfl
  exact ⟨He.glo_ok X G (c.d.fact 34 (f := .glo "cell_turn") rfl), F.kp, fd, ["line", "own", "at"], F.bindsN fun _ _ _ _ _ _ us hl => match us, hl with | [_, _, _], _ => rfl, fn_rule (T := tp_ w K mg base) F sc_cell_turn fun X' c' hX => d_cell_turn (blt_ X G c) hMo_cell hX⟩
theorem o_cell_cut (X : K.In h) (G : h.Ns mainGlobals mg) (c : SaysL fa_ fns_ ts_ ck_ w K) (F_with_place : Fo (tp_ w K mg base) "with_place" 32 1 3 f_with_place) (hMo_cell : MoL (tp_ w K mg base) "cell" 2 2 mt_cell) : Fo (tp_ w K mg base) "cell_cut" 35 3 3 f_cell_cut := by
  obtain ⟨fd, F⟩ := c.d.def_ 35 (d := dRec "cell_cut" 55) rfl
  exact ⟨He.glo_ok X G (c.d.fact 35 (f := .glo "cell_cut") rfl), F.kp, fd, ["line", "own", "at"], F.bindsN fun _ _ _ _ _ _ us hl => match us, hl with | [_, _, _], _ => rfl, fn_rule (T := tp_ w K mg base) F sc_cell_cut fun X' c' hX => d_cell_cut (blt_ X G c) F_with_place hMo_cell hX⟩
theorem o_cell_drop (X : K.In h) (G : h.Ns mainGlobals mg) (c : SaysL fa_ fns_ ts_ ck_ w K) (hMo_cell : MoL (tp_ w K mg base) "cell" 2 2 mt_cell) : Fo (tp_ w K mg base) "cell_drop" 36 3 3 f_cell_drop := by
  obtain ⟨fd, F⟩ := c.d.def_ 36 (d := dRec "cell_drop" 56) rfl
  exact ⟨He.glo_ok X G (c.d.fact 36 (f := .glo "cell_drop") rfl), F.kp, fd, ["line", "own", "at"], F.bindsN fun _ _ _ _ _ _ us hl => match us, hl with | [_, _, _], _ => rfl, fn_rule (T := tp_ w K mg base) F sc_cell_drop fun X' c' hX => d_cell_drop (blt_ X G c) hMo_cell hX⟩
theorem o_cell_wide (X : K.In h) (G : h.Ns mainGlobals mg) (c : SaysL fa_ fns_ ts_ ck_ w K) (hMo_cell : MoL (tp_ w K mg base) "cell" 2 2 mt_cell) : Fo (tp_ w K mg base) "cell_wide" 37 3 3 f_cell_wide := by
  obtain ⟨fd, F⟩ := c.d.def_ 37 (d := dRec "cell_wide" 57) rfl
  exact ⟨He.glo_ok X G (c.d.fact 37 (f := .glo "cell_wide") rfl), F.kp, fd, ["line", "own", "at"], F.bindsN fun _ _ _ _ _ _ us hl => match us, hl with | [_, _, _], _ => rfl, fn_rule (T := tp_ w K mg base) F sc_cell_wide fun X' c' hX => d_cell_wide (blt_ X G c) hMo_cell hX⟩
theorem o_cell_spread (X : K.In h) (G : h.Ns mainGlobals mg) (c : SaysL fa_ fns_ ts_ ck_ w K) (F_spread_cell : Fo (tp_ w K mg base) "spread_cell" 33 3 2 f_spread_cell) : Fo (tp_ w K mg base) "cell_spread" 38 4 3 f_cell_spread := by
  obtain ⟨fd, F⟩ := c.d.def_ 38 (d := dRec "cell_spread" 58) rfl
  exact ⟨He.glo_ok X G (c.d.fact 38 (f := .glo "cell_spread") rfl), F.kp, fd, ["line", "own", "at"], F.bindsN fun _ _ _ _ _ _ us hl => match us, hl with | [_, _, _], _ => rfl, fn_rule (T := tp_ w K mg base) F sc_cell_spread fun X' c' hX => d_cell_spread (blt_ X G c) F_spread_cell hX⟩
theorem o_cell_shift (X : K.In h) (G : h.Ns mainGlobals mg) (c : SaysL fa_ fns_ ts_ ck_ w K) (F_with_place : Fo (tp_ w K mg base) "with_place" 32 1 3 f_with_place) (hMo_cell : MoL (tp_ w K mg base) "cell" 2 2 mt_cell) : Fo (tp_ w K mg base) "cell_shift" 39 3 3 f_cell_shift := by
  obtain ⟨fd, F⟩ := c.d.def_ 39 (d := dRec "cell_shift" 59) rfl
  exact ⟨He.glo_ok X G (c.d.fact 39 (f := .glo "cell_shift") rfl), F.kp, fd, ["line", "own", "at"], F.bindsN fun _ _ _ _ _ _ us hl => match us, hl with | [_, _, _], _ => rfl, fn_rule (T := tp_ w K mg base) F sc_cell_shift fun X' c' hX => d_cell_shift (blt_ X G c) F_with_place (e_hF_sides X G c) hMo_cell hX⟩
theorem o_cell_one (X : K.In h) (G : h.Ns mainGlobals mg) (c : SaysL fa_ fns_ ts_ ck_ w K) (F_one_deed : Fo (tp_ w K mg base) "one_deed" 0 1 2 f_one_deed) (hMo_cell : MoL (tp_ w K mg base) "cell" 2 2 mt_cell) : Fo (tp_ w K mg base) "cell_one" 40 3 3 f_cell_one := by
  obtain ⟨fd, F⟩ := c.d.def_ 40 (d := dRec "cell_one" 60) rfl
  exact ⟨He.glo_ok X G (c.d.fact 40 (f := .glo "cell_one") rfl), F.kp, fd, ["line", "own", "at"], F.bindsN fun _ _ _ _ _ _ us hl => match us, hl with | [_, _, _], _ => rfl, fn_rule (T := tp_ w K mg base) F sc_cell_one fun X' c' hX => d_cell_one (blt_ X G c) F_one_deed hMo_cell hX⟩
theorem o_cell_both (X : K.In h) (G : h.Ns mainGlobals mg) (c : SaysL fa_ fns_ ts_ ck_ w K) (F_both_deed : Fo (tp_ w K mg base) "both_deed" 8 2 3 f_both_deed) (F_spread_cell : Fo (tp_ w K mg base) "spread_cell" 33 3 2 f_spread_cell) : Fo (tp_ w K mg base) "cell_both" 41 4 3 f_cell_both := by
  obtain ⟨fd, F⟩ := c.d.def_ 41 (d := dRec "cell_both" 61) rfl
  exact ⟨He.glo_ok X G (c.d.fact 41 (f := .glo "cell_both") rfl), F.kp, fd, ["line", "own", "at"], F.bindsN fun _ _ _ _ _ _ us hl => match us, hl with | [_, _, _], _ => rfl, fn_rule (T := tp_ w K mg base) F sc_cell_both fun X' c' hX => d_cell_both (blt_ X G c) F_both_deed F_spread_cell hX⟩
theorem o_cell_where (X : K.In h) (G : h.Ns mainGlobals mg) (c : SaysL fa_ fns_ ts_ ck_ w K) (F_spread_cell : Fo (tp_ w K mg base) "spread_cell" 33 3 2 f_spread_cell) : Fo (tp_ w K mg base) "cell_where" 42 4 3 f_cell_where := by
  obtain ⟨fd, F⟩ := c.d.def_ 42 (d := dRec "cell_where" 62) rfl
  exact ⟨He.glo_ok X G (c.d.fact 42 (f := .glo "cell_where") rfl), F.kp, fd, ["line", "own", "at"], F.bindsN fun _ _ _ _ _ _ us hl => match us, hl with | [_, _, _], _ => rfl, fn_rule (T := tp_ w K mg base) F sc_cell_where fun X' c' hX => d_cell_where (blt_ X G c) F_spread_cell hX⟩
theorem o_folded (X : K.In h) (G : h.Ns mainGlobals mg) (c : SaysL fa_ fns_ ts_ ck_ w K) (F_both_deed : Fo (tp_ w K mg base) "both_deed" 8 2 3 f_both_deed) (F_folded_none : Fo (tp_ w K mg base) "folded_none" 9 1 1 f_folded_none) : Fo (tp_ w K mg base) "folded" 43 3 2 f_folded := by
  obtain ⟨fd, F⟩ := c.d.def_ 43 (d := dRec "folded" 63) rfl
  exact ⟨He.glo_ok X G (c.d.fact 43 (f := .glo "folded") rfl), F.kp, fd, ["deed", "numbers"], F.bindsN fun _ _ _ _ _ _ us hl => match us, hl with | [_, _], _ => rfl, fn_rule (T := tp_ w K mg base) F sc_folded fun X' c' hX => d_folded (blt_ X G c) F_both_deed F_folded_none hX⟩
theorem o_cell_fold (X : K.In h) (G : h.Ns mainGlobals mg) (c : SaysL fa_ fns_ ts_ ck_ w K) (F_folded : Fo (tp_ w K mg base) "folded" 43 3 2 f_folded) (hMo_cell : MoL (tp_ w K mg base) "cell" 2 2 mt_cell) : Fo (tp_ w K mg base) "cell_fold" 44 4 3 f_cell_fold := by
  obtain ⟨fd, F⟩ := c.d.def_ 44 (d := dRec "cell_fold" 64) rfl
  exact ⟨He.glo_ok X G (c.d.fact 44 (f := .glo "cell_fold") rfl), F.kp, fd, ["line", "own", "at"], F.bindsN fun _ _ _ _ _ _ us hl => match us, hl with | [_, _, _], _ => rfl, fn_rule (T := tp_ w K mg base) F sc_cell_fold fun X' c' hX => d_cell_fold (blt_ X G c) F_folded (e_hF_sides X G c) hMo_cell hX⟩
theorem o_cell_run (X : K.In h) (G : h.Ns mainGlobals mg) (c : SaysL fa_ fns_ ts_ ck_ w K) (F_with_place : Fo (tp_ w K mg base) "with_place" 32 1 3 f_with_place) (F_folded : Fo (tp_ w K mg base) "folded" 43 3 2 f_folded) (hMo_cell : MoL (tp_ w K mg base) "cell" 2 2 mt_cell) : Fo (tp_ w K mg base) "cell_run" 45 4 3 f_cell_run := by
  obtain ⟨fd, F⟩ := c.d.def_ 45 (d := dRec "cell_run" 65) rfl
  exact ⟨He.glo_ok X G (c.d.fact 45 (f := .glo "cell_run") rfl), F.kp, fd, ["line", "own", "at"], F.bindsN fun _ _ _ _ _ _ us hl => match us, hl with | [_, _, _], _ => rfl, fn_rule (T := tp_ w K mg base) F sc_cell_run fun X' c' hX => d_cell_run (blt_ X G c) F_with_place F_folded hMo_cell hX⟩
theorem o_cell_pick (X : K.In h) (G : h.Ns mainGlobals mg) (c : SaysL fa_ fns_ ts_ ck_ w K) (F_with_place : Fo (tp_ w K mg base) "with_place" 32 1 3 f_with_place) (hMo_cell : MoL (tp_ w K mg base) "cell" 2 2 mt_cell) : Fo (tp_ w K mg base) "cell_pick" 46 3 3 f_cell_pick := by
  obtain ⟨fd, F⟩ := c.d.def_ 46 (d := dRec "cell_pick" 66) rfl
  exact ⟨He.glo_ok X G (c.d.fact 46 (f := .glo "cell_pick") rfl), F.kp, fd, ["line", "own", "at"], F.bindsN fun _ _ _ _ _ _ us hl => match us, hl with | [_, _, _], _ => rfl, fn_rule (T := tp_ w K mg base) F sc_cell_pick fun X' c' hX => d_cell_pick (blt_ X G c) F_with_place (e_hE0_NoCell X G c) (e_hF_cells X G c) (e_hF_sides X G c) hMo_cell hX⟩
theorem o_cell_join (X : K.In h) (G : h.Ns mainGlobals mg) (c : SaysL fa_ fns_ ts_ ck_ w K) (F_with_place : Fo (tp_ w K mg base) "with_place" 32 1 3 f_with_place) (hMo_cell : MoL (tp_ w K mg base) "cell" 2 2 mt_cell) : Fo (tp_ w K mg base) "cell_join" 47 3 3 f_cell_join := by
  obtain ⟨fd, F⟩ := c.d.def_ 47 (d := dRec "cell_join" 67) rfl
  exact ⟨He.glo_ok X G (c.d.fact 47 (f := .glo "cell_join") rfl), F.kp, fd, ["line", "own", "at"], F.bindsN fun _ _ _ _ _ _ us hl => match us, hl with | [_, _, _], _ => rfl, fn_rule (T := tp_ w K mg base) F sc_cell_join fun X' c' hX => d_cell_join (blt_ X G c) F_with_place (e_hF_sides X G c) hMo_cell hX⟩
theorem o_Table_init_ (X : K.In h) (G : h.Ns mainGlobals mg) (c : SaysL fa_ fns_ ts_ ck_ w K) (F_cells_in : Fo (tp_ w K mg base) "cells_in" 10 1 1 f_cells_in) (F_sides_fit : Fo (tp_ w K mg base) "sides_fit" 11 2 1 f_sides_fit) : ∃ fd ps, Binds K fd ps [] ∧ FnOk (tp_ w K mg base).P w K mg base (L2N.CX (tp_ w K mg base).P w) 3 (He.ma K (cAd K 4) "__init__") fd ps (spI (glu K) ["sides", "cells"] 2 i_Table) := by
  obtain ⟨fd, F⟩ := c.d.def_ 66 (d := dMet "Table" "__init__" "Table.__init__" 50 0) rfl
  exact ⟨fd, ["self", "sides", "cells"], F.bindsN fun _ _ _ _ _ _ us hl => match us, hl with | [_, _, _], _ => rfl, fn_ruleI (T := tp_ w K mg base) (n := 2) F sc_Table_init_ rfl fun X' c' hX => d_Table_init_ (blt_ X G c) F_cells_in F_sides_fit (e_hE0_NoTable X G c) (He.int_ok X G (c.d.fact 84 (f := .int "REST" (1000003)) rfl)) hX⟩
theorem o_plain_table (X : K.In h) (G : h.Ns mainGlobals mg) (c : SaysL fa_ fns_ ts_ ck_ w K) (F_cells_in : Fo (tp_ w K mg base) "cells_in" 10 1 1 f_cells_in) (F_index_of : Fo (tp_ w K mg base) "index_of" 13 1 2 f_index_of) (F_cell_turn : Fo (tp_ w K mg base) "cell_turn" 34 3 3 f_cell_turn) (F_cell_cut : Fo (tp_ w K mg base) "cell_cut" 35 3 3 f_cell_cut) (F_cell_drop : Fo (tp_ w K mg base) "cell_drop" 36 3 3 f_cell_drop) (F_cell_wide : Fo (tp_ w K mg base) "cell_wide" 37 3 3 f_cell_wide) (F_cell_spread : Fo (tp_ w K mg base) "cell_spread" 38 4 3 f_cell_spread) (F_cell_shift : Fo (tp_ w K mg base) "cell_shift" 39 3 3 f_cell_shift) (F_cell_one : Fo (tp_ w K mg base) "cell_one" 40 3 3 f_cell_one) (F_cell_both : Fo (tp_ w K mg base) "cell_both" 41 4 3 f_cell_both) (F_cell_where : Fo (tp_ w K mg base) "cell_where" 42 4 3 f_cell_where) (F_cell_fold : Fo (tp_ w K mg base) "cell_fold" 44 4 3 f_cell_fold) (F_cell_run : Fo (tp_ w K mg base) "cell_run" 45 4 3 f_cell_run) (F_cell_pick : Fo (tp_ w K mg base) "cell_pick" 46 3 3 f_cell_pick) (F_cell_join : Fo (tp_ w K mg base) "cell_join" 47 3 3 f_cell_join) (hMk_Table : MkOk (tp_ w K mg base) "Table" 4 3 2 i_Table) : Fo (tp_ w K mg base) "plain_table" 48 5 4 f_plain_table := by
  obtain ⟨fd, F⟩ := c.d.def_ 48 (d := dRec "plain_table" 69) rfl
  exact ⟨He.glo_ok X G (c.d.fact 48 (f := .glo "plain_table") rfl), F.kp, fd, ["line", "sides", "own", "tables"], F.bindsN fun _ _ _ _ _ _ us hl => match us, hl with | [_, _, _, _], _ => rfl, fn_rule (T := tp_ w K mg base) F sc_plain_table fun X' c' hX => d_plain_table (blt_ X G c) F_cells_in F_index_of F_cell_turn F_cell_cut F_cell_drop F_cell_wide F_cell_spread F_cell_shift F_cell_one F_cell_both F_cell_where F_cell_fold F_cell_run F_cell_pick F_cell_join (e_hF_cells X G c) hMk_Table (tb_CELLS X G c) hX⟩
theorem o_plain_answer (X : K.In h) (G : h.Ns mainGlobals mg) (c : SaysL fa_ fns_ ts_ ck_ w K) (F_read_by : Fo (tp_ w K mg base) "read_by" 15 1 1 f_read_by) (F_sides_of : Fo (tp_ w K mg base) "sides_of" 30 5 2 f_sides_of) (F_wanted_lines : Fo (tp_ w K mg base) "wanted_lines" 31 2 1 f_wanted_lines) (F_plain_table : Fo (tp_ w K mg base) "plain_table" 48 5 4 f_plain_table) (hMk_Table : MkOk (tp_ w K mg base) "Table" 4 3 2 i_Table) : Fo (tp_ w K mg base) "plain_answer" 49 6 2 f_plain_answer := by
  obtain ⟨fd, F⟩ := c.d.def_ 49 (d := dRec "plain_answer" 70) rfl
  exact ⟨He.glo_ok X G (c.d.fact 49 (f := .glo "plain_answer") rfl), F.kp, fd, ["program", "tables"], F.bindsN fun _ _ _ _ _ _ us hl => match us, hl with | [_, _], _ => rfl, fn_rule (T := tp_ w K mg base) F sc_plain_answer fun X' c' hX => d_plain_answer (blt_ X G c) F_read_by F_sides_of F_wanted_lines F_plain_table (e_hF_cells X G c) (e_hF_sides X G c) hMk_Table hX⟩
theorem o_law_taken (X : K.In h) (G : h.Ns mainGlobals mg) (c : SaysL fa_ fns_ ts_ ck_ w K)  : Fo (tp_ w K mg base) "_law_taken" 50 1 2 f_law_taken := by
  obtain ⟨fd, F⟩ := c.d.def_ 50 (d := dRec "_law_taken" 72) rfl
  exact ⟨He.glo_ok X G (c.d.fact 50 (f := .glo "_law_taken") rfl), F.kp, fd, ["_law_row", "_law_many"], F.bindsN fun _ _ _ _ _ _ us hl => match us, hl with | [_, _], _ => rfl, fn_rule (T := tp_ w K mg base) F sc_law_taken fun X' c' hX => d_law_taken (blt_ X G c)  hX⟩
theorem o_law_whole (X : K.In h) (G : h.Ns mainGlobals mg) (c : SaysL fa_ fns_ ts_ ck_ w K)  : Fo (tp_ w K mg base) "_law_whole" 51 1 1 f_law_whole := by
  obtain ⟨fd, F⟩ := c.d.def_ 51 (d := dRec "_law_whole" 73) rfl
  exact ⟨He.glo_ok X G (c.d.fact 51 (f := .glo "_law_whole") rfl), F.kp, fd, ["_law_found"], F.bindsN fun _ _ _ _ _ _ us hl => match us, hl with | [_], _ => rfl, fn_rule (T := tp_ w K mg base) F sc_law_whole fun X' c' hX => d_law_whole (blt_ X G c)  hX⟩
theorem o_law_numbers (X : K.In h) (G : h.Ns mainGlobals mg) (c : SaysL fa_ fns_ ts_ ck_ w K) (F_law_whole : Fo (tp_ w K mg base) "_law_whole" 51 1 1 f_law_whole) : Fo (tp_ w K mg base) "_law_numbers" 52 2 2 f_law_numbers := by
  obtain ⟨fd, F⟩ := c.d.def_ 52 (d := dRec "_law_numbers" 74) rfl
  exact ⟨He.glo_ok X G (c.d.fact 52 (f := .glo "_law_numbers") rfl), F.kp, fd, ["_law_found", "_law_due"], F.bindsN fun _ _ _ _ _ _ us hl => match us, hl with | [_, _], _ => rfl, fn_rule (T := tp_ w K mg base) F sc_law_numbers fun X' c' hX => d_law_numbers (blt_ X G c) F_law_whole hX⟩
theorem o_law_cells (X : K.In h) (G : h.Ns mainGlobals mg) (c : SaysL fa_ fns_ ts_ ck_ w K)  : Fo (tp_ w K mg base) "_law_cells" 53 1 1 f_law_cells := by
  obtain ⟨fd, F⟩ := c.d.def_ 53 (d := dRec "_law_cells" 75) rfl
  exact ⟨He.glo_ok X G (c.d.fact 53 (f := .glo "_law_cells") rfl), F.kp, fd, ["_law_sides"], F.bindsN fun _ _ _ _ _ _ us hl => match us, hl with | [_], _ => rfl, fn_rule (T := tp_ w K mg base) F sc_law_cells fun X' c' hX => d_law_cells (blt_ X G c)  hX⟩
theorem o_law_index (X : K.In h) (G : h.Ns mainGlobals mg) (c : SaysL fa_ fns_ ts_ ck_ w K) (F_law_cells : Fo (tp_ w K mg base) "_law_cells" 53 1 1 f_law_cells) : Fo (tp_ w K mg base) "_law_index" 54 2 2 f_law_index := by
  obtain ⟨fd, F⟩ := c.d.def_ 54 (d := dRec "_law_index" 76) rfl
  exact ⟨He.glo_ok X G (c.d.fact 54 (f := .glo "_law_index") rfl), F.kp, fd, ["_law_sides", "_law_place"], F.bindsN fun _ _ _ _ _ _ us hl => match us, hl with | [_, _], _ => rfl, fn_rule (T := tp_ w K mg base) F sc_law_index fun X' c' hX => d_law_index (blt_ X G c) F_law_cells hX⟩
theorem o_law_look (X : K.In h) (G : h.Ns mainGlobals mg) (c : SaysL fa_ fns_ ts_ ck_ w K)  : Fo (tp_ w K mg base) "_law_look" 55 1 3 f_law_look := by
  obtain ⟨fd, F⟩ := c.d.def_ 55 (d := dRec "_law_look" 77) rfl
  exact ⟨He.glo_ok X G (c.d.fact 55 (f := .glo "_law_look") rfl), F.kp, fd, ["_law_sides", "_law_cells_here", "_law_at"], F.bindsN fun _ _ _ _ _ _ us hl => match us, hl with | [_, _, _], _ => rfl, fn_rule (T := tp_ w K mg base) F sc_law_look fun X' c' hX => d_law_look (blt_ X G c)  hX⟩
theorem o_law_is_table (X : K.In h) (G : h.Ns mainGlobals mg) (c : SaysL fa_ fns_ ts_ ck_ w K) (F_law_numbers : Fo (tp_ w K mg base) "_law_numbers" 52 2 2 f_law_numbers) : Fo (tp_ w K mg base) "_law_is_table" 56 3 3 f_law_is_table := by
  obtain ⟨fd, F⟩ := c.d.def_ 56 (d := dRec "_law_is_table" 78) rfl
  exact ⟨He.glo_ok X G (c.d.fact 56 (f := .glo "_law_is_table") rfl), F.kp, fd, ["_law_found", "_law_sides", "_law_cells_here"], F.bindsN fun _ _ _ _ _ _ us hl => match us, hl with | [_, _, _], _ => rfl, fn_rule (T := tp_ w K mg base) F sc_law_is_table fun X' c' hX => d_law_is_table (blt_ X G c) F_law_numbers (e_hF_cells X G c) (e_hF_sides X G c) (e_hIs_Table X G c) (e_hG_Table X G c) hX⟩
theorem o_law_changed (X : K.In h) (G : h.Ns mainGlobals mg) (c : SaysL fa_ fns_ ts_ ck_ w K)  : Fo (tp_ w K mg base) "_law_changed" 57 1 3 f_law_changed := by
  obtain ⟨fd, F⟩ := c.d.def_ 57 (d := dRec "_law_changed" 79) rfl
  exact ⟨He.glo_ok X G (c.d.fact 57 (f := .glo "_law_changed") rfl), F.kp, fd, ["_law_sides", "_law_side", "_law_size"], F.bindsN fun _ _ _ _ _ _ us hl => match us, hl with | [_, _, _], _ => rfl, fn_rule (T := tp_ w K mg base) F sc_law_changed fun X' c' hX => d_law_changed (blt_ X G c)  hX⟩
theorem o_law_view (X : K.In h) (G : h.Ns mainGlobals mg) (c : SaysL fa_ fns_ ts_ ck_ w K) (F_law_taken : Fo (tp_ w K mg base) "_law_taken" 50 1 2 f_law_taken) (F_law_cells : Fo (tp_ w K mg base) "_law_cells" 53 1 1 f_law_cells) : Fo (tp_ w K mg base) "_law_view" 58 2 4 f_law_view := by
  obtain ⟨fd, F⟩ := c.d.def_ 58 (d := dRec "_law_view" 80) rfl
  exact ⟨He.glo_ok X G (c.d.fact 58 (f := .glo "_law_view") rfl), F.kp, fd, ["_law_row", "_law_a", "_law_own_here", "_law_way"], F.bindsN fun _ _ _ _ _ _ us hl => match us, hl with | [_, _, _, _], _ => rfl, fn_rule (T := tp_ w K mg base) F sc_law_view fun X' c' hX => d_law_view (blt_ X G c) F_law_taken F_law_cells hX⟩
theorem o_law_sided (X : K.In h) (G : h.Ns mainGlobals mg) (c : SaysL fa_ fns_ ts_ ck_ w K) (F_law_taken : Fo (tp_ w K mg base) "_law_taken" 50 1 2 f_law_taken) (F_law_changed : Fo (tp_ w K mg base) "_law_changed" 57 1 3 f_law_changed) : Fo (tp_ w K mg base) "_law_sided" 59 2 4 f_law_sided := by
  obtain ⟨fd, F⟩ := c.d.def_ 59 (d := dRec "_law_sided" 81) rfl
  exact ⟨He.glo_ok X G (c.d.fact 59 (f := .glo "_law_sided") rfl), F.kp, fd, ["_law_row", "_law_a", "_law_own_here", "_law_way"], F.bindsN fun _ _ _ _ _ _ us hl => match us, hl with | [_, _, _, _], _ => rfl, fn_rule (T := tp_ w K mg base) F sc_law_sided fun X' c' hX => d_law_sided (blt_ X G c) F_law_taken F_law_changed hX⟩
theorem o_law_own (X : K.In h) (G : h.Ns mainGlobals mg) (c : SaysL fa_ fns_ ts_ ck_ w K) (F_law_taken : Fo (tp_ w K mg base) "_law_taken" 50 1 2 f_law_taken) (F_law_cells : Fo (tp_ w K mg base) "_law_cells" 53 1 1 f_law_cells) : Fo (tp_ w K mg base) "_law_own" 60 2 1 f_law_own := by
  obtain ⟨fd, F⟩ := c.d.def_ 60 (d := dRec "_law_own" 82) rfl
  exact ⟨He.glo_ok X G (c.d.fact 60 (f := .glo "_law_own") rfl), F.kp, fd, ["_law_row"], F.bindsN fun _ _ _ _ _ _ us hl => match us, hl with | [_], _ => rfl, fn_rule (T := tp_ w K mg base) F sc_law_own fun X' c' hX => d_law_own (blt_ X G c) F_law_taken F_law_cells hX⟩
theorem o_law_numbered (X : K.In h) (G : h.Ns mainGlobals mg) (c : SaysL fa_ fns_ ts_ ck_ w K) (F_law_taken : Fo (tp_ w K mg base) "_law_taken" 50 1 2 f_law_taken) (F_law_cells : Fo (tp_ w K mg base) "_law_cells" 53 1 1 f_law_cells) : Fo (tp_ w K mg base) "_law_numbered" 61 2 2 f_law_numbered := by
  obtain ⟨fd, F⟩ := c.d.def_ 61 (d := dRec "_law_numbered" 83) rfl
  exact ⟨He.glo_ok X G (c.d.fact 61 (f := .glo "_law_numbered") rfl), F.kp, fd, ["_law_row", "_law_sides"], F.bindsN fun _ _ _ _ _ _ us hl => match us, hl with | [_, _], _ => rfl, fn_rule (T := tp_ w K mg base) F sc_law_numbered fun X' c' hX => d_law_numbered (blt_ X G c) F_law_taken F_law_cells hX⟩
theorem o_law_under (X : K.In h) (G : h.Ns mainGlobals mg) (c : SaysL fa_ fns_ ts_ ck_ w K) (F_law_changed : Fo (tp_ w K mg base) "_law_changed" 57 1 3 f_law_changed) : Fo (tp_ w K mg base) "_law_under" 62 2 3 f_law_under := by
  obtain ⟨fd, F⟩ := c.d.def_ 62 (d := dRec "_law_under" 84) rfl
  exact ⟨He.glo_ok X G (c.d.fact 62 (f := .glo "_law_under") rfl), F.kp, fd, ["_law_line", "_law_own_here", "_law_at"], F.bindsN fun _ _ _ _ _ _ us hl => match us, hl with | [_, _, _], _ => rfl, fn_rule (T := tp_ w K mg base) F sc_law_under fun X' c' hX => d_law_under (blt_ X G c) F_law_changed hX⟩
theorem o_law (X : K.In h) (G : h.Ns mainGlobals mg) (c : SaysL fa_ fns_ ts_ ck_ w K) (F_plain_answer : Fo (tp_ w K mg base) "plain_answer" 49 6 2 f_plain_answer) (F_law_taken : Fo (tp_ w K mg base) "_law_taken" 50 1 2 f_law_taken) (F_law_cells : Fo (tp_ w K mg base) "_law_cells" 53 1 1 f_law_cells) (F_law_index : Fo (tp_ w K mg base) "_law_index" 54 2 2 f_law_index) (F_law_look : Fo (tp_ w K mg base) "_law_look" 55 1 3 f_law_look) (F_law_is_table : Fo (tp_ w K mg base) "_law_is_table" 56 3 3 f_law_is_table) (F_law_view : Fo (tp_ w K mg base) "_law_view" 58 2 4 f_law_view) (F_law_sided : Fo (tp_ w K mg base) "_law_sided" 59 2 4 f_law_sided) (F_law_own : Fo (tp_ w K mg base) "_law_own" 60 2 1 f_law_own) (F_law_numbered : Fo (tp_ w K mg base) "_law_numbered" 61 2 2 f_law_numbered) (F_law_under : Fo (tp_ w K mg base) "_law_under" 62 2 3 f_law_under) (hMk_Table : MkOk (tp_ w K mg base) "Table" 4 3 2 i_Table) : Fo (tp_ w K mg base) "law" 63 7 1 f_law := by
  obtain ⟨fd, F⟩ := c.d.def_ 63 (d := dRec "law" 85) rfl
  exact ⟨He.glo_ok X G (c.d.fact 63 (f := .glo "law") rfl), F.kp, fd, ["_law_script"], F.bindsN fun _ _ _ _ _ _ us hl => match us, hl with | [_], _ => rfl, fn_rule (T := tp_ w K mg base) F sc_law fun X' c' hX => d_law (blt_ X G c) F_plain_answer F_law_taken F_law_cells F_law_index F_law_look F_law_is_table F_law_view F_law_sided F_law_own F_law_numbered F_law_under (e_hF_cells X G c) hMk_Table hX⟩
theorem law_fo (w : World) (mg : Str → Option Value) (h : Heap) (K : PySem.W.Frag) (X : K.In h) (G : h.Ns mainGlobals mg) (c : SaysL fa_ fns_ ts_ ck_ w K) : mg "law" = some (.ref (He.ga K "law")) ∧
    ∃ fd, (∀ (s : Shared) (u : Value), BindsTo s fd ⟨[u], []⟩ [("_law_script", u)]) ∧ ∀ base : Heap, K.In base → base.Ns mainGlobals mg → FnOk PySem.Challenge.rw_loomarrays_k12_views_cell_by_cell.prog w K mg base (L2N.CX PySem.Challenge.rw_loomarrays_k12_views_cell_by_cell.prog w) 7 (He.ga K "law") fd ["_law_script"] (spF (glu K) 1 f_law) := by
  obtain ⟨fd, F⟩ := c.d.def_ 63 (d := dRec "law" 85) rfl
  have b := FunD.bindsA (ps := ["_law_script"]) F fun _ _ _ _ _ _ us hl => match us, hl with | [_], _ => rfl
  refine ⟨He.glo_ok X G (c.d.fact 63 (f := .glo "law") rfl), fd, fun s v => b s [v] rfl, fun base _ _ => ?_⟩
  have F_one_deed : Fo (tp_ w K mg base) "one_deed" 0 1 2 f_one_deed := o_one_deed X G c 
  have F_added : Fo (tp_ w K mg base) "added" 1 1 2 f_added := o_added X G c 
  have F_lessened : Fo (tp_ w K mg base) "lessened" 2 1 2 f_lessened := o_lessened X G c 
  have F_multiplied : Fo (tp_ w K mg base) "multiplied" 3 1 2 f_multiplied := o_multiplied X G c 
  have F_lesser : Fo (tp_ w K mg base) "lesser" 4 1 2 f_lesser := o_lesser X G c 
  have F_greater : Fo (tp_ w K mg base) "greater" 5 1 2 f_greater := o_greater X G c 
  have F_is_below : Fo (tp_ w K mg base) "is_below" 6 1 2 f_is_below := o_is_below X G c 
  have F_is_alike : Fo (tp_ w K mg base) "is_alike" 7 1 2 f_is_alike := o_is_alike X G c 
  have F_both_deed : Fo (tp_ w K mg base) "both_deed" 8 2 3 f_both_deed := o_both_deed X G c F_added F_lessened F_multiplied F_lesser F_greater F_is_below F_is_alike
  have F_folded_none : Fo (tp_ w K mg base) "folded_none" 9 1 1 f_folded_none := o_folded_none X G c 
  have F_cells_in : Fo (tp_ w K mg base) "cells_in" 10 1 1 f_cells_in := o_cells_in X G c 
  have F_sides_fit : Fo (tp_ w K mg base) "sides_fit" 11 2 1 f_sides_fit := o_sides_fit X G c F_cells_in
  have F_place_at : Fo (tp_ w K mg base) "place_at" 12 1 2 f_place_at := o_place_at X G c 
  have F_index_of : Fo (tp_ w K mg base) "index_of" 13 1 2 f_index_of := o_index_of X G c 
  have F_sides_met : Fo (tp_ w K mg base) "sides_met" 14 1 2 f_sides_met := o_sides_met X G c 
  have F_read_by : Fo (tp_ w K mg base) "read_by" 15 1 1 f_read_by := o_read_by X G c 
  have F_without_side : Fo (tp_ w K mg base) "without_side" 16 1 2 f_without_side := o_without_side X G c 
  have F_fit_turn : Fo (tp_ w K mg base) "fit_turn" 17 1 2 f_fit_turn := o_fit_turn X G c 
  have F_fit_cut : Fo (tp_ w K mg base) "fit_cut" 18 1 2 f_fit_cut := o_fit_cut X G c 
  have F_fit_drop : Fo (tp_ w K mg base) "fit_drop" 19 2 2 f_fit_drop := o_fit_drop X G c F_without_side
  have F_fit_wide : Fo (tp_ w K mg base) "fit_wide" 20 1 2 f_fit_wide := o_fit_wide X G c 
  have F_fit_spread : Fo (tp_ w K mg base) "fit_spread" 21 2 2 f_fit_spread := o_fit_spread X G c F_sides_met
  have F_fit_shape : Fo (tp_ w K mg base) "fit_shape" 22 3 2 f_fit_shape := o_fit_shape X G c F_cells_in F_sides_fit
  have F_fit_along : Fo (tp_ w K mg base) "fit_along" 23 1 2 f_fit_along := o_fit_along X G c 
  have F_fit_met : Fo (tp_ w K mg base) "fit_met" 24 2 2 f_fit_met := o_fit_met X G c F_sides_met
  have F_fit_fold : Fo (tp_ w K mg base) "fit_fold" 25 2 2 f_fit_fold := o_fit_fold X G c F_without_side
  have F_fit_pick : Fo (tp_ w K mg base) "fit_pick" 26 1 2 f_fit_pick := o_fit_pick X G c 
  have F_fit_join : Fo (tp_ w K mg base) "fit_join" 27 2 2 f_fit_join := o_fit_join X G c F_without_side
  have F_number_of : Fo (tp_ w K mg base) "number_of" 28 1 1 f_number_of := o_number_of X G c 
  have F_line_sides : Fo (tp_ w K mg base) "line_sides" 29 4 4 f_line_sides := o_line_sides X G c F_sides_fit F_read_by F_fit_turn F_fit_cut F_fit_drop F_fit_wide F_fit_spread F_fit_shape F_fit_along F_fit_met F_fit_fold F_fit_pick F_fit_join F_number_of
  have F_sides_of : Fo (tp_ w K mg base) "sides_of" 30 5 2 f_sides_of := o_sides_of X G c F_line_sides
  have F_wanted_lines : Fo (tp_ w K mg base) "wanted_lines" 31 2 1 f_wanted_lines := o_wanted_lines X G c F_read_by
  have F_with_place : Fo (tp_ w K mg base) "with_place" 32 1 3 f_with_place := o_with_place X G c 
  have hMo_cell : MoL (tp_ w K mg base) "cell" 2 2 mt_cell := (moL_cons (meth_of (T := tp_ w K mg base) (fs := ["sides", "cells"]) (ckAll_at c.c 10 (b := fun K => methB (cAd K 4) (cAd K 4) "cell" K) rfl) rfl (by decide) (o_Table_cell X G c F_place_at)) (by decide) moL_nil)
  have F_spread_cell : Fo (tp_ w K mg base) "spread_cell" 33 3 2 f_spread_cell := o_spread_cell X G c hMo_cell
  have F_cell_turn : Fo (tp_ w K mg base) "cell_turn" 34 3 3 f_cell_turn := o_cell_turn X G c hMo_cell
  have F_cell_cut : Fo (tp_ w K mg base) "cell_cut" 35 3 3 f_cell_cut := o_cell_cut X G c F_with_place hMo_cell
  have F_cell_drop : Fo (tp_ w K mg base) "cell_drop" 36 3 3 f_cell_drop := o_cell_drop X G c hMo_cell
  have F_cell_wide : Fo (tp_ w K mg base) "cell_wide" 37 3 3 f_cell_wide := o_cell_wide X G c hMo_cell
  have F_cell_spread : Fo (tp_ w K mg base) "cell_spread" 38 4 3 f_cell_spread := o_cell_spread X G c F_spread_cell
  have F_cell_shift : Fo (tp_ w K mg base) "cell_shift" 39 3 3 f_cell_shift := o_cell_shift X G c F_with_place hMo_cell
  have F_cell_one : Fo (tp_ w K mg base) "cell_one" 40 3 3 f_cell_one := o_cell_one X G c F_one_deed hMo_cell
  have F_cell_both : Fo (tp_ w K mg base) "cell_both" 41 4 3 f_cell_both := o_cell_both X G c F_both_deed F_spread_cell
  have F_cell_where : Fo (tp_ w K mg base) "cell_where" 42 4 3 f_cell_where := o_cell_where X G c F_spread_cell
  have F_folded : Fo (tp_ w K mg base) "folded" 43 3 2 f_folded := o_folded X G c F_both_deed F_folded_none
  have F_cell_fold : Fo (tp_ w K mg base) "cell_fold" 44 4 3 f_cell_fold := o_cell_fold X G c F_folded hMo_cell
  have F_cell_run : Fo (tp_ w K mg base) "cell_run" 45 4 3 f_cell_run := o_cell_run X G c F_with_place F_folded hMo_cell
  have F_cell_pick : Fo (tp_ w K mg base) "cell_pick" 46 3 3 f_cell_pick := o_cell_pick X G c F_with_place hMo_cell
  have F_cell_join : Fo (tp_ w K mg base) "cell_join" 47 3 3 f_cell_join := o_cell_join X G c F_with_place hMo_cell
  have hMk_Table : MkOk (tp_ w K mg base) "Table" 4 3 2 i_Table := mk_of' (T := tp_ w K mg base) (He.glo_ok X G (c.d.fact 97 (f := .glo "Table") rfl)) (ckAll_at c.c 6 (b := fun K => mkB (cAd K 4) (cAd K 4) K) rfl) (may_of (T := tp_ w K mg base) (fs := ["sides", "cells"]) (ckAll_at c.c 5 (b := fun K => mayB ["sides", "cells"] (cAd K 4) K) rfl) rfl (by decide) (by decide)) (o_Table_init_ X G c F_cells_in F_sides_fit)
  have F_plain_table : Fo (tp_ w K mg base) "plain_table" 48 5 4 f_plain_table := o_plain_table X G c F_cells_in F_index_of F_cell_turn F_cell_cut F_cell_drop F_cell_wide F_cell_spread F_cell_shift F_cell_one F_cell_both F_cell_where F_cell_fold F_cell_run F_cell_pick F_cell_join hMk_Table
  have F_plain_answer : Fo (tp_ w K mg base) "plain_answer" 49 6 2 f_plain_answer := o_plain_answer X G c F_read_by F_sides_of F_wanted_lines F_plain_table hMk_Table
  have F_law_taken : Fo (tp_ w K mg base) "_law_taken" 50 1 2 f_law_taken := o_law_taken X G c 
  have F_law_whole : Fo (tp_ w K mg base) "_law_whole" 51 1 1 f_law_whole := o_law_whole X G c 
  have F_law_numbers : Fo (tp_ w K mg base) "_law_numbers" 52 2 2 f_law_numbers := o_law_numbers X G c F_law_whole
  have F_law_cells : Fo (tp_ w K mg base) "_law_cells" 53 1 1 f_law_cells := o_law_cells X G c 
  have F_law_index : Fo (tp_ w K mg base) "_law_index" 54 2 2 f_law_index := o_law_index X G c F_law_cells
  have F_law_look : Fo (tp_ w K mg base) "_law_look" 55 1 3 f_law_look := o_law_look X G c 
  have F_law_is_table : Fo (tp_ w K mg base) "_law_is_table" 56 3 3 f_law_is_table := o_law_is_table X G c F_law_numbers
  have F_law_changed : Fo (tp_ w K mg base) "_law_changed" 57 1 3 f_law_changed := o_law_changed X G c 
  have F_law_view : Fo (tp_ w K mg base) "_law_view" 58 2 4 f_law_view := o_law_view X G c F_law_taken F_law_cells
  have F_law_sided : Fo (tp_ w K mg base) "_law_sided" 59 2 4 f_law_sided := o_law_sided X G c F_law_taken F_law_changed
  have F_law_own : Fo (tp_ w K mg base) "_law_own" 60 2 1 f_law_own := o_law_own X G c F_law_taken F_law_cells
  have F_law_numbered : Fo (tp_ w K mg base) "_law_numbered" 61 2 2 f_law_numbered := o_law_numbered X G c F_law_taken F_law_cells
  have F_law_under : Fo (tp_ w K mg base) "_law_under" 62 2 3 f_law_under := o_law_under X G c F_law_changed
  exact fn_rule (T := tp_ w K mg base) F sc_law fun X' c' hX => d_law (blt_ X G c) F_plain_answer F_law_taken F_law_cells F_law_index F_law_look F_law_is_table F_law_view F_law_sided F_law_own F_law_numbered F_law_under (e_hF_cells X G c) hMk_Table hX
end
end LM
open PySem PySem.W PySem.Calls PyProof.Rows
theorem PySem.Challenge.cw_loomarrays_k12_views_cell_by_cell_holds : PySem.Challenge.rw_loomarrays_k12_views_cell_by_cell.Holds := by
  w_on; o_law
  refine HandSHeadRun.head_any (r := OpenLaw.row PySem.Challenge.rw_loomarrays_k12_views_cell_by_cell) (q := view (OpenLaw.row PySem.Challenge.rw_loomarrays_k12_views_cell_by_cell).prog [85]) (H := LM.hk_) (ob := LM.ob_) (M := 5560) (loose := LM.lo_) (d := HandSHeadRun.topDef (OpenLaw.row PySem.Challenge.rw_loomarrays_k12_views_cell_by_cell).prog 85) (kwd := []) LM.ob_is
    (by kernel_rfl) (fun s => by kernel_rfl) LM.run_ (by kernel_rfl) (by kernel_rfl) (by kernel_rfl) (by rfl) (by first | assumption | decide +kernel) (by decide +kernel) ⟨rfl, rfl, rfl, rfl, rfl, by decide +kernel⟩ ?hw ?hc
  case hw => w_witness2
  case hc => exact LM.end_ofL (l := PySem.Challenge.rw_loomarrays_k12_views_cell_by_cell) (k := 7) (x := "_law_script") rfl (by kernel_rfl) (by kernel_rfl) ⟨rfl, by decide, by decide⟩ (fun K => rfl) (fun w mg h K => LM.law_fo w mg h K) LM.law_good
