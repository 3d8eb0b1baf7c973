import PyProof.Rows.All
import Wide.All
import OpenK.AllK
import Wide.FinOn
import HandS.ExcCtx
import HandS.ForMost
import HandS.ForExc
import HandS.TupAny
import HandS.Rev
import HandS.RevRange
import HandS.Conv
import HandS.Zip
import HandS.IsInst
import HandS.Defaults
import HandS.CallSlots
import HandS.HeadEnd
import HandS.Head0
import HandS.Head1
import HandS.Head2
import HandS.HeadHook1
import HandS.HeadHook2
import HandS.EndBits
import KE.GoesMore
import KE.GoesZip
import HandS.RevTup
import PyProof.ListRange
import HandS.More
import HandS.HeadHook3
import HandS.ExcInit
import HandS.ExcOwn
import HandS.ExcField
import HandS.HotCalls
import HandS.ExcInitHot
import KE.KExcIs
import HandS.TupMul
import HandS.SortInts
import HandS.SortKw
import KE.DataMinMax
import Wide.Txt2
import HandS.MapObj
import HandS.ClsMeth
import HandS.SetFor
import HandS.Strs
import HandS.Text
import HandS.RaiseMore
import PyProof.StrOps2
import PySem.Challenge.RW_loomarrays_k08_texts_that_write_none
set_option Elab.async false
set_option linter.all false
set_option maxRecDepth 100000
set_option maxHeartbeats 4000000
/-! What the run of the top asks. -/
namespace LM
open PySem L2 L2H
abbrev AlL : Type := He.AlT × Bool
def obsL (fa : List He.Fa) (fn : List He.DefD) (ts : List He.Tab) (ck : PySem.W.Frag → Bool) (K : PySem.W.Frag) : AlL := (He.obsT fa fn ts K, ck K)
def obsLG (n : Nat) (fa : List He.Fa) (fn : List He.DefD) (ts : List He.Tab) (ck : PySem.W.Frag → Bool) (g : Addr → Option Obj) : AlL := obsL fa fn ts ck (He.frG g (He.asD g n))
def SaysL (fa : List He.Fa) (fn : List He.DefD) (ts : List He.Tab) (ck : PySem.W.Frag → Bool) (w : World) (K : PySem.W.Frag) : Prop := obsL fa fn ts ck K = (He.valT fn ts w, true)
def hookL (n : Nat) (fa : List He.Fa) (fn : List He.DefD) (ts : List He.Tab) (ck : PySem.W.Frag → Bool) : PySem.W.Hook where
  α := AlL
  obs := fun s => obsLG n fa fn ts ck s.heap.get?
  val := fun w => (He.valT fn ts w, true)
  says := fun w h => ∃ K : PySem.W.Frag, K.In h ∧ SaysL fa fn ts ck w K
  of := fun _ _ e => ⟨_, He.frG_in, e⟩
  keeps := fun _ _ _ ⟨K, hK, c⟩ k => ⟨K, PySem.W.Frag.In.keeps hK k, c⟩
theorem obsLG_is {n : Nat} {fa : List He.Fa} {fn : List He.DefD} {ts : List He.Tab} {ck : PySem.W.Frag → Bool} {g : Addr → Option Obj} {s : Shared} (h : ∀ a, g a = s.heap.get? a) : obsLG n fa fn ts ck g = (hookL n fa fn ts ck).obs s := by
  have e : g = s.heap.get? := funext h
  rw [e]
  rfl
inductive Te where
  | fn (x : Str) (id : Nat)
  | tup (l : List Int)
  | int (i : Int)
  | str (z : Str)
def isInts : List Int → List Value → Bool
  | [], [] => true
  | i :: r, .int j _ :: s => decide (i = j) && isInts r s
  | _, _ => false
def Te.is (K : PySem.W.Frag) : Te → Value → Bool
  | .fn x _, .ref a => decide (a = He.ga K x)
  | .tup l, .ref a => (match K.lookup a with
    | some ⟨.type c, _, .seq its _, _⟩ => decide (c = "tuple") && (Nat.ble its.size 1000 && isInts l its.toList)
    | _ => false)
  | .int i, .int j _ => decide (i = j)
  | .str y, .str z _ => decide (y = z)
  | _, _ => false
def tabB (K : PySem.W.Frag) (a : Addr) (es : List (Str × Te)) : Bool := es.all fun q => match PySem.W.nsIn K a q.1 with
  | some (some u) => q.2.is K u
  | _ => false
def oexB (K : PySem.W.Frag) (C : Addr) : Bool := (match K.lookup C with
  | some ⟨.type t, _, .cls cd, sl⟩ => decide (t = "type") && (match cd.mro, sl.toList with
    | .ref C' :: bm, [_, _, _, _, some (.builtin n), _] => decide (C' = C) && (decide (n = "ValueError.__new__") && (!cd.hasDel && (cd.hasDict && PySem.HandSPX.refsVE bm)))
    | _, _ => false)
  | _ => false) && (decide (PySem.W.findIn K (.ref C) "__setattr__" = some (some (.builtin "object.__setattr__"))) && (decide (PySem.W.subIn K (.ref C) (.type "BaseException") = some true) && (decide (PySem.W.typeIn K (.ref C) = some (.type "type")) && PySem.W.keepIn K (.ref C))))
abbrev CkL := List (PySem.W.Frag → Bool)
def ckAll (l : CkL) (K : PySem.W.Frag) : Bool := l.all fun b => b K
def eoB (fs : List Str) (C : Addr) (K : PySem.W.Frag) : Bool := oexB K C && (decide (PySem.W.findIn K (.ref C) "__init__" = some (some (.ref (He.ma K C "__init__")))) && (decide (PySem.W.typeIn K (.ref (He.ma K C "__init__")) = some (.type "function")) && fs.all fun f => decide (PySem.W.findIn K (.ref C) f = some none)))
def xfKB (f : Str) (C : Addr) (K : PySem.W.Frag) : Bool := xfB K C && decide (PySem.W.findIn K (.ref C) f = some none)
def xiB (C : Addr) (cv : Value) (r : Bool) (K : PySem.W.Frag) : Bool := ((PySem.W.clsIn K C).isSome && (decide (PySem.W.findIn K (.ref C) "__getattribute__" = some (some (.builtin "BaseException.__getattribute__"))) && (decide (PySem.W.findIn K (.ref C) "__getattr__" = some none) && decide (PySem.W.subIn K (.ref C) (.type "BaseException") = some true)))) &&
  ((decide (PySem.W.findIn K (.ref C) "__class__" = some (some (.builtin "object.__class__"))) && (decide (PySem.W.specialIn K (.builtin "object.__class__") "__get__" = some (some (.builtin "getset_descriptor.__get__"))) && decide (PySem.W.takesIn K (.builtin "object.__class__") = some true))) &&
  (decide (PySem.W.mroIn K C (.type "object") = some true) && decide (PySem.W.kitOne K (.ref C) cv = some r)))
def ckB (cA : PySem.W.Frag → Nat → Addr) (cv : Nat) (tab : List (Nat × Bool)) (K : PySem.W.Frag) : Bool := tab.all fun q => decide (PySem.W.exmOne K (.ref (cA K q.1)) (.ref (cA K cv)) = some q.2)
def eo0B (C : Addr) (K : PySem.W.Frag) : Bool := PySem.W.excIn K C [.type "ValueError", .type "Exception", .type "BaseException", .type "object"] "ValueError.__new__" && (PySem.W.keepIn K (.ref C) && (decide (PySem.W.subIn K (.ref C) (.type "BaseException") = some true) && decide (PySem.W.typeIn K (.ref C) = some (.type "type"))))
def clsB (C : Addr) (K : PySem.W.Frag) : Bool := PySem.W.plainGet K C Str.empty && (PySem.W.hasDictIn K C && (PySem.W.plainOver K C && decide (PySem.W.findIn K (.ref C) "__setattr__" = some (some (.builtin "object.__setattr__")))))
def isB (c C : Addr) (r : Bool) (K : PySem.W.Frag) : Bool := clsB c K && (decide (PySem.W.findIn K (.ref c) "__class__" = some (some (.builtin "object.__class__"))) && (decide (PySem.W.specialIn K (.builtin "object.__class__") "__get__" = some (some (.builtin "getset_descriptor.__get__"))) && (decide (PySem.W.takesIn K (.builtin "object.__class__") = some true) &&
  (decide (PySem.W.mroIn K c (.type "object") = some true) && decide (PySem.W.kitOne K (.ref c) (.ref C) = some r)))))
def mayB (fs : List Str) (C : Addr) (K : PySem.W.Frag) : Bool := clsB C K && fs.all fun f => decide (PySem.W.findIn K (.ref C) f = some none)
def methB (C D : Addr) (m : Str) (K : PySem.W.Frag) : Bool := clsB C K && (decide (PySem.W.findIn K (.ref C) m = some (some (.ref (He.ma K D m)))) && (PySem.W.isFn K (.ref (He.ma K D m)) && PySem.W.keepIn K (.ref (He.ma K D m))))
def mkB (C D : Addr) (K : PySem.W.Frag) : Bool := PySem.W.makesIn K C && (decide (PySem.W.findIn K (.ref C) "__init__" = some (some (.ref (He.ma K D "__init__")))) && (PySem.W.isFn K (.ref (He.ma K D "__init__")) && PySem.W.keepIn K (.ref C)))
def isStrs : List Str → List Value → Bool
  | [], [] => true
  | i :: r, .str j _ :: s => decide (i = j) && isStrs r s
  | _, _ => false
def cstB (a : Addr) (l : List Str) (K : PySem.W.Frag) : Bool := match K.lookup a with
  | some ⟨.type c, _, .seq its _, _⟩ => decide (c = "tuple") && (Nat.ble its.size 1000 && isStrs l its.toList)
  | _ => false
def keysB (a : Addr) (ks : List Str) (K : PySem.W.Frag) : Bool := match K.lookup a with
  | some ⟨_, _, .dict es _, _⟩ => (es.toList.all fun e => match e.key with
      | .str y _ => ks.any fun k => decide (k = y)
      | _ => false) && (ks.all fun k => es.toList.any fun e => e.key.isStr k)
  | _ => false
def basB (C D : Addr) (K : PySem.W.Frag) : Bool := decide (PySem.W.specialIn K (.ref C) "__getattribute__" = some (some (.builtin "type.__getattribute__"))) && (PySem.W.readsIn K C (.type "type") && (PySem.W.keepIn K (.ref (He.ma K D "__init__")) && (match PySem.W.findCls K (.ref C) (.type "type") "__init__" with
  | some (.val (.ref f)) => decide (f = He.ma K D "__init__")
  | _ => false)))
end LM

/-! The looks at what the top made, off the tree. -/
namespace LM
open PySem L2

/-- addresses from a on, n of them -/
def rgA : Nat → Addr → List Addr
  | 0, _ => []
  | n + 1, a => HandSHeadRun.frNat a fun a => a :: rgA n (a + 1)
/-- the module's names, and what the top made, then the boot's -/
def adN (n0 n : Nat) : List Addr := mainGlobals :: (rgA (n - n0) n0 ++ rgA n0 0)
def hookN (n0 : Nat) (fa : List He.Fa) (fn : List He.DefD) (ts : List He.Tab) (ck : PySem.W.Frag → Bool) : PySem.W.Hook where
  α := AlL
  obs := fun s => obsL fa fn ts ck (He.frG s.heap.get? (adN n0 s.heap.objs.size))
  val := fun w => (He.valT fn ts w, true)
  says := (hookL 0 fa fn ts ck).says
  of := fun _ _ e => ⟨_, He.frG_in, e⟩
  keeps := (hookL 0 fa fn ts ck).keeps
def obsNG (n0 : Nat) (fa : List He.Fa) (fn : List He.DefD) (ts : List He.Tab) (ck : PySem.W.Frag → Bool) (s : PySem.W.SharedT) : AlL := obsL fa fn ts ck (He.frG (HandSHeadRun.getT s) (adN n0 s.n))
theorem obsNG_is {n0 : Nat} {fa : List He.Fa} {fn : List He.DefD} {ts : List He.Tab} {ck : PySem.W.Frag → Bool} (s : PySem.W.SharedT) : obsNG n0 fa fn ts ck s = (hookN n0 fa fn ts ck).obs s.abs := by
  have e : HandSHeadRun.getT s = s.abs.heap.get? := funext (HandSHeadRun.getT_eq s)
  have e2 : s.abs.heap.objs.size = s.n := PySem.W.absHeap_size _ _ _
  show obsL fa fn ts ck (He.frG (HandSHeadRun.getT s) (adN n0 s.n)) = obsL fa fn ts ck (He.frG s.abs.heap.get? (adN n0 s.abs.heap.objs.size))
  rw [e, e2]
end LM
namespace LMR
open PySem PySem.W PySem.Calls PyProof.Rows HandSHeadRun
/-! The run's equation, part by part. -/
def ParA (r : OpenRow) (M : Nat) (w : World) : Prop := ∀ os : OsState, (endF (stepQ (denQ tabQ) r.prog w) M r.prog w os).map (fun s => looksF r.prog (boot_heap w.params) s.abs) = some true
def ParB (r : OpenRow) (q : Program) (M : Nat) (loose : List PySem.Str) (w : World) : Prop := ∀ os : OsState, (endF (stepQ (denQ tabQ) r.prog w) M r.prog w os).map (fun s => seenQ q loose (importedModules r.prog.main.body) (fun s => xlAt q [] s && recOk r.toRowW.records s) s.abs) = some (openGood q loose)
def ParC (r : OpenRow) (H : Hook) (ob : SharedT → H.α) (M : Nat) (w : World) : Prop := ∀ os : OsState, (endF (stepQ (denQ tabQ) r.prog w) M r.prog w os).map ob = some (H.val w)
theorem join3 {S A B C : Type} {o : Option S} {f : S → A} {g : S → B} {k : S → C} {a : A} {b : B} {c : C} (h1 : o.map f = some a) (h2 : o.map g = some b) (h3 : o.map k = some c) : o.map (fun s => (f s, g s, k s)) = some (a, b, c) := by
  cases o with
  | none => cases h1
  | some s =>
    cases h1
    cases h2
    cases h3
    rfl
theorem run_of {r : OpenRow} {q : Program} {H : Hook} {ob : SharedT → H.α} {M : Nat} {loose : List PySem.Str} {w : World} (h1 : ParA r M w) (h2 : ParB r q M loose w) (h3 : ParC r H ob M w) : RunEq r q H ob M loose w := fun os => join3 (h1 os) (h2 os) (h3 os)
/-- the fragment, off the tree -/
abbrev kk (n : Nat) (s : SharedT) : Frag := He.frG (getT s) (LM.adN n s.n)
def ParD (r : OpenRow) (n : Nat) (fa : List He.Fa) (fn : List He.DefD) (M : Nat) (w : World) : Prop := ∀ os : OsState, (endF (stepQ (denQ tabQ) r.prog w) M r.prog w os).map (fun s => He.obsD fa fn (kk n s)) = some (He.valD fn)
def ParT (r : OpenRow) (n : Nat) (ts : List He.Tab) (M : Nat) (w : World) : Prop := ∀ os : OsState, (endF (stepQ (denQ tabQ) r.prog w) M r.prog w os).map (fun s => ts.map fun t => He.dicW (kk n s) (t.1 (kk n s))) = some (ts.map fun t => some (He.keysIn w.params t.2))
def ParK (r : OpenRow) (n : Nat) (l : LM.CkL) (M : Nat) (w : World) : Prop := ∀ os : OsState, (endF (stepQ (denQ tabQ) r.prog w) M r.prog w os).map (fun s => LM.ckAll l (kk n s)) = some true
/-- all but the defs, in one run -/
def ParR (r : OpenRow) (q : Program) (n : Nat) (ts : List He.Tab) (l : LM.CkL) (M : Nat) (loose : List PySem.Str) (w : World) : Prop := ∀ os : OsState, (endF (stepQ (denQ tabQ) r.prog w) M r.prog w os).map (fun s => ((looksF r.prog (boot_heap w.params) s.abs, seenQ q loose (importedModules r.prog.main.body) (fun s => xlAt q [] s && recOk r.toRowW.records s) s.abs), ((ts.map fun t => He.dicW (kk n s) (t.1 (kk n s))), LM.ckAll l (kk n s)))) = some ((true, openGood q loose), ((ts.map fun t => some (He.keysIn w.params t.2)), true))
theorem split2 {S A B : Type} {o : Option S} {f : S → A} {g : S → B} {a : A} {b : B} (h : o.map (fun s => (f s, g s)) = some (a, b)) : o.map f = some a ∧ o.map g = some b := by
  cases o with
  | none => cases h
  | some s =>
    have e : (f s, g s) = (a, b) := Option.some.inj h
    exact ⟨congrArg some (congrArg Prod.fst e), congrArg some (congrArg Prod.snd e)⟩
theorem parR {r : OpenRow} {q : Program} {n : Nat} {ts : List He.Tab} {l : LM.CkL} {M : Nat} {loose : List PySem.Str} {w : World} (h : ParR r q n ts l M loose w) : ParA r M w ∧ ParB r q M loose w ∧ ParT r n ts M w ∧ ParK r n l M w :=
  ⟨fun os => (split2 (split2 (h os)).1).1, fun os => (split2 (split2 (h os)).1).2, fun os => (split2 (split2 (h os)).2).1, fun os => (split2 (split2 (h os)).2).2⟩
theorem parK {r : OpenRow} {n M : Nat} {a b : LM.CkL} {w : World} (h1 : ParK r n a M w) (h2 : ParK r n b M w) : ParK r n (a ++ b) M w := fun os => by
  have e1 := h1 os
  have e2 := h2 os
  generalize endF (stepQ (denQ tabQ) r.prog w) M r.prog w os = o at *
  cases o with
  | none => cases e1
  | some s =>
    have e1 : LM.ckAll a (kk n s) = true := Option.some.inj e1
    have e2 : LM.ckAll b (kk n s) = true := Option.some.inj e2
    show some (LM.ckAll (a ++ b) (kk n s)) = some true
    unfold LM.ckAll at *
    rw [List.all_append, e1, e2]
    rfl
theorem parD {r : OpenRow} {n M : Nat} {fa : List He.Fa} {a b : List He.DefD} {w : World} (h1 : ParD r n fa a M w) (h2 : ParD r n [] b M w) : ParD r n fa (a ++ b) M w := fun os => by
  have e1 := h1 os
  have e2 := h2 os
  generalize endF (stepQ (denQ tabQ) r.prog w) M r.prog w os = o at *
  cases o with
  | none => cases e1
  | some s =>
    have e1 : He.obsD fa a (kk n s) = He.valD a := Option.some.inj e1
    have e2 : He.obsD [] b (kk n s) = He.valD b := Option.some.inj e2
    show some (He.obsD fa (a ++ b) (kk n s)) = some (He.valD (a ++ b))
    unfold He.obsD He.valD at *
    have a1 := congrArg Prod.fst e1
    have a2 := congrArg Prod.snd e1
    have b1 := congrArg Prod.fst e2
    have b2 := congrArg Prod.snd e2
    simp only [List.all_nil, Bool.true_and] at a1 a2 b1 b2
    rw [List.all_append, List.map_append, List.map_append, a2, b2, b1, Bool.and_true, a1]
theorem parC {r : OpenRow} {n M : Nat} {fa : List He.Fa} {fn : List He.DefD} {ts : List He.Tab} {l : LM.CkL} {w : World} (h1 : ParD r n fa fn M w) (h2 : ParT r n ts M w) (h3 : ParK r n l M w) : ParC r (LM.hookN n fa fn ts fun K => LM.ckAll l K) (LM.obsNG n fa fn ts fun K => LM.ckAll l K) M w := fun os => by
  have e1 := h1 os
  have e2 := h2 os
  have e3 := h3 os
  generalize endF (stepQ (denQ tabQ) r.prog w) M r.prog w os = o at *
  cases o with
  | none => cases e1
  | some s =>
    have e1 : He.obsD fa fn (kk n s) = He.valD fn := Option.some.inj e1
    have e2 : (ts.map fun t => He.dicW (kk n s) (t.1 (kk n s))) = ts.map fun t => some (He.keysIn w.params t.2) := Option.some.inj e2
    have e3 : LM.ckAll l (kk n s) = true := Option.some.inj e3
    show some ((He.obsD fa fn (kk n s), ts.map fun t => He.dicW (kk n s) (t.1 (kk n s))), LM.ckAll l (kk n s)) = some ((He.valD fn, ts.map fun t => some (He.keysIn w.params t.2)), true)
    rw [e1, e2, e3]
end LMR

namespace LM
open PySem L2
def topS (i : Nat) : Stmt := PySem.Challenge.pw_loomarrays_k08_texts_that_write_none.main.body.getD i (.Pass ⟨0, 0, 0, 0⟩)
def tab_BOTH : List (Str × Te) := [("add", .fn "added" 0), ("less", .fn "lessened" 1), ("times", .fn "multiplied" 2), ("least", .fn "lesser" 3), ("most", .fn "greater" 4), ("below", .fn "is_below" 5), ("alike", .fn "is_alike" 6)]
def ks_BOTH : List Str := ["add", "less", "times", "least", "most", "below", "alike"]
def tab_FORMS : List (Str × Te) := [("given", .str (Str.ofString "n")), ("even", .str (Str.ofString "sn")), ("turn", .str (Str.ofString "ns")), ("cut", .str (Str.ofString "nnnnn")), ("drop", .str (Str.ofString "nnn")), ("wide", .str (Str.ofString "nn")), ("spread", .str (Str.ofString "ns")), ("shape", .str (Str.ofString "ns")), ("shift", .str (Str.ofString "nnnn")), ("one", .str (Str.ofString "1n")), ("both", .str (Str.ofString "2nn")), ("where", .str (Str.ofString "nnn")), ("fold", .str (Str.ofString "fnn")), ("run", .str (Str.ofString "fnn")), ("pick", .str (Str.ofString "nnn")), ("join", .str (Str.ofString "nnn"))]
def ks_FORMS : List Str := ["given", "even", "turn", "cut", "drop", "wide", "spread", "shape", "shift", "one", "both", "where", "fold", "run", "pick", "join"]
def dRec (x : Str) (i : Nat) : He.DefD := ⟨(x, none), x, x, defArgs (topS i), defBody (topS i), defScope (topS i), [], []⟩
def dIni (x q : Str) (i j : Nat) : He.DefD := ⟨(x, some "__init__"), "__init__", q, defArgs (inClass (topS i) j), defBody (inClass (topS i) j), defScope (inClass (topS i) j), [], []⟩
def fns_0 : List He.DefD := [dRec "added" 2, dRec "lessened" 3, dRec "multiplied" 4, dRec "lesser" 5, dRec "greater" 6, dRec "is_below" 7, dRec "is_alike" 8, dRec "whole_of" 22, dRec "numbers_of" 23, dRec "part_of" 24, dRec "line_of" 25, dRec "read_program" 26, dRec "_law_taken" 28, dRec "_law_whole" 29, dRec "_law_numbers" 30, dRec "_law_forms" 31, dRec "_law_part" 32, dRec "_law_word" 33, dRec "_law_same" 34, dRec "_law_spoilt" 35]
def fns_1 : List He.DefD := [dRec "_law_found" 36, dRec "_law_refused" 37, dRec "law" 38, dIni "NoText" "NoText.__init__" 17 0]
def fns_ : List He.DefD := fns_0 ++ fns_1
def fa_0 : List He.Fa := [.glo "added", .glo "lessened", .glo "multiplied", .glo "lesser", .glo "greater", .glo "is_below", .glo "is_alike", .glo "whole_of", .glo "numbers_of", .glo "part_of", .glo "line_of", .glo "read_program", .glo "_law_taken", .glo "_law_whole", .glo "_law_numbers", .glo "_law_forms", .glo "_law_part", .glo "_law_word", .glo "_law_same", .glo "_law_spoilt"]
def fa_1 : List He.Fa := [.glo "_law_found", .glo "_law_refused", .glo "law", .free "len", .free "range", .free "tuple", .free "list", .free "int", .free "bool", .free "str", .free "isinstance", .free "max", .free "min", .free "sum", .free "zip", .free "reversed", .free "enumerate", .free "sorted", .free "set", .free "dict"]
def fa_2 : List He.Fa := [.free "ValueError", .free "any", .free "all", .int "REST" (1000003), .int "MOST_FIGURES" (12), .glo "BOTH", .glo "FORMS", .glo "LoomError", .glo "NoTable", .glo "BadLine", .glo "NoCell", .glo "NoText", .glo "FOLDS", .glo "ONES", .str "FIGURES" (Str.ofString "0123456789")]
def fa_ : List He.Fa := fa_0 ++ fa_1 ++ fa_2
def loose_0 : List Str := ["added", "lessened", "multiplied", "lesser", "greater", "is_below", "is_alike", "whole_of", "numbers_of", "part_of", "line_of", "read_program", "_law_taken", "_law_whole", "_law_numbers", "_law_forms", "_law_part", "_law_word", "_law_same", "_law_spoilt"]
def loose_1 : List Str := ["_law_found", "_law_refused", "REST", "BOTH", "FOLDS", "ONES", "FIGURES", "MOST_FIGURES", "FORMS", "LoomError", "NoTable", "BadLine", "NoCell", "NoText"]
abbrev loose_ : List Str := loose_0 ++ loose_1
abbrev R_ : PySem.W.OpenRow := PySem.W.OpenLaw.row PySem.Challenge.rw_loomarrays_k08_texts_that_write_none
def cnames : List Str := ["LoomError", "NoTable", "BadLine", "NoCell", "NoText"]
def cAd (K : PySem.W.Frag) (i : Nat) : Addr := He.ga K (cnames.getD i Str.empty)
def cfl (i : Nat) : List Str := ([[], [], ["why", "at"], [], ["row"]] : List (List Str)).getD i []
def cks_ : CkL := [fun K => tabB K (He.ga K "BOTH") tab_BOTH, fun K => tabB K (He.ga K "FORMS") tab_FORMS, ckB cAd 0 [(0, true), (1, true), (2, true), (3, true), (4, true)], ckB cAd 4 [(0, false), (1, false), (2, false), (3, false), (4, true)], fun K => eoB ["row"] (cAd K 4) K, fun K => xfKB "row" (cAd K 4) K, fun K => xiB (cAd K 4) (.ref (cAd K 2)) false K, fun K => xiB (cAd K 4) (.ref (cAd K 3)) false K, fun K => xiB (cAd K 4) (.ref (cAd K 1)) false K, fun K => xiB (cAd K 0) (.type "ValueError") true K, fun K => xiB (cAd K 1) (.type "ValueError") true K, fun K => xiB (cAd K 2) (.type "ValueError") true K, fun K => xiB (cAd K 3) (.type "ValueError") true K, fun K => xiB (cAd K 4) (.type "ValueError") true K, fun K => cstB (He.ga K "FOLDS") [Str.ofString "add", Str.ofString "times", Str.ofString "least", Str.ofString "most"] K, fun K => cstB (He.ga K "ONES") [Str.ofString "minus", Str.ofString "half", Str.ofString "none"] K, fun K => keysB (He.ga K "BOTH") ks_BOTH K, fun K => keysB (He.ga K "FORMS") ks_FORMS K]
def ts_ : List He.Tab := [(fun K => He.ga K "BOTH", ["add", "less", "times", "least", "most", "below", "alike"]), (fun K => He.ga K "FORMS", ["given", "even", "turn", "cut", "drop", "wide", "spread", "shape", "shift", "one", "both", "where", "fold", "run", "pick", "join"])]
def ck_ (K : PySem.W.Frag) : Bool := ckAll cks_ K
abbrev hk_ : PySem.W.Hook := hookL 6 fa_ fns_ ts_ ck_
def ob_ (s : PySem.W.SharedT) : AlL := obsLG 6 fa_ fns_ ts_ ck_ (HandSHeadRun.getT s)
theorem ob_is (s : PySem.W.SharedT) : ob_ s = hk_.obs s.abs := obsLG_is (HandSHeadRun.getT_eq s)
theorem run_a (w : World) : (fun w => HandSHeadRun.RunEq R_ (PySem.W.view R_.prog [38]) hk_ ob_ 2740 loose_ w) (w.withFollow "special-get-raises" false) := by
  intro os
  kernel_rfl
theorem run_b (w : World) : (fun w => HandSHeadRun.RunEq R_ (PySem.W.view R_.prog [38]) hk_ ob_ 2740 loose_ w) (w.withFollow "special-get-raises" true) := by
  intro os
  kernel_rfl
theorem run_ (w : World) : HandSHeadRun.RunEq R_ (PySem.W.view R_.prog [38]) hk_ ob_ 2740 loose_ w :=
  PySem.W.byRow2 "special-get-raises" (P := fun w => HandSHeadRun.RunEq R_ (PySem.W.view R_.prog [38]) hk_ ob_ 2740 loose_ w) run_a run_b w
end LM
/-! Data values, the machine of the mirror, and what stands for what. -/
namespace LM
open PySem L2

/-- a value told as data; lists and objects that are never changed again are data, too -/
inductive DV where
  | non | bl (b : Bool) | int (i : Int) | str (s : Str)
  | tup (l : List DV)
  | lst (l : List DV)
  | scr (l : List Int)
  | dct (ks : List Int) (l : List DV)
  | obj (c : Nat) (l : List DV)
  | fn (f : Nat)
  | ref (p : Nat)
  deriving Inhabited

/-- an object that may still be changed -/
inductive HObj where
  | lst (l : List DV)
  | obj (c : Nat) (l : List DV)
  deriving Inhabited

abbrev HP := List HObj
structure Ex where
  c : Nat
  l : List DV
  deriving Inhabited

inductive Res (α : Type) where
  | ok (a : α) (h : HP)
  | exc (e : Ex) (h : HP)
  | bad

def M (α : Type) : Type := HP → Res α
namespace M
@[inline] def pure {α : Type} (a : α) : M α := fun h => .ok a h
@[inline] def bind {α β : Type} (m : M α) (k : α → M β) : M β := fun h => match m h with
  | .ok a h' => k a h'
  | .exc e h' => .exc e h'
  | .bad => .bad
def bad {α : Type} : M α := fun _ => .bad
instance : Monad M where
  pure := M.pure
  bind := M.bind
theorem ext {α : Type} {m n : M α} (e : ∀ h, m h = n h) : m = n := funext e
theorem bind_def {α β : Type} (m : M α) (k : α → M β) (h : HP) : (m >>= k) h = (match m h with
  | .ok a h' => k a h'
  | .exc e h' => .exc e h'
  | .bad => .bad) := rfl
theorem pure_def {α : Type} (a : α) (h : HP) : (Pure.pure a : M α) h = .ok a h := rfl
theorem bad_def {α : Type} (h : HP) : (M.bad : M α) h = .bad := rfl
instance : LawfulMonad M := LawfulMonad.mk'
  (id_map := fun m => ext fun h => by
    show M.bind m (fun a => M.pure a) h = m h
    unfold M.bind M.pure
    cases m h <;> rfl)
  (pure_bind := fun a k => rfl)
  (bind_assoc := fun m k j => ext fun h => by
    show M.bind (M.bind m k) j h = M.bind m (fun a => M.bind (k a) j) h
    unfold M.bind
    cases m h <;> rfl)
theorem bad_bind {α β : Type} (k : α → M β) : ((M.bad : M α) >>= k) = M.bad := rfl
end M

/-! ### what stands for what -/
structure Glue where
  K : PySem.W.Frag
  fA : Nat → Addr
  cA : Nat → Addr
  flds : Nat → List Str
/-- the objects that stay for ever; where the changing ones lie -/
structure Wd where
  F : Addr → Prop
  r : List Addr

/-- the script: locked, or an object of the top -/
def SqS (K : PySem.W.Frag) (H : Hp) (a : Addr) (xs : List V) : Prop :=
  (∃ o, H a = some (.frz o (.lst xs))) ∨
    ∃ (o : Obj) (its : Array Value) (n : Nat), K.lookup a = some o ∧ o.cls = .type "list" ∧ o.dict = none ∧ o.data = .seq its n ∧ its.size ≤ sizeLine ∧ Vals xs its.toList
theorem SqS.l {K : PySem.W.Frag} {H : Hp} {a : Addr} {xs : List V} (h : SqS K H a xs) : SqL K H a xs := by
  rcases h with h | h
  · exact .inl (.inr h)
  · exact .inr h

mutual
def Rep (g : Glue) (W : Wd) (H : Hp) : DV → V → Prop
  | .non, v => v = .non
  | .bl b, v => v = .bl b
  | .int i, v => v = .int i
  | .str s, v => v = .str s
  | .tup l, v => ∃ a vs, v = .ref a ∧ SqT g.K H a vs ∧ Reps g W H l vs
  | .lst l, v => ∃ a vs, v = .ref a ∧ W.F a ∧ H a = some (.lst vs) ∧ Reps g W H l vs
  | .scr l, v => ∃ a, v = .ref a ∧ SqS g.K H a (l.map V.int)
  | .dct ks l, v => ∃ a vs, v = .ref a ∧ W.F a ∧ H a = some (.dK ((ks.map Sum.inl).zip vs)) ∧ ks.length = vs.length ∧ Reps g W H l vs
  | .obj c l, v => ∃ a dx vs, v = .ref a ∧ W.F a ∧ H a = some (.ins (g.cA c) dx ((g.flds c).zip vs)) ∧ vs.length ≤ (g.flds c).length ∧ Reps g W H l vs
  | .fn f, v => v = .ref (g.fA f)
  | .ref p, v => ∃ a, v = .ref a ∧ W.r[p]? = some a
def Reps (g : Glue) (W : Wd) (H : Hp) : List DV → List V → Prop
  | [], vs => vs = []
  | d :: ds, vs => ∃ v r, vs = v :: r ∧ Rep g W H d v ∧ Reps g W H ds r
end

/-- a later heap, all that is data being as it was -/
structure Per (W : Wd) (H : Hp) (W' : Wd) (H' : Hp) : Prop where
  f : ∀ a, W.F a → W'.F a
  r : ∀ (p : Nat) (a : Addr), W.r[p]? = some a → W'.r[p]? = some a
  h : ∀ a, W.F a → H' a = H a
  t : ∀ a xs, H a = some (.tup xs) → H' a = some (.tup xs)
  z : ∀ a o u, H a = some (.frz o u) → H' a = some (.frz o u)
theorem Per.refl (W : Wd) (H : Hp) : Per W H W H := ⟨fun _ h => h, fun _ _ h => h, fun _ _ => rfl, fun _ _ h => h, fun _ _ _ h => h⟩
theorem Per.trans {W W1 W2 : Wd} {H H1 H2 : Hp} (a : Per W H W1 H1) (b : Per W1 H1 W2 H2) : Per W H W2 H2 :=
  ⟨fun x h => b.f x (a.f x h), fun p x h => b.r p x (a.r p x h), fun x h => (b.h x (a.f x h)).trans (a.h x h), fun x xs h => b.t x xs (a.t x xs h), fun x o u h => b.z x o u (a.z x o u h)⟩
theorem Per.sqT {K : PySem.W.Frag} {W W' : Wd} {H H' : Hp} {a : Addr} {xs : List V} (p : Per W H W' H') (h : SqT K H a xs) : SqT K H' a xs := by
  rcases h with (h | ⟨o, h⟩) | h
  · exact .inl (.inl (p.t _ _ h))
  · exact .inl (.inr ⟨o, p.z _ _ _ h⟩)
  · exact .inr h
theorem Per.sqS {K : PySem.W.Frag} {W W' : Wd} {H H' : Hp} {a : Addr} {xs : List V} (p : Per W H W' H') (h : SqS K H a xs) : SqS K H' a xs := by
  rcases h with ⟨o, h⟩ | h
  · exact .inl ⟨o, p.z _ _ _ h⟩
  · exact .inr h
mutual
theorem Rep.per {g : Glue} {W W' : Wd} {H H' : Hp} (p : Per W H W' H') : ∀ (d : DV) (v : V), Rep g W H d v → Rep g W' H' d v
  | .non, _, h => by simpa only [Rep] using h
  | .bl _, _, h => by simpa only [Rep] using h
  | .int _, _, h => by simpa only [Rep] using h
  | .str _, _, h => by simpa only [Rep] using h
  | .tup l, v, h => by
    simp only [Rep] at h ⊢
    obtain ⟨a, vs, e, s, r⟩ := h
    exact ⟨a, vs, e, p.sqT s, Reps.per p l vs r⟩
  | .lst l, v, h => by
    simp only [Rep] at h ⊢
    obtain ⟨a, vs, e, f, s, r⟩ := h
    exact ⟨a, vs, e, p.f a f, (p.h a f).trans s, Reps.per p l vs r⟩
  | .scr l, v, h => by
    simp only [Rep] at h ⊢
    obtain ⟨a, e, s⟩ := h
    exact ⟨a, e, p.sqS s⟩
  | .dct ks l, v, h => by
    simp only [Rep] at h ⊢
    obtain ⟨a, vs, e, f, s, n, r⟩ := h
    exact ⟨a, vs, e, p.f a f, (p.h a f).trans s, n, Reps.per p l vs r⟩
  | .obj c l, v, h => by
    simp only [Rep] at h ⊢
    obtain ⟨a, dx, vs, e, f, s, n, r⟩ := h
    exact ⟨a, dx, vs, e, p.f a f, (p.h a f).trans s, n, Reps.per p l vs r⟩
  | .fn _, _, h => by simpa only [Rep] using h
  | .ref q, v, h => by
    simp only [Rep] at h ⊢
    obtain ⟨a, e, s⟩ := h
    exact ⟨a, e, p.r _ _ s⟩
theorem Reps.per {g : Glue} {W W' : Wd} {H H' : Hp} (p : Per W H W' H') : ∀ (l : List DV) (vs : List V), Reps g W H l vs → Reps g W' H' l vs
  | [], _, h => by simpa only [Reps] using h
  | d :: ds, vs, h => by
    simp only [Reps] at h ⊢
    obtain ⟨v, r, e, h1, h2⟩ := h
    exact ⟨v, r, e, Rep.per p d v h1, Reps.per p ds r h2⟩
end
theorem Reps.len {g : Glue} {W : Wd} {H : Hp} : ∀ {l : List DV} {vs : List V}, Reps g W H l vs → l.length = vs.length
  | [], _, h => by
    simp only [Reps] at h
    rw [h]
    rfl
  | d :: ds, vs, h => by
    simp only [Reps] at h
    obtain ⟨v, r, e, _, h2⟩ := h
    rw [e, List.length_cons, List.length_cons, Reps.len h2]
theorem Reps.get {g : Glue} {W : Wd} {H : Hp} : ∀ {l : List DV} {vs : List V} {i : Nat} {d : DV}, Reps g W H l vs → l[i]? = some d → ∃ v, vs[i]? = some v ∧ Rep g W H d v
  | [], _, _, _, _, e => by simp at e
  | x :: ds, vs, i, d, h, e => by
    simp only [Reps] at h
    obtain ⟨v, r, e1, h1, h2⟩ := h
    subst e1
    cases i with
    | zero =>
      have : x = d := by simpa using e
      subst this
      exact ⟨v, rfl, h1⟩
    | succ i => exact Reps.get (i := i) h2 (by simpa using e)
theorem Reps.getV {g : Glue} {W : Wd} {H : Hp} {l : List DV} {vs : List V} {i : Nat} {v : V} (h : Reps g W H l vs) (e : vs[i]? = some v) : ∃ d, l[i]? = some d ∧ Rep g W H d v := by
  have hi : i < l.length := by
    rw [h.len]
    exact (List.getElem?_eq_some_iff.mp e).1
  obtain ⟨w, e2, r⟩ := h.get (List.getElem?_eq_getElem hi)
  rw [e] at e2
  cases e2
  exact ⟨_, List.getElem?_eq_getElem hi, r⟩
theorem Reps.nil {g : Glue} {W : Wd} {H : Hp} : Reps g W H [] [] := by simp only [Reps]
theorem Reps.cons {g : Glue} {W : Wd} {H : Hp} {d : DV} {v : V} {l : List DV} {vs : List V} (a : Rep g W H d v) (b : Reps g W H l vs) : Reps g W H (d :: l) (v :: vs) := by
  simp only [Reps]
  exact ⟨v, vs, rfl, a, b⟩
theorem Reps.app {g : Glue} {W : Wd} {H : Hp} : ∀ {l m : List DV} {vs ws : List V}, Reps g W H l vs → Reps g W H m ws → Reps g W H (l ++ m) (vs ++ ws)
  | [], _, _, _, a, b => by
    simp only [Reps] at a
    subst a
    exact b
  | d :: ds, m, vs, ws, a, b => by
    simp only [Reps] at a
    obtain ⟨v, r, e, h1, h2⟩ := a
    subst e
    exact Reps.cons h1 (Reps.app h2 b)
theorem Reps.take {g : Glue} {W : Wd} {H : Hp} : ∀ (n : Nat) {l : List DV} {vs : List V}, Reps g W H l vs → Reps g W H (l.take n) (vs.take n)
  | 0, _, _, _ => by
    rw [List.take_zero, List.take_zero]
    exact .nil
  | n + 1, [], vs, a => by
    simp only [Reps] at a
    subst a
    exact .nil
  | n + 1, d :: ds, vs, a => by
    simp only [Reps] at a
    obtain ⟨v, r, e, h1, h2⟩ := a
    subst e
    exact Reps.cons h1 (Reps.take n h2)
theorem Reps.drop {g : Glue} {W : Wd} {H : Hp} : ∀ (n : Nat) {l : List DV} {vs : List V}, Reps g W H l vs → Reps g W H (l.drop n) (vs.drop n)
  | 0, _, _, a => by
    rw [List.drop_zero, List.drop_zero]
    exact a
  | n + 1, [], vs, a => by
    simp only [Reps] at a
    subst a
    exact .nil
  | n + 1, d :: ds, vs, a => by
    simp only [Reps] at a
    obtain ⟨v, r, e, h1, h2⟩ := a
    subst e
    exact Reps.drop n h2
theorem Reps.rev {g : Glue} {W : Wd} {H : Hp} : ∀ {l : List DV} {vs : List V}, Reps g W H l vs → Reps g W H l.reverse vs.reverse
  | [], vs, a => by
    simp only [Reps] at a
    subst a
    exact .nil
  | d :: ds, vs, a => by
    simp only [Reps] at a
    obtain ⟨v, r, e, h1, h2⟩ := a
    subst e
    rw [List.reverse_cons, List.reverse_cons]
    exact Reps.app (Reps.rev h2) (Reps.cons h1 .nil)
theorem Reps.set {g : Glue} {W : Wd} {H : Hp} {d : DV} {v : V} (q : Rep g W H d v) : ∀ (i : Nat) {l : List DV} {vs : List V}, Reps g W H l vs → Reps g W H (l.set i d) (vs.set i v)
  | _, [], vs, a => by
    simp only [Reps] at a
    subst a
    exact .nil
  | 0, x :: ds, vs, a => by
    simp only [Reps] at a
    obtain ⟨w, r, e, h1, h2⟩ := a
    subst e
    exact Reps.cons q h2
  | i + 1, x :: ds, vs, a => by
    simp only [Reps] at a
    obtain ⟨w, r, e, h1, h2⟩ := a
    subst e
    exact Reps.cons h1 (Reps.set q i h2)
theorem Reps.rep {g : Glue} {W : Wd} {H : Hp} {l : List DV} {vs : List V} (a : Reps g W H l vs) : ∀ k : Nat, Reps g W H (List.replicate k l).flatten (List.replicate k vs).flatten
  | 0 => .nil
  | k + 1 => by
    rw [List.replicate_succ, List.replicate_succ, List.flatten_cons, List.flatten_cons]
    exact Reps.app a (Reps.rep a k)

/-! ### the state -/
inductive Slot where
  | none
  | val (d : DV)
  | own (l : List DV)
  | dic (ks : List Int) (l : List DV)
  | exn (x : Ex)
  deriving Inhabited
abbrev En := List Slot

/-- behind a call or an expression: what was tracked stands, but for the changing objects -/
structure Step (W : Wd) (H : Hp) (W' : Wd) (H' : Hp) : Prop where
  f : ∀ a, W.F a → W'.F a
  r : ∀ (p : Nat) (a : Addr), W.r[p]? = some a → W'.r[p]? = some a
  k : ∀ a o, H a = some o → a ∉ W.r → H' a = some o
  th : ∀ a, H' a = none → H a = none
  nf : ∀ a, W'.F a → W.F a ∨ H a = none ∨ (a ∉ W.r ∧ ∃ fs, H a = some (.xd fs))
  nr : ∀ a, a ∈ W'.r → a ∈ W.r ∨ H a = none
theorem Step.refl (W : Wd) (H : Hp) : Step W H W H := ⟨fun _ h => h, fun _ _ h => h, fun _ _ h _ => h, fun _ h => h, fun _ h => .inl h, fun _ h => .inl h⟩
theorem Step.mem {W W' : Wd} {H H' : Hp} (s : Step W H W' H') {a : Addr} (h : a ∈ W.r) : a ∈ W'.r := by
  obtain ⟨p, hp, e⟩ := List.mem_iff_getElem.mp h
  exact List.mem_of_getElem? (s.r p a (by rw [List.getElem?_eq_getElem hp, e]))

def RepO (g : Glue) (W : Wd) (H : Hp) (o : HObj) (a : Addr) : Prop := match o with
  | .lst l => ∃ vs, H a = some (.lst vs) ∧ Reps g W H l vs
  | .obj c l => ∃ dx vs, H a = some (.ins (g.cA c) dx ((g.flds c).zip vs)) ∧ vs.length ≤ (g.flds c).length ∧ Reps g W H l vs
structure HSim (g : Glue) (W : Wd) (h : HP) (H : Hp) : Prop where
  len : W.r.length = h.length
  nd : W.r.Nodup
  o : ∀ (p : Nat) (o : HObj) (a : Addr), h[p]? = some o → W.r[p]? = some a → RepO g W H o a ∧ ¬ W.F a
  fs : ∀ a, W.F a → ∃ o, H a = some o
theorem HSim.mem {g : Glue} {W : Wd} {h : HP} {H : Hp} (s : HSim g W h H) {a : Addr} (m : a ∈ W.r) : ∃ (p : Nat) (o : HObj), h[p]? = some o ∧ W.r[p]? = some a ∧ RepO g W H o a ∧ ¬ W.F a := by
  obtain ⟨p, hp, e⟩ := List.mem_iff_getElem.mp m
  have hp' : p < h.length := by
    rw [← s.len]
    exact hp
  have e1 : W.r[p]? = some a := by rw [List.getElem?_eq_getElem hp, e]
  have e2 : h[p]? = some h[p] := List.getElem?_eq_getElem hp'
  obtain ⟨h1, h2⟩ := s.o p _ a e2 e1
  exact ⟨p, _, e2, e1, h1, h2⟩
theorem RepO.mut {g : Glue} {W : Wd} {H : Hp} {o : HObj} {a : Addr} (h : RepO g W H o a) : (∃ vs, H a = some (.lst vs)) ∨ ∃ C dx fs, H a = some (.ins C dx fs) := by
  cases o with
  | lst l =>
    obtain ⟨vs, e, _⟩ := h
    exact .inl ⟨vs, e⟩
  | obj c l =>
    obtain ⟨dx, vs, e, _⟩ := h
    exact .inr ⟨_, _, _, e⟩
theorem HSim.notF {g : Glue} {W : Wd} {h : HP} {H : Hp} (s : HSim g W h H) {a : Addr} (f : W.F a) : a ∉ W.r := fun m => by
  obtain ⟨_, _, _, _, _, n⟩ := s.mem m
  exact n f
theorem Step.per {g : Glue} {W W' : Wd} {h : HP} {H H' : Hp} (s : HSim g W h H) (st : Step W H W' H') : Per W H W' H' := by
  refine ⟨st.f, st.r, fun a f => ?_, fun a xs e => st.k a _ e fun m => ?_, fun a o u e => st.k a _ e fun m => ?_⟩
  · obtain ⟨o, e⟩ := s.fs a f
    rw [e]
    exact st.k a o e (s.notF f)
  · obtain ⟨_, _, _, _, r, _⟩ := s.mem m
    rcases r.mut with ⟨vs, e2⟩ | ⟨C, dx, fs, e2⟩ <;> rw [e] at e2 <;> cases e2
  · obtain ⟨_, _, _, _, r, _⟩ := s.mem m
    rcases r.mut with ⟨vs, e2⟩ | ⟨C, dx, fs, e2⟩ <;> rw [e] at e2 <;> cases e2
theorem Step.trans {W W1 W2 : Wd} {H H1 H2 : Hp} (a : Step W H W1 H1) (b : Step W1 H1 W2 H2) : Step W H W2 H2 := by
  refine ⟨fun x h => b.f x (a.f x h), fun p x h => b.r p x (a.r p x h), fun x o e n => b.k x o (a.k x o e n) fun m => ?_, fun x h => a.th x (b.th x h), fun x h => ?_, fun x h => ?_⟩
  · rcases a.nr x m with q | q
    · exact n q
    · rw [e] at q
      cases q
  · rcases b.nf x h with q | q | ⟨n, fs, q⟩
    · exact a.nf x q
    · exact .inr (.inl (a.th x q))
    · have n0 : x ∉ W.r := fun m => n (a.mem m)
      cases z : H x with
      | none => exact .inr (.inl rfl)
      | some o =>
        have z2 := a.k x o z n0
        rw [q] at z2
        exact .inr (.inr ⟨n0, fs, z2.symm⟩)
  · rcases b.nr x h with q | q
    · exact a.nr x q
    · exact .inr (a.th x q)
end LM

/-! The state, what a mirror's step promises. -/
namespace LM
open PySem L2

def Slot.isOwn : Slot → Bool
  | .own _ => true
  | .dic _ _ => true
  | _ => false

/-- where a body stands: what the call began with -/
structure Cn where
  g : Glue
  W0 : Wd
  H0 : Hp
  x : WX
  cur : Option (Addr × Value × Option Addr) := none
/-- a caught exception: its class; what its own dict holds, for ever -/
def XRepF (g : Glue) (W : Wd) (H : Hp) (x : Ex) (cls : Value) (dd : Option Addr) : Prop :=
  cls = .ref (g.cA x.c) ∧ ((x.l = [] ∧ dd = none) ∨ ∃ d vs, dd = some d ∧ W.F d ∧ H d = some (.xd ((g.flds x.c).zip vs)) ∧ vs.length = (g.flds x.c).length ∧ Reps g W H x.l vs)
theorem XRepF.per {g : Glue} {W W' : Wd} {H H' : Hp} {x : Ex} {cls : Value} {dd : Option Addr} (r : XRepF g W H x cls dd) (p : Per W H W' H') : XRepF g W' H' x cls dd := by
  obtain ⟨e, r⟩ := r
  refine ⟨e, ?_⟩
  rcases r with r | ⟨d, vs, e1, f, e2, e3, e4⟩
  · exact .inl r
  · exact .inr ⟨d, vs, e1, p.f d f, by rw [p.h d f]; exact e2, e3, e4.per p _ _⟩

structure Sim (c : Cn) (W : Wd) (e : En) (h : HP) (s : L2.St) (H : Hp) : Prop where
  hs : HSim c.g W h H
  st : Step c.W0 c.H0 W H
  len : e.length = s.length
  val : ∀ (i : Nat) (d : DV), e[i]? = some (.val d) → ∃ v, s[i]? = some (some v) ∧ Rep c.g W H d v
  own : ∀ (i : Nat) (l : List DV), e[i]? = some (.own l) → ∃ a vs, s[i]? = some (some (.ref a)) ∧ H a = some (.lst vs) ∧ Reps c.g W H l vs ∧ ¬ W.F a ∧ a ∉ W.r ∧ c.H0 a = none
  dic : ∀ (i : Nat) (ks : List Int) (l : List DV), e[i]? = some (.dic ks l) → ∃ a vs, s[i]? = some (some (.ref a)) ∧ H a = some (.dK ((ks.map Sum.inl).zip vs)) ∧ ks.length = vs.length ∧ Reps c.g W H l vs ∧ ¬ W.F a ∧ a ∉ W.r ∧ c.H0 a = none
  ne : ∀ (i j : Nat) (a : Addr) (x y : Slot), e[i]? = some x → x.isOwn = true → e[j]? = some y → y.isOwn = true → s[i]? = some (some (.ref a)) → s[j]? = some (some (.ref a)) → i = j
  exn : ∀ (i : Nat) (x : Ex), e[i]? = some (.exn x) → ∃ a cls dd, c.cur = some (a, cls, dd) ∧ s[i]? = some (some (.ref a)) ∧ XRepF c.g W H x cls dd

section
variable {c : Cn} {W W' : Wd} {e : En} {h h' : HP} {s : St} {H H' : Hp}
theorem Sim.per (S : Sim c W e h s H) (t : Step W H W' H') : Per W H W' H' := t.per S.hs
/-- behind a step -/
theorem Sim.step (S : Sim c W e h s H) (t : Step W H W' H') (hs : HSim c.g W' h' H') : Sim c W' e h' s H' := by
  have p := S.per t
  refine ⟨hs, S.st.trans t, S.len, fun i d e1 => ?_, fun i l e1 => ?_, fun i ks l e1 => ?_, S.ne, fun i x e1 => by
    obtain ⟨a, cls, dd, e2, e3, r⟩ := S.exn i x e1
    exact ⟨a, cls, dd, e2, e3, r.per p⟩⟩
  · obtain ⟨v, e2, r⟩ := S.val i d e1
    exact ⟨v, e2, r.per p _ _⟩
  · obtain ⟨a, vs, e2, e3, r, n1, n2, n3⟩ := S.own i l e1
    refine ⟨a, vs, e2, t.k a _ e3 n2, r.per p _ _, fun f => ?_, fun m => ?_, n3⟩
    · rcases t.nf a f with q | q | ⟨_, fs, q⟩
      · exact n1 q
      · rw [e3] at q
        cases q
      · rw [e3] at q
        cases q
    · rcases t.nr a m with q | q
      · exact n2 q
      · rw [e3] at q
        cases q
  · obtain ⟨a, vs, e2, e3, l1, r, n1, n2, n3⟩ := S.dic i ks l e1
    refine ⟨a, vs, e2, t.k a _ e3 n2, l1, r.per p _ _, fun f => ?_, fun m => ?_, n3⟩
    · rcases t.nf a f with q | q | ⟨_, fs, q⟩
      · exact n1 q
      · rw [e3] at q
        cases q
      · rw [e3] at q
        cases q
    · rcases t.nr a m with q | q
      · exact n2 q
      · rw [e3] at q
        cases q
/-- a slot is set to what is not owned -/
theorem Sim.put {i : Nat} {x : Slot} {o : Option V} (S : Sim c W e h s H) (hx : x.isOwn = false) (hn : ∀ y, x = .exn y → ∃ a cls dd, c.cur = some (a, cls, dd) ∧ o = some (.ref a) ∧ XRepF c.g W H y cls dd) (hv : ∀ d, x = .val d → ∃ v, o = some v ∧ Rep c.g W H d v) : Sim c W (e.set i x) h (s.set i o) H := by
  have back : ∀ (j : Nat) (y : Slot), (e.set i x)[j]? = some y → y.isOwn = true → i ≠ j ∧ e[j]? = some y := fun j y e1 oy => by
    by_cases hj : i = j
    · subst hj
      rw [List.getElem?_set_self'] at e1
      cases q : e[i]? with
      | none =>
        rw [q] at e1
        cases e1
      | some u =>
        rw [q] at e1
        have e2 : x = y := Option.some.inj e1
        rw [← e2, hx] at oy
        cases oy
    · rw [List.getElem?_set_ne hj] at e1
      exact ⟨hj, e1⟩
  refine ⟨S.hs, S.st, by rw [List.length_set, List.length_set]; exact S.len, fun j d e1 => ?_, fun j l e1 => ?_, fun j ks l e1 => ?_, fun j k a y z e1 o1 e2 o2 e3 e4 => ?_, fun j y e1 => ?_⟩
  · by_cases hj : i = j
    · subst hj
      have hi : i < e.length := by
        have q := (List.getElem?_eq_some_iff.mp e1).1
        rwa [List.length_set] at q
      rw [List.getElem?_set_self hi] at e1
      obtain ⟨v, ov, r⟩ := hv d (Option.some.inj e1)
      exact ⟨v, by rw [List.getElem?_set_self (by rw [← S.len]; exact hi), ov], r⟩
    · rw [List.getElem?_set_ne hj] at e1 ⊢
      exact S.val j d e1
  · obtain ⟨hj, b1⟩ := back j _ e1 rfl
    rw [List.getElem?_set_ne hj]
    exact S.own j l b1
  · obtain ⟨hj, b1⟩ := back j _ e1 rfl
    rw [List.getElem?_set_ne hj]
    exact S.dic j ks l b1
  · obtain ⟨hj, b1⟩ := back j _ e1 o1
    obtain ⟨hk, b2⟩ := back k _ e2 o2
    rw [List.getElem?_set_ne hj] at e3
    rw [List.getElem?_set_ne hk] at e4
    exact S.ne j k a y z b1 o1 b2 o2 e3 e4
  · by_cases hj : i = j
    · subst hj
      have hi : i < e.length := by
        have q := (List.getElem?_eq_some_iff.mp e1).1
        rwa [List.length_set] at q
      rw [List.getElem?_set_self hi] at e1
      obtain ⟨a, cls, dd, q1, q2, q3⟩ := hn y (Option.some.inj e1)
      exact ⟨a, cls, dd, q1, by rw [List.getElem?_set_self (by rw [← S.len]; exact hi), q2], q3⟩
    · rw [List.getElem?_set_ne hj] at e1 ⊢
      exact S.exn j y e1
theorem Sim.set {i : Nat} {d : DV} {v : V} (S : Sim c W e h s H) (r : Rep c.g W H d v) : Sim c W (e.set i (.val d)) h (s.set i (some v)) H :=
  S.put rfl (fun y z => by cases z) fun d' z => by
    cases z
    exact ⟨v, rfl, r⟩
/-- forgotten here, kept or forgotten there -/
theorem Sim.gone {i : Nat} {o : Option V} (S : Sim c W e h s H) : Sim c W (e.set i .none) h (s.set i o) H := S.put rfl (fun y z => by cases z) fun d' z => by cases z
theorem Sim.gone' {i : Nat} (S : Sim c W e h s H) : Sim c W (e.set i .none) h s H := by
  by_cases hi : i < s.length
  · have q := S.gone (i := i) (o := s[i])
    rwa [List.set_getElem_self] at q
  · have e1 : e.set i .none = e := List.set_eq_of_length_le (by rw [S.len]; omega)
    rw [e1]
    exact S
end

/-- a made exception: its class; what its own dict holds -/
def XRep (g : Glue) (W : Wd) (H : Hp) (x : Ex) (cls : Value) (dd : Option Addr) : Prop :=
  cls = .ref (g.cA x.c) ∧ ((x.l = [] ∧ dd = none) ∨ ∃ d vs, dd = some d ∧ H d = some (.xd ((g.flds x.c).zip vs)) ∧ vs.length = (g.flds x.c).length ∧ Reps g W H x.l vs ∧ d ∉ W.r)

abbrev Rl (A B : Type) := Hp → Wd → Hp → A → B → Prop
def Post {A B : Type} (c : Cn) (R : Wd → Hp → A → B → Prop) (e : En) (s : L2.St) (W : Wd) (H : Hp) (r : Res A) (Q : B → Hp → Prop) : Prop := match r with
  | .ok a h' => ∀ W' H' b, Step W H W' H' → Sim c W' e h' s H' → R W' H' a b → Q b H'
  | .exc x h' => ∀ W' H' cls dd, Step W H W' H' → Sim c W' e h' s H' → XRep c.g W' H' x cls dd → c.x cls dd s H'
  | .bad => False
def RX {A B : Type} (c : Cn) (R : Rl A B) (m : En → M A) : L2.St → Hp → (B → Hp → Prop) → Prop := fun s H Q => ∃ W e h, Sim c W e h s H ∧ Post c (R H) e s W H (m e h) Q
/-- may stand anywhere; may be read -/
abbrev rV (c : Cn) : Rl DV V := fun _ W H d v => Rep c.g W H d v
abbrev rVs (c : Cn) (n : Nat) : Rl (List DV) (List V) := fun _ W H d v => Reps c.g W H d v ∧ d.length = n
def RepB (g : Glue) (W : Wd) (H : Hp) (d : DV) (v : V) : Prop := Rep g W H d v ∨
  (∃ l a vs, d = .lst l ∧ v = .ref a ∧ H a = some (.lst vs) ∧ Reps g W H l vs ∧ a ∉ W.r) ∨
  (∃ ks l a vs, d = .dct ks l ∧ v = .ref a ∧ H a = some (.dK ((ks.map Sum.inl).zip vs)) ∧ ks.length = vs.length ∧ Reps g W H l vs ∧ a ∉ W.r)
abbrev rB (c : Cn) : Rl DV V := fun _ W H d v => RepB c.g W H d v
abbrev rT : Rl Bool Bool := fun _ _ _ a b => b = a
abbrev RE (c : Cn) (m : En → M DV) : TE := RX c (rV c) m
abbrev RB (c : Cn) (m : En → M DV) : TE := RX c (rB c) m
abbrev RA (c : Cn) (n : Nat) (m : En → M (List DV)) : TA := RX c (rVs c n) m
abbrev RT (c : Cn) (m : En → M Bool) : TT := RX c rT m
/-- a list that nobody else holds -/
abbrev rO (c : Cn) : Rl (List DV) V := fun Hs W H l v => ∃ a vs, v = .ref a ∧ H a = some (.lst vs) ∧ Reps c.g W H l vs ∧ ¬ W.F a ∧ a ∉ W.r ∧ Hs a = none
abbrev RO (c : Cn) (m : En → M (List DV)) : TE := RX c (rO c) m

section
variable {A B D : Type} {c : Cn} {R : Wd → Hp → A → B → Prop} {e : En} {s : St} {W W1 : Wd} {H H1 : Hp} {Q : B → Hp → Prop}
theorem Post.later {r : Res A} (p : Post c R e s W H r Q) (t : Step W H W1 H1) : Post c R e s W1 H1 r Q := by
  cases r with
  | ok a h' => exact fun W' H' b t' => p W' H' b (t.trans t')
  | exc x h' => exact fun W' H' cls dd t' => p W' H' cls dd (t.trans t')
  | bad => exact p
theorem Post.bind {A2 : Type} {m : M A2} {k : A2 → M A} {h : HP} (p : Post c R e s W H ((m >>= k) h) Q) {B2 : Type} {R2 : Wd → Hp → A2 → B2 → Prop} {K : B2 → Hp → Prop}
    (f : ∀ W1 H1 a b h1, Step W H W1 H1 → Sim c W1 e h1 s H1 → R2 W1 H1 a b → Post c R e s W1 H1 (k a h1) Q → K b H1) : Post c R2 e s W H (m h) K := by
  rw [M.bind_def] at p
  cases q : m h with
  | ok a h1 =>
    rw [q] at p
    exact fun W' H' b t S r => f W' H' a b h1 t S r (p.later t)
  | exc x h1 =>
    rw [q] at p
    exact p
  | bad =>
    rw [q] at p
    exact p
theorem Post.imp {r : Res A} (p : Post c R e s W H r Q) {R2 : Wd → Hp → A → B → Prop} {Q2 : B → Hp → Prop} (f : ∀ W' H' a b, R2 W' H' a b → R W' H' a b) (q : ∀ b H', Q b H' → Q2 b H') : Post c R2 e s W H r Q2 := by
  cases r with
  | ok a h' => exact fun W' H' b t S z => q _ _ (p W' H' b t S (f _ _ _ _ z))
  | exc x h' => exact p
  | bad => exact p
end
section
variable {A B : Type} {c : Cn} {R : Rl A B} {s : St} {H : Hp} {Q : B → Hp → Prop}
theorem RX.bind {A2 B2 : Type} {m : En → M A2} {k : En → A2 → M A} (p : RX c R (fun e => m e >>= k e) s H Q) {R2 : Rl A2 B2} {K : B2 → Hp → Prop}
    (f : ∀ W e W1 H1 a b h1, Step W H W1 H1 → Sim c W1 e h1 s H1 → R2 H W1 H1 a b → Post c (R H) e s W1 H1 (k e a h1) Q → K b H1) : RX c R2 m s H K := by
  obtain ⟨W, e, h, S, p⟩ := p
  exact ⟨W, e, h, S, p.bind fun W1 H1 a b h1 t S1 r q => f W e W1 H1 a b h1 t S1 r q⟩
theorem RX.of {W : Wd} {e : En} {h : HP} {m : En → M A} (S : Sim c W e h s H) (p : Post c (R H) e s W H (m e h) Q) : RX c R m s H Q := ⟨W, e, h, S, p⟩
end
section
variable {X : Cx} {ex : Expr} {t t' : TE}
theorem pe_imp (h : PE X ex t) (f : ∀ s H Q, t' s H Q → t s H Q) : PE X ex t' := ⟨fun pins s σ H Q I q => h.run pins s σ H Q I (f σ H Q q)⟩
theorem pa_imp {es : List Expr} {t t' : TA} (h : PA X es t) (f : ∀ s H Q, t' s H Q → t s H Q) : PA X es t' := ⟨fun pos pins s σ H Q I q => h.run pos pins s σ H Q I (f σ H Q q)⟩
theorem pt_imp {t t' : TT} (h : PT X ex t) (f : ∀ s H Q, t' s H Q → t s H Q) : PT X ex t' := ⟨fun pins s σ H Q I q => h.run pins s σ H Q I (f σ H Q q)⟩
theorem ps_imp {st : Stmt} {t t' : TS} (h : PS X st t) (f : ∀ D s H, t' D s H → t D s H) : PS X st t' := ⟨fun pins s σ H D I q => h.run pins s σ H D I (f D σ H q)⟩
theorem pss_imp {st : List Stmt} {t t' : TS} (h : PSs X st t) (f : ∀ D s H, t' D s H → t D s H) : PSs X st t' := ⟨fun pins s σ H D I q => h.run pins s σ H D I (f D σ H q)⟩
theorem pi_imp {tg : Expr} {t t' : TI} (h : PI X tg ex t) (f : ∀ s H Q, t' s H Q → t s H Q) : PI X tg ex t' := ⟨fun pins s σ H R I q => h.run pins s σ H R I (f σ H R q)⟩
end

/-! ### relations that stay -/
structure Stays (c : Cn) {A B : Type} (R : Wd → Hp → A → B → Prop) : Prop where
  go : ∀ {W W' : Wd} {H H' : Hp} {h : HP} {a : A} {b : B}, HSim c.g W h H → Step W H W' H' → R W H a b → R W' H' a b
theorem stays_V {c : Cn} : Stays c (fun W H d v => Rep c.g W H d v) := ⟨fun S t r => r.per (t.per S) _ _⟩
theorem stays_Vs {c : Cn} : Stays c (fun W H d v => Reps c.g W H d v) := ⟨fun S t r => r.per (t.per S) _ _⟩
theorem notR {W W' : Wd} {H H' : Hp} {a : Addr} {o : HO} (t : Step W H W' H') (e : H a = some o) (n : a ∉ W.r) : a ∉ W'.r := fun m => by
  rcases t.nr a m with q | q
  · exact n q
  · rw [e] at q
    cases q
theorem notF {W W' : Wd} {H H' : Hp} {a : Addr} {o : HO} (t : Step W H W' H') (e : H a = some o) (n : ¬ W.F a) (hx : ∀ fs, o ≠ .xd fs) : ¬ W'.F a := fun m => by
  rcases t.nf a m with q | q | ⟨_, fs, q⟩
  · exact n q
  · rw [e] at q
    cases q
  · rw [e] at q
    exact hx fs (Option.some.inj q)
theorem stays_B {c : Cn} : Stays c (fun W H d v => RepB c.g W H d v) := ⟨fun {W W' H H' h d v} S t r => by
  rcases r with r | ⟨l, a, vs, e1, e2, e3, r, n⟩ | ⟨ks, l, a, vs, e1, e2, e3, z, r, n⟩
  · exact .inl (r.per (t.per S) _ _)
  · exact .inr (.inl ⟨l, a, vs, e1, e2, t.k _ _ e3 n, r.per (t.per S) _ _, notR t e3 n⟩)
  · exact .inr (.inr ⟨ks, l, a, vs, e1, e2, t.k _ _ e3 n, z, r.per (t.per S) _ _, notR t e3 n⟩)⟩

/-! ### a new object -/
section
variable {c : Cn} {W : Wd} {e : En} {h : HP} {s : St} {H : Hp} {p : Addr} {o : HO}
theorem HSim.new {g : Glue} (S : HSim g W h H) (hp : H p = none) (hw : Per W H W (upd H p o)) : HSim g W h (upd H p o) := by
  refine ⟨S.len, S.nd, fun q ob a e1 e2 => ?_, fun a f => ?_⟩
  · obtain ⟨r, n⟩ := S.o q ob a e1 e2
    refine ⟨?_, n⟩
    have hne : a ≠ p := by
      rcases r.mut with ⟨vs, e3⟩ | ⟨C, dx, fs, e3⟩ <;> exact ne_of_none e3 hp
    cases ob with
    | lst l =>
      obtain ⟨vs, e3, r3⟩ := r
      exact ⟨vs, by rw [upd_ne hne]; exact e3, r3.per hw _ _⟩
    | obj c l =>
      obtain ⟨dx, vs, e3, e4, r3⟩ := r
      exact ⟨dx, vs, by rw [upd_ne hne]; exact e3, e4, r3.per hw _ _⟩
  · obtain ⟨u, e1⟩ := S.fs a f
    exact ⟨u, by rw [upd_ne (ne_of_none e1 hp)]; exact e1⟩
theorem Step.new (hp : H p = none) : Step W H W (upd H p o) :=
  ⟨fun _ f => f, fun _ _ e => e, fun a u e _ => by rw [upd_ne (ne_of_none e hp)]; exact e, fun a e => by
    by_cases z : a = p
    · rw [z]
      exact hp
    · rwa [upd_ne z] at e, fun _ f => .inl f, fun _ f => .inl f⟩
/-- a new object that nobody tells of -/
theorem Sim.new (S : Sim c W e h s H) (hp : H p = none) : Step W H W (upd H p o) ∧ Sim c W e h s (upd H p o) := by
  have t : Step W H W (upd H p o) := Step.new hp
  exact ⟨t, S.step t (S.hs.new hp (t.per S.hs))⟩
/-- frozen: for ever -/
def Wd.frz (W : Wd) (a : Addr) : Wd := ⟨fun b => W.F b ∨ b = a, W.r⟩
theorem HSim.frz {g : Glue} (S : HSim g W h H) (ha : H p = some o) (nr : p ∉ W.r) : HSim g (W.frz p) h H := by
  refine ⟨S.len, S.nd, fun q ob a e1 e2 => ?_, fun a f => ?_⟩
  · obtain ⟨r, n⟩ := S.o q ob a e1 e2
    have hne : a ≠ p := fun z => nr (z ▸ List.mem_of_getElem? e2)
    have pr : Per W H (W.frz p) H := ⟨fun _ f => .inl f, fun _ _ e => e, fun _ _ => rfl, fun _ _ e => e, fun _ _ _ e => e⟩
    refine ⟨?_, fun f => f.elim n hne⟩
    cases ob with
    | lst l =>
      obtain ⟨vs, e3, r3⟩ := r
      exact ⟨vs, e3, r3.per pr _ _⟩
    | obj c l =>
      obtain ⟨dx, vs, e3, e4, r3⟩ := r
      exact ⟨dx, vs, e3, e4, r3.per pr _ _⟩
  · rcases f with f | f
    · exact S.fs a f
    · rw [f]
      exact ⟨o, ha⟩
/-- from a heap H in which p was not: p is frozen in a later one -/
theorem Step.frz {W1 : Wd} {H1 : Hp} (t : Step W H W1 H1) (hp : H p = none) : Step W H (W1.frz p) H1 :=
  ⟨fun a f => .inl (t.f a f), t.r, t.k, t.th, fun a f => f.elim (t.nf a) fun z => .inr (.inl (z ▸ hp)), t.nr⟩
end
end LM

/-! Expressions. -/
namespace LM
open PySem L2

abbrev LN : Nat := 16777216
theorem line_LN : sizeLine = LN := PySem.sizeLine_eq

/-! ### endings -/
section
variable {c : Cn} {A B : Type} {R : Wd → Hp → A → B → Prop} {e : En} {s : L2.St} {W : Wd} {H : Hp} {h : HP} {Q : B → Hp → Prop}
theorem Post.ret {a : A} {b : B} (p : Post c R e s W H (Res.ok a h) Q) (S : Sim c W e h s H) (r : R W H a b) : Q b H := p W H b (Step.refl W H) S r
end
section
variable {c : Cn} {e : En} {s : L2.St} {W : Wd} {H : Hp} {h : HP}
theorem post_tup {l : List DV} {vs : List V} {p : Addr} {Q : V → Hp → Prop} (q : Post c (rV c H) e s W H (Res.ok (DV.tup l) h) Q) (S : Sim c W e h s H) (r : Reps c.g W H l vs) (hp : H p = none) : Q (.ref p) (upd H p (.tup vs)) := by
  obtain ⟨t, S2⟩ := S.new (o := .tup vs) hp
  refine q _ _ _ t S2 ?_
  simp only [Rep]
  exact ⟨p, vs, rfl, .inl (.inl upd_same), r.per (S.per t) _ _⟩
theorem not_r {g : Glue} (S : HSim g W h H) {p : Addr} (hp : H p = none) : p ∉ W.r := fun m => by
  obtain ⟨_, _, _, _, r, _⟩ := S.mem m
  rcases r.mut with ⟨vs, e2⟩ | ⟨C, dx, fs, e2⟩ <;> rw [hp] at e2 <;> cases e2
theorem not_F {g : Glue} (S : HSim g W h H) {p : Addr} (hp : H p = none) : ¬ W.F p := fun f => by
  obtain ⟨o, q⟩ := S.fs p f
  rw [hp] at q
  cases q
theorem new_own {l : List DV} {vs : List V} {p : Addr} {Hs : Hp} (S : Sim c W e h s H) (r : Reps c.g W H l vs) (hp : H p = none) (hs : Hs p = none) : Step W H W (upd H p (.lst vs)) ∧ Sim c W e h s (upd H p (.lst vs)) ∧ rO c Hs W (upd H p (.lst vs)) l (.ref p) := by
  obtain ⟨t, S2⟩ := S.new (o := .lst vs) hp
  exact ⟨t, S2, p, vs, rfl, upd_same, r.per (S.per t) _ _, not_F S.hs hp, not_r S.hs hp, hs⟩
theorem post_own {l : List DV} {vs : List V} {p : Addr} {Hs : Hp} {Q : V → Hp → Prop} (q : Post c (rO c Hs) e s W H (Res.ok l h) Q) (S : Sim c W e h s H) (r : Reps c.g W H l vs) (hp : H p = none) (hs : Hs p = none) : Q (.ref p) (upd H p (.lst vs)) := by
  obtain ⟨t, S2, z⟩ := new_own S r hp hs
  exact q _ _ _ t S2 z
end

/-! ### names, constants -/
section
variable {X : Cx} {c : Cn} {pos : Pos}
def eVar (i : Nat) : En → M DV := fun e h => match e[i]? with
  | some (.val d) => .ok d h
  | _ => .bad
/-- a name that is only read -/
def eBor (i : Nat) : En → M DV := fun e h => match e[i]? with
  | some (.val d) => .ok d h
  | some (.own l) => .ok (.lst l) h
  | some (.dic ks l) => .ok (.dct ks l) h
  | _ => .bad
def eC (d : DV) : En → M DV := fun _ h => .ok d h
theorem c_var {i : Nat} {x : Str} (hN : X.N[i]? = some x) (hv : Vis X.env.scope x) (hd : (x == ("__debug__" : Str)) = false := by decide) (hcd : (x == ("__classdict__" : Str)) = false := by decide) : PE X (.Name x pos) (RE c (eVar i)) :=
  pe_imp (pe_var hN hv hd hcd) fun s H Q q => by
    obtain ⟨W, e, h, S, q⟩ := q
    unfold eVar at q
    cases z : e[i]? with
    | none =>
      rw [z] at q
      exact q.elim
    | some u =>
      rw [z] at q
      cases u with
      | val d =>
        obtain ⟨v, e2, r⟩ := S.val i d z
        exact ⟨v, e2, q.ret S r⟩
      | _ => exact q.elim
theorem c_bor {i : Nat} {x : Str} (hN : X.N[i]? = some x) (hv : Vis X.env.scope x) (hd : (x == ("__debug__" : Str)) = false := by decide) (hcd : (x == ("__classdict__" : Str)) = false := by decide) : PE X (.Name x pos) (RB c (eBor i)) :=
  pe_imp (pe_var hN hv hd hcd) fun s H Q q => by
    obtain ⟨W, e, h, S, q⟩ := q
    unfold eBor at q
    cases z : e[i]? with
    | none =>
      rw [z] at q
      exact q.elim
    | some u =>
      rw [z] at q
      cases u with
      | none => exact q.elim
      | exn y => exact q.elim
      | val d =>
        obtain ⟨v, e2, r⟩ := S.val i d z
        exact ⟨v, e2, q.ret S (.inl r)⟩
      | own l =>
        obtain ⟨a, vs, e2, e3, r, _, n, _⟩ := S.own i l z
        exact ⟨_, e2, q.ret S (.inr (.inl ⟨l, a, vs, rfl, rfl, e3, r, n⟩))⟩
      | dic ks l =>
        obtain ⟨a, vs, e2, e3, w, r, _, n, _⟩ := S.dic i ks l z
        exact ⟨_, e2, q.ret S (.inr (.inr ⟨ks, l, a, vs, rfl, rfl, e3, w, r, n⟩))⟩
theorem c_toB {ex : Expr} {m : En → M DV} (h : PE X ex (RE c m)) : PE X ex (RB c m) := pe_imp h fun s H Q q => by
  obtain ⟨W, e, h, S, q⟩ := q
  exact ⟨W, e, h, S, q.imp (fun _ _ _ _ r => .inl r) fun _ _ z => z⟩
theorem const_imp {ex : Expr} {d : DV} {v : V} (h : PE X ex (tC v)) (r : ∀ W H, Rep c.g W H d v) : PE X ex (RE c (eC d)) := pe_imp h fun s H Q q => by
  obtain ⟨W, e, h, S, q⟩ := q
  exact q.ret S (r W H)
theorem c_int {i : Int} {j} : PE X (.Constant (.int i) j pos) (RE c (eC (.int i))) := const_imp pe_int fun _ _ => by simp only [Rep]
theorem c_bl {b : Bool} {j} : PE X (.Constant (.bool b) j pos) (RE c (eC (.bl b))) := const_imp pe_bl fun _ _ => by simp only [Rep]
theorem c_non {j} : PE X (.Constant .none j pos) (RE c (eC .non)) := const_imp pe_non fun _ _ => by simp only [Rep]
theorem c_str {x : Str} {j} : PE X (.Constant (.str x) j pos) (RE c (eC (.str x))) := const_imp pe_str fun _ _ => by simp only [Rep]
/-- a number or a text of the module -/
theorem c_glob {x : Str} {d : DV} (hg : Gl X x) (hm : ∃ u v, X.mg x = some u ∧ RelV v u ∧ ∀ W H, Rep c.g W H d v) (hd : (x == ("__debug__" : Str)) = false := by decide) : PE X (.Name x pos) (RE c (eC d)) := by
  obtain ⟨u, v, e1, r, z⟩ := hm
  exact const_imp (pe_glob hg e1 r hd) z
end

/-! ### two operands -/
abbrev e1 (p : DV → M DV) (a : En → M DV) : En → M DV := fun e => a e >>= fun x => p x
abbrev e2 (p : DV → DV → M DV) (a b : En → M DV) : En → M DV := fun e => a e >>= fun x => b e >>= fun y => p x y
structure Prim2 (c : Cn) (Ra Rb : Wd → Hp → DV → V → Prop) {A : Type} (R : Rl A V) (p : DV → DV → M A) (r : R2) : Prop where
  go : ∀ {W : Wd} {e : En} {h : HP} {s : L2.St} {H : Hp} {Hs : Hp} {x y : DV} {v w : V} {Q : V → Hp → Prop}, Sim c W e h s H → Ra W H x v → Rb W H y w → (∀ a, H a = none → Hs a = none) → Post c (R Hs) e s W H (p x y h) Q → r v w H Q
abbrev pV (c : Cn) : Wd → Hp → DV → V → Prop := fun W H d v => Rep c.g W H d v
abbrev pB (c : Cn) : Wd → Hp → DV → V → Prop := fun W H d v => RepB c.g W H d v
section
variable {X : Cx} {c : Cn} {pos : Pos} {a b : Expr} {ma mb : En → M DV} {Ra Rb : Wd → Hp → DV → V → Prop}
theorem two {A : Type} {R : Rl A V} {p : DV → DV → M A} {r : R2} (st : Stays c Ra) (hp : Prim2 c Ra Rb R p r) {s : L2.St} {H : Hp} {Q : V → Hp → Prop} (q : RX c R (fun e => ma e >>= fun x => mb e >>= fun y => p x y) s H Q) :
    tOp r (RX c (fun _ => Ra) ma) (RX c (fun _ => Rb) mb) s H Q :=
  q.bind fun W e W1 H1 x v h1 t S rx q2 => ⟨W1, e, h1, S, q2.bind fun W2 H2 y w h2 t2 S2 ry q3 => hp.go S2 (st.go S.hs t2 rx) ry (fun a z => t.th a (t2.th a z)) q3⟩
theorem c_bin {A : Type} {R : Rl A V} {op : Operator} {p : DV → DV → M A} {r : R2} (ho : OpR X (binaryOp op) r) (st : Stays c Ra) (hp : Prim2 c Ra Rb R p r) (ha : PE X a (RX c (fun _ => Ra) ma)) (hb : PE X b (RX c (fun _ => Rb) mb)) :
    PE X (.BinOp a op b pos) (RX c R (fun e => ma e >>= fun x => mb e >>= fun y => p x y)) := pe_imp (pe_op ho ha hb) fun s H Q q => two st hp q

def vAdd (x y : DV) : M DV := match x, y with
  | .int i, .int j => pure (.int (i + j))
  | .tup l, .tup m => if l.length + m.length ≤ LN then pure (.tup (l ++ m)) else M.bad
  | .str a, .str b => if a.length + b.length ≤ LN then pure (.str (a ++ b)) else M.bad
  | .lst l, .lst m => if l.length + m.length ≤ LN then pure (.lst (l ++ m)) else M.bad
  | _, _ => M.bad
def vSub (x y : DV) : M DV := match x, y with
  | .int i, .int j => pure (.int (i - j))
  | _, _ => M.bad
def mulOk (i j : Int) : Bool := (decide (-(2 ^ 64) < i) && decide (i < 2 ^ 64)) || (decide (-(2 ^ 64) < j) && decide (j < 2 ^ 64))
def vMul (x y : DV) : M DV := match x, y with
  | .int i, .int j => if mulOk i j then pure (.int (i * j)) else M.bad
  | _, _ => M.bad
def vDiv (x y : DV) : M DV := match x, y with
  | .int i, .int j => if decide (0 < j) && decide (j < 1073741824) then pure (.int (i / j)) else M.bad
  | _, _ => M.bad
def vMod (x y : DV) : M DV := match x, y with
  | .int i, .int j => if 0 < j then pure (.int (i % j)) else M.bad
  | _, _ => M.bad
theorem prim_sub : Prim2 c (pV c) (pV c) (rV c) vSub (rI0 fun i j => .int (i - j)) := by
  refine ⟨fun {W e h s H Hs x y v w Q} S rx ry nw q => ?_⟩
  unfold vSub at q
  split at q
  · simp only [pV, Rep] at rx ry
    exact ⟨_, _, rx, ry, q.ret S (by simp only [rV, Rep])⟩
  · exact q.elim
theorem prim_mul : Prim2 c (pV c) (pV c) (rV c) vMul (rI CMul fun i j => .int (i * j)) := by
  refine ⟨fun {W e h s H Hs x y v w Q} S rx ry nw q => ?_⟩
  unfold vMul at q
  split at q
  · simp only [pV, Rep] at rx ry
    split at q
    · rename_i hz
      refine ⟨_, _, rx, ry, ?_, q.ret S (by simp only [rV, Rep])⟩
      unfold mulOk at hz
      simp only [Bool.or_eq_true, Bool.and_eq_true, decide_eq_true_eq] at hz
      exact hz
    · exact q.elim
  · exact q.elim
theorem prim_div : Prim2 c (pV c) (pV c) (rV c) vDiv (rI CDiv fun i j => .int (i / j)) := by
  refine ⟨fun {W e h s H Hs x y v w Q} S rx ry nw q => ?_⟩
  unfold vDiv at q
  split at q
  · simp only [pV, Rep] at rx ry
    split at q
    · rename_i hz
      simp only [Bool.and_eq_true, decide_eq_true_eq] at hz
      exact ⟨_, _, rx, ry, hz, q.ret S (by simp only [rV, Rep])⟩
    · exact q.elim
  · exact q.elim
theorem prim_mod : Prim2 c (pV c) (pV c) (rV c) vMod (rI (fun _ j => 0 < j) fun i j => .int (i % j)) := by
  refine ⟨fun {W e h s H Hs x y v w Q} S rx ry nw q => ?_⟩
  unfold vMod at q
  split at q
  · simp only [pV, Rep] at rx ry
    split at q
    · rename_i hz
      exact ⟨_, _, rx, ry, hz, q.ret S (by simp only [rV, Rep])⟩
    · exact q.elim
  · exact q.elim
theorem c_sub (ha : PE X a (RE c ma)) (hb : PE X b (RE c mb)) : PE X (.BinOp a .Sub b pos) (RE c (e2 vSub ma mb)) := c_bin op_sub stays_V prim_sub ha hb
theorem c_mul (ha : PE X a (RE c ma)) (hb : PE X b (RE c mb)) : PE X (.BinOp a .Mult b pos) (RE c (e2 vMul ma mb)) := c_bin op_mul stays_V prim_mul ha hb
theorem c_div (ha : PE X a (RE c ma)) (hb : PE X b (RE c mb)) : PE X (.BinOp a .FloorDiv b pos) (RE c (e2 vDiv ma mb)) := c_bin op_fdiv stays_V prim_div ha hb
theorem c_mod (ha : PE X a (RE c ma)) (hb : PE X b (RE c mb)) : PE X (.BinOp a .Mod b pos) (RE c (e2 vMod ma mb)) := c_bin op_mod stays_V prim_mod ha hb
def vNeg (x : DV) : M DV := match x with
  | .int i => pure (.int (-i))
  | _ => M.bad
theorem c_neg (ha : PE X a (RE c ma)) : PE X (.UnaryOp .USub a pos) (RE c (e1 vNeg ma)) := pe_imp (pe_un un_neg ha) fun s H Q q =>
  q.bind fun W e W1 H1 x v h1 t S rx q2 => by
    unfold vNeg at q2
    split at q2
    · simp only [Rep] at rx
      exact ⟨_, rx, q2.ret S (by simp only [rV, Rep])⟩
    · exact q2.elim

/-! ### comparisons -/
def vLt (x y : DV) : M DV := match x, y with
  | .int i, .int j => pure (.bl (decide (i < j)))
  | _, _ => M.bad
def vLe (x y : DV) : M DV := match x, y with
  | .int i, .int j => pure (.bl (decide (i ≤ j)))
  | _, _ => M.bad
def vGt (x y : DV) : M DV := match x, y with
  | .int i, .int j => pure (.bl (decide (j < i)))
  | _, _ => M.bad
def vGe (x y : DV) : M DV := match x, y with
  | .int i, .int j => pure (.bl (decide (j ≤ i)))
  | _, _ => M.bad
theorem prim_lt : Prim2 c (pV c) (pV c) (rV c) vLt (rI0 fun i j => .bl (decide (i < j))) := by
  refine ⟨fun {W e h s H Hs x y v w Q} S rx ry nw q => ?_⟩
  unfold vLt at q
  split at q
  · simp only [pV, Rep] at rx ry
    exact ⟨_, _, rx, ry, q.ret S (by simp only [rV, Rep])⟩
  · exact q.elim
theorem prim_le : Prim2 c (pV c) (pV c) (rV c) vLe (rI0 fun i j => .bl (decide (i ≤ j))) := by
  refine ⟨fun {W e h s H Hs x y v w Q} S rx ry nw q => ?_⟩
  unfold vLe at q
  split at q
  · simp only [pV, Rep] at rx ry
    exact ⟨_, _, rx, ry, q.ret S (by simp only [rV, Rep])⟩
  · exact q.elim
theorem prim_gt : Prim2 c (pV c) (pV c) (rV c) vGt (rI0 fun i j => .bl (decide (j < i))) := by
  refine ⟨fun {W e h s H Hs x y v w Q} S rx ry nw q => ?_⟩
  unfold vGt at q
  split at q
  · simp only [pV, Rep] at rx ry
    exact ⟨_, _, rx, ry, q.ret S (by simp only [rV, Rep])⟩
  · exact q.elim
theorem prim_ge : Prim2 c (pV c) (pV c) (rV c) vGe (rI0 fun i j => .bl (decide (j ≤ i))) := by
  refine ⟨fun {W e h s H Hs x y v w Q} S rx ry nw q => ?_⟩
  unfold vGe at q
  split at q
  · simp only [pV, Rep] at rx ry
    exact ⟨_, _, rx, ry, q.ret S (by simp only [rV, Rep])⟩
  · exact q.elim
theorem c_cmp {op : CmpOp} {p : DV → DV → M DV} {r : R2} (ho : OpR X (compareOp op) r) (st : Stays c Ra) (hp : Prim2 c Ra Rb (rV c) p r) (ha : PE X a (RX c (fun _ => Ra) ma)) (hb : PE X b (RX c (fun _ => Rb) mb)) (hm : behindInMarks op b = false) :
    PE X (.Compare a [op] [b] pos) (RE c (e2 p ma mb)) := pe_imp (pe_cmpR ho ha hb hm) fun s H Q q => two st hp q
theorem c_lt (ha : PE X a (RE c ma)) (hb : PE X b (RE c mb)) : PE X (.Compare a [.Lt] [b] pos) (RE c (e2 vLt ma mb)) := c_cmp op_lt stays_V prim_lt ha hb (nomark _)
theorem c_le (ha : PE X a (RE c ma)) (hb : PE X b (RE c mb)) : PE X (.Compare a [.LtE] [b] pos) (RE c (e2 vLe ma mb)) := c_cmp op_le stays_V prim_le ha hb (nomark _)
theorem c_gt (ha : PE X a (RE c ma)) (hb : PE X b (RE c mb)) : PE X (.Compare a [.Gt] [b] pos) (RE c (e2 vGt ma mb)) := c_cmp op_gt stays_V prim_gt ha hb (nomark _)
theorem c_ge (ha : PE X a (RE c ma)) (hb : PE X b (RE c mb)) : PE X (.Compare a [.GtE] [b] pos) (RE c (e2 vGe ma mb)) := c_cmp op_ge stays_V prim_ge ha hb (nomark _)
/-- a < b < z: z is asked only where a < b -/
def e3c (p r : DV → DV → M DV) (a b z : En → M DV) : En → M DV := fun e => a e >>= fun x => b e >>= fun y => p x y >>= fun t => match t with
  | .bl true => z e >>= fun u => r y u
  | .bl false => pure (.bl false)
  | _ => M.bad
theorem chain_use {p p' : DV → DV → M DV} {r r' : R2} {mz : En → M DV} (hp : Prim2 c (pV c) (pV c) (rV c) p r) (hp' : Prim2 c (pV c) (pV c) (rV c) p' r') {s : L2.St} {H : Hp} {Q : VK} (q : RE c (e3c p p' ma mb mz) s H Q) :
    tChain r r' (RE c ma) (RE c mb) (RE c mz) s H Q := by
  refine RX.bind q fun W e W1 H1 x v h1 t S rx q2 => ⟨W1, e, h1, S, q2.bind fun W2 H2 y w h2 t2 S2 ry q3 => ?_⟩
  have rx2 := stays_V.go S.hs t2 rx
  refine hp.go S2 rx2 ry (fun a z => t.th a (t2.th a z)) (q3.bind fun W3 H3 tt u h3 t3 S3 rt q4 => ?_)
  split at q4
  · simp only [Rep] at rt
    refine ⟨true, rt, iteT ⟨W3, e, h3, S3, q4.bind fun W4 H4 z1 v4 h4 t4 S4 r4 q5 => ?_⟩⟩
    exact hp'.go S4 (stays_V.go S3.hs t4 (stays_V.go S2.hs t3 ry)) r4 (fun a z => t.th a (t2.th a (t3.th a (t4.th a z)))) q5
  · simp only [Rep] at rt
    exact ⟨false, rt, iteF (q4.ret S3 (by simp only [rV, Rep]))⟩
  · exact q4.elim
theorem c_chain {op op' : CmpOp} {p p' : DV → DV → M DV} {r r' : R2} {z : Expr} {mz : En → M DV} (ho : OpR X (compareOp op) r) (ho' : OpR X (compareOp op') r') (hp : Prim2 c (pV c) (pV c) (rV c) p r) (hp' : Prim2 c (pV c) (pV c) (rV c) p' r')
    (ha : PE X a (RE c ma)) (hb : PE X b (RE c mb)) (hz : PE X z (RE c mz)) (hm : lastMarks [op, op'] [b, z] = false) :
    PE X (.Compare a [op, op'] [b, z] pos) (RE c (e3c p p' ma mb mz)) := pe_imp (pe_chain ho ho' ha hb hz hm) fun s H Q q => chain_use hp hp' q
theorem c_lelt {z : Expr} {mz : En → M DV} (ha : PE X a (RE c ma)) (hb : PE X b (RE c mb)) (hz : PE X z (RE c mz)) : PE X (.Compare a [.LtE, .Lt] [b, z] pos) (RE c (e3c vLe vLt ma mb mz)) := c_chain op_le op_lt prim_le prim_lt ha hb hz (nomark z)
theorem c_lele {z : Expr} {mz : En → M DV} (ha : PE X a (RE c ma)) (hb : PE X b (RE c mb)) (hz : PE X z (RE c mz)) : PE X (.Compare a [.LtE, .LtE] [b, z] pos) (RE c (e3c vLe vLe ma mb mz)) := c_chain op_le op_le prim_le prim_le ha hb hz (nomark z)
theorem c_ltlt {z : Expr} {mz : En → M DV} (ha : PE X a (RE c ma)) (hb : PE X b (RE c mb)) (hz : PE X z (RE c mz)) : PE X (.Compare a [.Lt, .Lt] [b, z] pos) (RE c (e3c vLt vLt ma mb mz)) := c_chain op_lt op_lt prim_lt prim_lt ha hb hz (nomark z)
end
end LM

/-! Expressions: lists, places, equality, tests, calls. -/
namespace LM
open PySem L2

/-! ### argument lists, displays -/
section
variable {X : Cx} {c : Cn} {pos : Pos} {ex : Expr} {es : List Expr} {n : Nat}
def aNil : En → M (List DV) := fun _ => pure []
def aCons (m : En → M DV) (ms : En → M (List DV)) : En → M (List DV) := fun e => m e >>= fun x => ms e >>= fun xs => pure (x :: xs)
theorem c_nil : PA X [] (RA c 0 aNil) := pa_imp pa_nil fun s H Q q => by
  obtain ⟨W, e, h, S, q⟩ := q
  exact q.ret S ⟨.nil, rfl⟩
theorem c_cons {m : En → M DV} {ms : En → M (List DV)} (ha : PE X ex (RE c m)) (hr : PA X es (RA c n ms)) (hs : starEach (ex :: es) X.env = (false, eval ex X.env) :: starEach es X.env := by rfl) : PA X (ex :: es) (RA c (n + 1) (aCons m ms)) :=
  pa_imp (pa_cons ha hr hs) fun s H Q q => RX.bind q fun W e W1 H1 x v h1 t S rx q2 => ⟨W1, e, h1, S, q2.bind fun W2 H2 xs vs h2 t2 S2 rs q3 => by
    have r1 := stays_V.go S.hs t2 rx
    exact q3.ret S2 ⟨.cons r1 rs.1, by rw [List.length_cons, rs.2]⟩⟩
def eTup (ms : En → M (List DV)) : En → M DV := fun e => ms e >>= fun l => pure (.tup l)
theorem c_tup {k} {ms : En → M (List DV)} (h : PA X es (RA c n ms)) (hn : n ≤ LN := by decide) : PE X (.Tuple es k pos) (RE c (eTup ms)) :=
  pe_imp (pe_tup h) fun s H Q q => RX.bind q fun W e W1 H1 l vs h1 t S r q2 => ⟨by rw [← r.1.len, r.2, line_LN]; exact hn, fun p hp => post_tup q2 S r.1 hp⟩
theorem c_lst {ms : En → M (List DV)} (h : PA X es (RA c n ms)) (hn : n ≤ LN := by decide) : PE X (.List es pos) (RO c ms) :=
  pe_imp (pe_lst h) fun s H Q q => by
    obtain ⟨W, e, h, S0, q⟩ := q
    refine ⟨W, e, h, S0, ?_⟩
    cases z : ms e h with
    | ok l h1 =>
      rw [z] at q
      intro W1 H1 vs t S r
      refine ⟨by rw [← r.1.len, r.2, line_LN]; exact hn, fun p hp => ?_⟩
      obtain ⟨t2, S2, o⟩ := new_own S r.1 hp (t.th p hp)
      exact q _ _ _ (t.trans t2) S2 o
    | exc x h1 =>
      rw [z] at q
      exact q
    | bad =>
      rw [z] at q
      exact q
def eFrz (ms : En → M (List DV)) : En → M DV := fun e => ms e >>= fun l => pure (.lst l)
theorem frz_own {W W1 : Wd} {e : En} {h : HP} {s : L2.St} {H H1 : Hp} {l : List DV} {v : V} (t : Step W H W1 H1) (S : Sim c W1 e h s H1) (o : rO c H W1 H1 l v) (S0 : Sim c W e h s H ∨ ∃ h0, Sim c W e h0 s H) :
    ∃ W2, Step W H W2 H1 ∧ Sim c W2 e h s H1 ∧ Rep c.g W2 H1 (.lst l) v := by
  obtain ⟨a, vs, e1, e2, r, n1, n2, n3⟩ := o
  have t2 : Step W H (W1.frz a) H1 := t.frz n3
  have hs : HSim c.g (W1.frz a) h H1 := S.hs.frz e2 n2
  have pr : Per W1 H1 (W1.frz a) H1 := ⟨fun _ f => .inl f, fun _ _ e => e, fun _ _ => rfl, fun _ _ e => e, fun _ _ _ e => e⟩
  refine ⟨W1.frz a, t2, ?_, ?_⟩
  · rcases S0 with S0 | ⟨h0, S0⟩
    · exact S0.step t2 hs
    · exact S0.step t2 hs
  · simp only [Rep]
    exact ⟨a, vs, e1, .inr rfl, e2, r.per pr _ _⟩
theorem c_frz {ms : En → M (List DV)} (h : PE X ex (RO c ms)) : PE X ex (RE c (eFrz ms)) := pe_imp h fun s H Q q => by
  obtain ⟨W, e, h, S0, q⟩ := q
  refine ⟨W, e, h, S0, ?_⟩
  unfold eFrz at q
  rw [M.bind_def] at q
  cases z : ms e h with
  | ok l h1 =>
    rw [z] at q
    intro W1 H1 v t S o
    obtain ⟨W2, t2, S2, r2⟩ := frz_own t S o (.inr ⟨h, S0⟩)
    exact q _ _ _ t2 S2 r2
  | exc x h1 =>
    rw [z] at q
    exact q
  | bad =>
    rw [z] at q
    exact q
theorem post_frz {W : Wd} {e : En} {h : HP} {s : L2.St} {H Hs : Hp} {l : List DV} {vs : List V} {p : Addr} {Q : V → Hp → Prop} (q : Post c (rV c Hs) e s W H (Res.ok (DV.lst l) h) Q) (S : Sim c W e h s H) (r : Reps c.g W H l vs) (hp : H p = none) : Q (.ref p) (upd H p (.lst vs)) := by
  obtain ⟨t2, S2, o⟩ := new_own S r hp hp
  obtain ⟨W3, t3, S3, r3⟩ := frz_own t2 S2 o (.inl S)
  exact q _ _ _ t3 S3 r3
end

/-! ### what can be read as a list, as a tuple -/
def asL (h : HP) : DV → Option (List DV)
  | .lst l => some l
  | .scr l => some (l.map .int)
  | .ref p => match h[p]? with
    | some (.lst l) => some l
    | _ => none
  | _ => none
theorem reps_ints {g : Glue} {W : Wd} {H : Hp} : ∀ l : List Int, Reps g W H (l.map DV.int) (l.map V.int)
  | [] => .nil
  | x :: r => .cons (by simp only [Rep]) (reps_ints r)
theorem asL_ok {c : Cn} {W : Wd} {e : En} {h : HP} {s : L2.St} {H : Hp} {d : DV} {v : V} {l : List DV} (S : Sim c W e h s H) (r : RepB c.g W H d v) (a : asL h d = some l) : ∃ p vs, v = .ref p ∧ SqL c.g.K H p vs ∧ Reps c.g W H l vs := by
  cases d with
  | lst m =>
    have e1 : m = l := Option.some.inj a
    subst e1
    rcases r with r | ⟨l2, p, vs, e1, e2, e3, r, n⟩ | ⟨_, _, _, _, e1, _⟩
    · simp only [Rep] at r
      obtain ⟨p, vs, e1, _, e3, r⟩ := r
      exact ⟨p, vs, e1, .of e3, r⟩
    · cases e1
      exact ⟨p, vs, e2, .of e3, r⟩
    · cases e1
  | scr m =>
    have e1 : m.map DV.int = l := Option.some.inj a
    subst e1
    rcases r with r | ⟨l2, p, vs, e1, _⟩ | ⟨_, _, _, _, e1, _⟩
    · simp only [Rep] at r
      obtain ⟨p, e1, r⟩ := r
      exact ⟨p, _, e1, r.l, reps_ints m⟩
    · cases e1
    · cases e1
  | ref q =>
    rcases r with r | ⟨l2, p, vs, e1, _⟩ | ⟨_, _, _, _, e1, _⟩
    · simp only [Rep] at r
      obtain ⟨p, e1, r⟩ := r
      have a2 : (match h[q]? with
        | some (.lst l) => some l
        | _ => none) = some l := a
      cases z : h[q]? with
      | none =>
        rw [z] at a2
        cases a2
      | some o =>
        rw [z] at a2
        cases o with
        | lst m =>
          have e2 : m = l := Option.some.inj a2
          subst e2
          obtain ⟨⟨vs, e3, r3⟩, _⟩ := S.hs.o q _ p z r
          exact ⟨p, vs, e1, .of e3, r3⟩
        | obj c l => cases a2
    · cases e1
    · cases e1
  | _ => cases a
theorem tup_ok {c : Cn} {W : Wd} {H : Hp} {v : V} {l : List DV} (r : RepB c.g W H (.tup l) v) : ∃ p vs, v = .ref p ∧ SqT c.g.K H p vs ∧ Reps c.g W H l vs := by
  rcases r with r | ⟨l2, p, vs, e1, _⟩ | ⟨_, _, _, _, e1, _⟩
  · simp only [Rep] at r
    exact r
  · cases e1
  · cases e1
theorem str_ok {c : Cn} {W : Wd} {H : Hp} {v : V} {x : Str} (r : RepB c.g W H (.str x) v) : v = .str x := by
  rcases r with r | ⟨l2, p, vs, e1, _⟩ | ⟨_, _, _, _, e1, _⟩
  · simpa only [Rep] using r
  · cases e1
  · cases e1
theorem reps_at {g : Glue} {W : Wd} {H : Hp} {l : List DV} {vs : List V} {i : Int} {d : DV} (r : Reps g W H l vs) (a : atI l i = some d) : ∃ v, atI vs i = some v ∧ Rep g W H d v := by
  unfold atI at a ⊢
  rw [← r.len]
  cases z : ixN l.length i with
  | none =>
    rw [z] at a
    cases a
  | some j =>
    rw [z] at a
    exact r.get a

/-! ### a[i] -/
def getI (l : List DV) (i : Int) : M DV := match atI l i with
  | some d => pure d
  | none => M.bad
def vIdx (x y : DV) : M DV := fun h => match y with
  | .int i => (match x with
    | .tup l => getI l i h
    | .str z => if z.length ≤ LN then (match atI z.cps.toList i with
      | some c => .ok (.str ⟨#[c]⟩) h
      | none => .bad) else .bad
    | _ => (match asL h x with
      | some l => getI l i h
      | none => .bad))
  | _ => .bad
section
variable {X : Cx} {c : Cn} {pos : Pos} {a b : Expr} {ma mb : En → M DV}
theorem getI_post {W : Wd} {e : En} {h : HP} {s : L2.St} {H Hs : Hp} {l : List DV} {vs : List V} {i : Int} {Q : V → Hp → Prop} (S : Sim c W e h s H) (r : Reps c.g W H l vs) (q : Post c (rV c Hs) e s W H (getI l i h) Q) : ∃ v, atI vs i = some v ∧ Q v H := by
  unfold getI at q
  cases z : atI l i with
  | none =>
    rw [z] at q
    exact q.elim
  | some d =>
    rw [z] at q
    obtain ⟨v, e1, r1⟩ := reps_at r z
    exact ⟨v, e1, q.ret S r1⟩
theorem prim_idx {K : PySem.W.Frag} (hk : c.g.K = K) : Prim2 c (pB c) (pV c) (rV c) vIdx (rIx K) := by
  subst hk
  refine ⟨fun {W e h s H Hs x y v w Q} S rx ry nw q => ?_⟩
  cases y with
  | int i =>
    simp only [pV, Rep] at ry
    have fin : ∀ l, asL h x = some l → Post c (rV c Hs) e s W H (getI l i h) Q → rIx c.g.K v w H Q := fun l hl q => by
      obtain ⟨p, vs, e1, sq, r⟩ := asL_ok S rx hl
      obtain ⟨u, e2, q2⟩ := getI_post S r q
      exact .inl ⟨p, vs, i, u, e1, ry, sq, e2, q2⟩
    have fin2 : Post c (rV c Hs) e s W H (match asL h x with
      | some l => getI l i h
      | none => .bad) Q → rIx c.g.K v w H Q := fun q => by
      cases z : asL h x with
      | none =>
        rw [z] at q
        exact q.elim
      | some l =>
        rw [z] at q
        exact fin l z q
    cases x with
    | tup l =>
      obtain ⟨p, vs, e1, sq, r⟩ := tup_ok rx
      obtain ⟨u, e2, q2⟩ := getI_post S r q
      exact .inr (.inl ⟨p, vs, i, u, e1, ry, sq, e2, q2⟩)
    | str z =>
      have ez := str_ok rx
      have q1 : Post c (rV c Hs) e s W H (if z.length ≤ LN then (match atI z.cps.toList i with
        | some c => .ok (.str ⟨#[c]⟩) h
        | none => .bad) else .bad) Q := q
      split at q1
      · rename_i hz
        cases e2 : atI z.cps.toList i with
        | none =>
          rw [e2] at q1
          exact q1.elim
        | some k =>
          rw [e2] at q1
          exact .inr (.inr ⟨z, i, k, ez, ry, by rw [line_LN]; exact hz, e2, q1.ret S (by simp only [rV, Rep])⟩)
      · exact q1.elim
    | _ => exact fin2 q
  | _ => exact q.elim
theorem c_idx (hk : X.K = c.g.K) (ha : PE X a (RB c ma)) (hb : PE X b (RE c mb)) (hs : PlainIx b := by intro _ _; rfl) : PE X (.Subscript a b pos) (RE c (e2 vIdx ma mb)) :=
  pe_imp (pe_ix ix_seq ha hb hs) fun s H Q q => two stays_B (prim_idx hk.symm) q

/-! ### a[lo:hi] -/
def sx (n d : Nat) : Option Int → Nat
  | none => d
  | some v => if v < 0 then (v + n).toNat else min v.toNat n
theorem sx_eq (n d : Nat) (o : Option Int) : HT.sIx n d o = sx n d o := by
  cases o with
  | none => rfl
  | some v =>
    have q := HT.clip_eq v n d
    show HT.sIx n d (some v) = if v < 0 then (v + n).toNat else min v.toNat n
    by_cases hv : v < 0
    · rw [if_pos hv] at q ⊢
      omega
    · rw [if_neg hv] at q ⊢
      omega
def cutD {A : Type} (l : List A) (lo hi : Option Int) : List A := (l.drop (sx l.length 0 lo)).take (sx l.length l.length hi - sx l.length 0 lo)
theorem cutV_eq (l : List V) (lo hi : Option Int) : cutV l lo hi = cutD l lo hi := by
  unfold cutV cutD
  rw [sx_eq, sx_eq]
theorem reps_cut {g : Glue} {W : Wd} {H : Hp} {l : List DV} {vs : List V} (lo hi : Option Int) (r : Reps g W H l vs) : Reps g W H (cutD l lo hi) (cutD vs lo hi) := by
  unfold cutD
  rw [← r.len]
  exact (r.drop _).take _
def vCut (x : DV) (lo hi : Option Int) : M DV := fun h => match x with
  | .tup l => .ok (.tup (cutD l lo hi)) h
  | _ => (match asL h x with
    | some l => .ok (.lst (cutD l lo hi)) h
    | none => .bad)
def oNone : En → M (Option Int) := fun _ => pure none
def oSome (m : En → M DV) : En → M (Option Int) := fun e => m e >>= fun x => match x with
  | .int i => pure (some i)
  | _ => M.bad
def eCut (m : En → M DV) (lo hi : En → M (Option Int)) : En → M DV := fun e => m e >>= fun x => lo e >>= fun l => hi e >>= fun u => vCut x l u
def rOI : Rl (Option Int) (Option Int) := fun _ _ _ d o => o = d
abbrev RP (c : Cn) (m : En → M (Option Int)) : TO := RX c rOI m
theorem c_pn : PO X none (RP c oNone) := ⟨fun pins s σ H Q I q => po_none.run pins s σ H Q I (by
  obtain ⟨W, e, h, S, q⟩ := q
  exact q.ret S rfl)⟩
theorem c_ps {ex : Expr} {m : En → M DV} (h : PE X ex (RE c m)) : PO X (some ex) (RP c (oSome m)) := ⟨fun pins s σ H Q I q => (po_some h).run pins s σ H Q I (RX.bind q fun W e W1 H1 x v h1 t S r q2 => by
  split at q2
  · simp only [Rep] at r
    exact ⟨_, r, q2.ret S rfl⟩
  · exact q2.elim)⟩
def rSlQ (K : PySem.W.Frag) : V → Option Int → Option Int → Hp → VK → Prop := fun x lo hi H Q => rSlA K x lo hi H Q ∨ rSlL K x lo hi H Q
theorem sl_Q : SlR X (rSlQ X.K) := sl_tupA.or sl_list
theorem cut_whole {A : Type} {l : List A} {lo hi : Option Int} (h : sx l.length 0 lo = 0 ∧ sx l.length l.length hi = l.length) : cutD l lo hi = l := by
  unfold cutD
  rw [h.1, h.2, List.drop_zero, Nat.sub_zero, List.take_length]
theorem c_cut (hk : X.K = c.g.K) {ex : Expr} {m : En → M DV} {lo hi : Option Expr} {ml mh : En → M (Option Int)} {p2} (he : PE X ex (RB c m)) (hl : PO X lo (RP c ml)) (hu : PO X hi (RP c mh)) :
    PE X (.Subscript ex (.Slice lo hi none p2) pos) (RE c (eCut m ml mh)) := pe_imp (pe_slice sl_Q he hl hu) fun s H Q q => by
  refine RX.bind q fun W e W1 H1 x v h1 t S rx q2 => ⟨W1, e, h1, S, q2.bind fun W2 H2 lo l2 h2 t2 S2 rl q3 => ⟨W2, e, h2, S2, q3.bind fun W3 H3 hi u3 h3 t3 S3 ru q4 => ?_⟩⟩
  have rx3 := stays_B.go S2.hs t3 (stays_B.go S.hs t2 rx)
  have e1 : l2 = lo := rl
  have e2 : u3 = hi := ru
  subst e1 e2
  have fin2 : Post c (rV c H) e s W3 H3 (match asL h3 x with
      | some l => .ok (.lst (cutD l l2 u3)) h3
      | none => .bad) Q → rSlQ X.K v l2 u3 H3 Q := fun q => by
    cases z : asL h3 x with
    | none =>
      rw [z] at q
      exact q.elim
    | some l =>
      rw [z] at q
      obtain ⟨p, vs, e1, sq, r⟩ := asL_ok S3 rx3 z
      refine .inr ⟨p, vs, e1, hk ▸ sq, fun d hd => ?_⟩
      rw [cutV_eq]
      exact post_frz q S3 (reps_cut _ _ r) hd
  cases x with
  | tup l =>
    obtain ⟨p, vs, e1, sq, r⟩ := tup_ok rx3
    refine .inl ⟨p, vs, e1, hk ▸ sq, fun w => ?_, fun _ d hd => ?_⟩
    · rw [sx_eq, sx_eq] at w
      have w2 : sx l.length 0 l2 = 0 ∧ sx l.length l.length u3 = l.length := by
        rw [r.len]
        exact w
      rw [e1] at rx3
      refine q4.ret S3 ?_
      simp only [rV, Rep]
      rw [cut_whole w2]
      exact ⟨p, vs, rfl, sq, r⟩
    · rw [cutV_eq]
      exact post_tup q4 S3 (reps_cut _ _ r) hd
  | _ => exact fin2 q4
end
end LM

/-! Equality, tests, built-ins. -/
namespace LM
open PySem L2

/-! ### equality -/
mutual
def toPD : DV → Option PyData
  | .non => some .none
  | .bl b => some (.bool b)
  | .int i => some (.int i)
  | .str s => some (.str s)
  | .tup l => (match toPDs l with
    | some r => some (.tuple r)
    | none => none)
  | .lst l => (match toPDs l with
    | some r => some (.list r)
    | none => none)
  | .scr l => some (.list (l.map .int))
  | _ => none
def toPDs : List DV → Option (List PyData)
  | [] => some []
  | d :: ds => (match toPD d, toPDs ds with
    | some x, some r => some (x :: r)
    | _, _ => none)
end
theorem dpAll_ints {K : PySem.W.Frag} {H : Hp} : ∀ l : List Int, DpAll K H (l.map V.int) (l.map PyData.int)
  | [] => .nil
  | x :: r => .cons (.int x) (dpAll_ints r)
mutual
theorem dp_of {g : Glue} {W : Wd} {H : Hp} : ∀ (d : DV) (v : V) (p : PyData), Rep g W H d v → toPD d = some p → Dp g.K H v p
  | .non, v, p, r, e => by
    simp only [Rep] at r
    simp only [toPD, Option.some.injEq] at e
    subst r e
    exact .non
  | .bl b, v, p, r, e => by
    simp only [Rep] at r
    simp only [toPD, Option.some.injEq] at e
    subst r e
    exact .bl b
  | .int i, v, p, r, e => by
    simp only [Rep] at r
    simp only [toPD, Option.some.injEq] at e
    subst r e
    exact .int i
  | .str s, v, p, r, e => by
    simp only [Rep] at r
    simp only [toPD, Option.some.injEq] at e
    subst r e
    exact .str s
  | .tup l, v, p, r, e => by
    simp only [Rep] at r
    obtain ⟨a, vs, e1, sq, rs⟩ := r
    simp only [toPD] at e
    cases z : toPDs l with
    | none =>
      rw [z] at e
      cases e
    | some ps =>
      rw [z] at e
      cases e
      subst e1
      exact .tup sq (dps_of l vs ps rs z)
  | .lst l, v, p, r, e => by
    simp only [Rep] at r
    obtain ⟨a, vs, e1, _, sq, rs⟩ := r
    simp only [toPD] at e
    cases z : toPDs l with
    | none =>
      rw [z] at e
      cases e
    | some ps =>
      rw [z] at e
      cases e
      subst e1
      exact .lst (.of sq) (dps_of l vs ps rs z)
  | .scr l, v, p, r, e => by
    simp only [Rep] at r
    obtain ⟨a, e1, sq⟩ := r
    simp only [toPD, Option.some.injEq] at e
    subst e1 e
    exact .lst sq.l (dpAll_ints l)
  | .dct _ _, v, p, r, e => by simp only [toPD] at e; cases e
  | .obj _ _, v, p, r, e => by simp only [toPD] at e; cases e
  | .fn _, v, p, r, e => by simp only [toPD] at e; cases e
  | .ref _, v, p, r, e => by simp only [toPD] at e; cases e
theorem dps_of {g : Glue} {W : Wd} {H : Hp} : ∀ (l : List DV) (vs : List V) (ps : List PyData), Reps g W H l vs → toPDs l = some ps → DpAll g.K H vs ps
  | [], vs, ps, r, e => by
    simp only [Reps] at r
    simp only [toPDs, Option.some.injEq] at e
    subst r e
    exact .nil
  | d :: ds, vs, ps, r, e => by
    simp only [Reps] at r
    obtain ⟨v, r2, e1, h1, h2⟩ := r
    simp only [toPDs] at e
    cases z : toPD d with
    | none =>
      rw [z] at e
      cases e
    | some p =>
      cases z2 : toPDs ds with
      | none =>
        rw [z, z2] at e
        cases e
      | some q =>
        rw [z, z2] at e
        cases e
        subst e1
        exact .cons (dp_of d v p h1 z) (dps_of ds r2 q h2 z2)
end
theorem dpB_of {g : Glue} {W : Wd} {H : Hp} {d : DV} {v : V} {p : PyData} (r : RepB g W H d v) (e : toPD d = some p) : Dp g.K H v p := by
  rcases r with r | ⟨l, a, vs, e1, e2, e3, r, n⟩ | ⟨ks, l, a, vs, e1, e2, e3, z, r, n⟩
  · exact dp_of d v p r e
  · subst e1 e2
    simp only [toPD] at e
    cases z : toPDs l with
    | none =>
      rw [z] at e
      cases e
    | some ps =>
      rw [z] at e
      cases e
      exact .lst (.of e3) (dps_of l vs ps r z)
  · subst e1
    simp only [toPD] at e
    cases e
def eqD (x y : DV) : Option Bool := match toPD x, toPD y with
  | some d, some e => if SeqAt.shaped d && SeqAt.shaped e then some (PyData.eqv d e) else none
  | _, _ => none
def vEq (x y : DV) : M DV := match eqD x y with
  | some b => pure (.bl b)
  | none => M.bad
def vNe (x y : DV) : M DV := match eqD x y with
  | some b => pure (.bl (!b))
  | none => M.bad
theorem eqD_ok {x y : DV} {b : Bool} (h : eqD x y = some b) : ∃ d e, toPD x = some d ∧ toPD y = some e ∧ SeqAt.shaped d = true ∧ SeqAt.shaped e = true ∧ b = PyData.eqv d e := by
  unfold eqD at h
  cases z : toPD x with
  | none =>
    rw [z] at h
    cases h
  | some d =>
    cases z2 : toPD y with
    | none =>
      rw [z, z2] at h
      cases h
    | some e =>
      rw [z, z2] at h
      have h2 : (if SeqAt.shaped d && SeqAt.shaped e then some (PyData.eqv d e) else none) = some b := h
      split at h2
      · rename_i q
        simp only [Bool.and_eq_true] at q
        exact ⟨d, e, rfl, rfl, q.1, q.2, (Option.some.inj h2).symm⟩
      · cases h2
section
variable {X : Cx} {c : Cn} {pos : Pos} {a b : Expr} {ma mb : En → M DV}
theorem prim_eq {K : PySem.W.Frag} (hk : c.g.K = K) : Prim2 c (pB c) (pB c) (rV c) vEq (rEqD K) := by
  subst hk
  refine ⟨fun {W e h s H Hs x y v w Q} S rx ry nw q => ?_⟩
  unfold vEq at q
  cases z : eqD x y with
  | none =>
    rw [z] at q
    exact q.elim
  | some b =>
    rw [z] at q
    obtain ⟨d, f, h1, h2, h3, h4, h5⟩ := eqD_ok z
    exact ⟨d, f, dpB_of rx h1, dpB_of ry h2, h3, h4, by rw [← h5]; exact q.ret S (by simp only [rV, Rep])⟩
theorem prim_ne {K : PySem.W.Frag} (hk : c.g.K = K) : Prim2 c (pB c) (pB c) (rV c) vNe (rNeD K) := by
  subst hk
  refine ⟨fun {W e h s H Hs x y v w Q} S rx ry nw q => ?_⟩
  unfold vNe at q
  cases z : eqD x y with
  | none =>
    rw [z] at q
    exact q.elim
  | some b =>
    rw [z] at q
    obtain ⟨d, f, h1, h2, h3, h4, h5⟩ := eqD_ok z
    exact ⟨d, f, dpB_of rx h1, dpB_of ry h2, h3, h4, by rw [← h5]; exact q.ret S (by simp only [rV, Rep])⟩
theorem c_eq (hk : X.K = c.g.K) (hu : X.A.units + 64 < cLine) (ha : PE X a (RB c ma)) (hb : PE X b (RB c mb)) : PE X (.Compare a [.Eq] [b] pos) (RE c (e2 vEq ma mb)) := c_cmp (op_eqD hu) stays_B (prim_eq hk.symm) ha hb (nomark _)
theorem c_ne (hk : X.K = c.g.K) (hu : X.A.units + 64 < cLine) (ha : PE X a (RB c ma)) (hb : PE X b (RB c mb)) : PE X (.Compare a [.NotEq] [b] pos) (RE c (e2 vNe ma mb)) := c_cmp (op_neD hu) stays_B (prim_ne hk.symm) ha hb (nomark _)

/-! ### is None -/
def isNon : DV → Bool
  | .non => true
  | _ => false
def vIsN (x : DV) : M DV := pure (.bl (isNon x))
def vNotN (x : DV) : M DV := pure (.bl (!isNon x))
theorem non_iff {g : Glue} {W : Wd} {H : Hp} {d : DV} {v : V} (r : RepB g W H d v) : decide (v = .non) = isNon d := by
  have key : ∀ d v, Rep g W H d v → decide (v = .non) = isNon d := fun d v r => by
    cases d <;> simp only [Rep] at r <;> first
      | (subst r; rfl)
      | (obtain ⟨a, _, e, _⟩ := r; subst e; rfl)
      | (obtain ⟨a, _, _, e, _⟩ := r; subst e; rfl)
      | (obtain ⟨a, e, _⟩ := r; subst e; rfl)
  rcases r with r | ⟨l, a, vs, e1, e2, e3, r, n⟩ | ⟨ks, l, a, vs, e1, e2, e3, z, r, n⟩
  · exact key d v r
  · subst e1 e2
    rfl
  · subst e1 e2
    rfl
theorem c_isN {j pos'} (ha : PE X a (RB c ma)) : PE X (.Compare a [.Is] [.Constant .none j pos'] pos) (RE c (e1 vIsN ma)) := pe_imp (pe_cmp (pc_isN ha) rfl) fun s H Q q =>
  q.bind fun W e W1 H1 x v h1 t S r q2 => by
    rw [non_iff r]
    exact q2.ret S (by simp only [rV, Rep])
theorem c_notN {j pos'} (ha : PE X a (RB c ma)) : PE X (.Compare a [.IsNot] [.Constant .none j pos'] pos) (RE c (e1 vNotN ma)) := pe_imp (pe_cmp (pc_notN ha) rfl) fun s H Q q =>
  q.bind fun W e W1 H1 x v h1 t S r q2 => by
    rw [non_iff r]
    exact q2.ret S (by simp only [rV, Rep])

/-! ### in -/
def flatD : DV → Bool
  | .non => true
  | .bl _ => true
  | .int _ => true
  | .str _ => true
  | _ => false
def eqF : DV → DV → Bool
  | .non, .non => true
  | .bl a, .bl b => a == b
  | .bl a, .int b => (if a then 1 else 0) == b
  | .int a, .bl b => a == (if b then 1 else 0)
  | .int a, .int b => a == b
  | .str a, .str b => a == b
  | _, _ => false
def flV : DV → V
  | .bl b => .bl b
  | .int i => .int i
  | .str s => .str s
  | _ => .non
theorem flat_rep {g : Glue} {W : Wd} {H : Hp} {d : DV} {v : V} (r : Rep g W H d v) (f : flatD d = true) : v = flV d ∧ flatV v = true := by
  cases d <;> simp only [Rep] at r <;> first
    | (subst r; exact ⟨rfl, rfl⟩)
    | cases f
theorem eqF_V {a b : DV} (ha : flatD a = true) (hb : flatD b = true) : eqV (flV a) (flV b) = eqF a b := by
  cases a <;> first
    | (cases ha; done)
    | (cases b <;> first
      | (cases hb; done)
      | rfl)
theorem flats_rep {g : Glue} {W : Wd} {H : Hp} : ∀ {l : List DV} {vs : List V}, Reps g W H l vs → l.all flatD = true → vs = l.map flV ∧ vs.all flatV = true
  | [], vs, r, _ => by
    simp only [Reps] at r
    subst r
    exact ⟨rfl, rfl⟩
  | d :: ds, vs, r, f => by
    simp only [Reps] at r
    obtain ⟨v, r2, e1, h1, h2⟩ := r
    rw [List.all_cons, Bool.and_eq_true] at f
    obtain ⟨q1, q2⟩ := flat_rep h1 f.1
    obtain ⟨q3, q4⟩ := flats_rep h2 f.2
    subst e1 q1 q3
    exact ⟨rfl, by rw [List.all_cons, q2, q4]; rfl⟩
theorem inV_F {x : DV} (hx : flatD x = true) : ∀ {l : List DV}, l.all flatD = true → inV (flV x) (l.map flV) = l.any fun y => eqF y x
  | [], _ => rfl
  | d :: ds, f => by
    rw [List.all_cons, Bool.and_eq_true] at f
    have ih := inV_F hx f.2
    unfold inV at ih ⊢
    rw [List.map_cons, List.any_cons, List.any_cons, ih, eqF_V f.1 hx]
def asS (h : HP) : DV → Option (List DV)
  | .tup l => some l
  | d => asL h d
def vIn (neg : Bool) (x y : DV) : M DV := fun h => match asS h y with
  | some l => if flatD x && l.all flatD then .ok (.bl (if neg then !(l.any fun y => eqF y x) else l.any fun y => eqF y x)) h else .bad
  | none => .bad
theorem asS_ok {W : Wd} {e : En} {h : HP} {s : L2.St} {H : Hp} {d : DV} {v : V} {l : List DV} (S : Sim c W e h s H) (r : RepB c.g W H d v) (a : asS h d = some l) : ∃ p vs, v = .ref p ∧ (SqL c.g.K H p vs ∨ SqT c.g.K H p vs) ∧ Reps c.g W H l vs := by
  have fin : asL h d = some l → ∃ p vs, v = .ref p ∧ (SqL c.g.K H p vs ∨ SqT c.g.K H p vs) ∧ Reps c.g W H l vs := fun a => by
    obtain ⟨p, vs, e1, sq, rs⟩ := asL_ok S r a
    exact ⟨p, vs, e1, .inl sq, rs⟩
  cases d with
  | tup m =>
    have e1 : m = l := Option.some.inj a
    subst e1
    obtain ⟨p, vs, e1, sq, rs⟩ := tup_ok r
    exact ⟨p, vs, e1, .inr sq, rs⟩
  | _ => exact fin a
theorem prim_in {K : PySem.W.Frag} (hk : c.g.K = K) (neg : Bool) : Prim2 c (pV c) (pB c) (rV c) (vIn neg) (rIn K neg) := by
  subst hk
  refine ⟨fun {W e h s H Hs x y v w Q} S rx ry nw q => ?_⟩
  unfold vIn at q
  cases z : asS h y with
  | none =>
    rw [z] at q
    exact q.elim
  | some l =>
    rw [z] at q
    have q1 : Post c (rV c Hs) e s W H (if flatD x && l.all flatD then .ok (.bl (if neg then !(l.any fun y => eqF y x) else l.any fun y => eqF y x)) h else .bad) Q := q
    split at q1
    · rename_i f
      rw [Bool.and_eq_true] at f
      obtain ⟨p, vs, e1, sq, rs⟩ := asS_ok S ry z
      obtain ⟨g1, g2⟩ := flat_rep rx f.1
      obtain ⟨g3, g4⟩ := flats_rep rs f.2
      refine ⟨p, vs, e1, sq, g2, g4, ?_⟩
      rw [g1, g3, inV_F f.1 f.2]
      exact q1.ret S (by simp only [rV, Rep])
    · exact q1.elim
theorem c_in (hk : X.K = c.g.K) (ha : PE X a (RE c ma)) (hb : PE X b (RB c mb)) (hm : behindInMarks .In b = false := by rfl) : PE X (.Compare a [.In] [b] pos) (RE c (e2 (vIn false) ma mb)) := c_cmp op_in_seq stays_V (prim_in hk.symm false) ha hb hm
theorem c_notin (hk : X.K = c.g.K) (ha : PE X a (RE c ma)) (hb : PE X b (RB c mb)) (hm : behindInMarks .NotIn b = false := by rfl) : PE X (.Compare a [.NotIn] [b] pos) (RE c (e2 (vIn true) ma mb)) := c_cmp op_notIn_seq stays_V (prim_in hk.symm true) ha hb hm

/-! ### and, or, not; tests -/
def eAnd (a b : En → M DV) : En → M DV := fun e => a e >>= fun x => match x with
  | .bl true => b e
  | .bl false => pure (.bl false)
  | _ => M.bad
def eOr (a b : En → M DV) : En → M DV := fun e => a e >>= fun x => match x with
  | .bl true => pure (.bl true)
  | .bl false => b e
  | _ => M.bad
def vNot (x : DV) : M DV := match x with
  | .bl b => pure (.bl (!b))
  | _ => M.bad
variable {rest : List Expr}
theorem c_one {op} (h : PE X a (RE c ma)) : PE X (.BoolOp op [a] pos) (RE c ma) := pe_one h
theorem c_and (ha : PE X a (RE c ma)) (hb : PE X (.BoolOp .And (b :: rest) pos) (RE c mb)) : PE X (.BoolOp .And (a :: b :: rest) pos) (RE c (eAnd ma mb)) := pe_imp (pe_and ha hb) fun s H Q q =>
  q.bind fun W e W1 H1 x v h1 t S r q2 => by
    split at q2
    · simp only [Rep] at r
      exact ⟨true, r, iteT ⟨W1, e, h1, S, q2.later (Step.refl _ _)⟩⟩
    · simp only [Rep] at r
      exact ⟨false, r, iteF (q2.ret S (by simp only [rV, Rep]))⟩
    · exact q2.elim
theorem c_or (ha : PE X a (RE c ma)) (hb : PE X (.BoolOp .Or (b :: rest) pos) (RE c mb)) : PE X (.BoolOp .Or (a :: b :: rest) pos) (RE c (eOr ma mb)) := pe_imp (pe_or ha hb) fun s H Q q =>
  q.bind fun W e W1 H1 x v h1 t S r q2 => by
    split at q2
    · simp only [Rep] at r
      exact ⟨true, r, iteT (q2.ret S (by simp only [rV, Rep]))⟩
    · simp only [Rep] at r
      exact ⟨false, r, iteF ⟨W1, e, h1, S, q2.later (Step.refl _ _)⟩⟩
    · exact q2.elim
theorem c_not (ha : PE X a (RE c ma)) : PE X (.UnaryOp .Not a pos) (RE c (e1 vNot ma)) := pe_imp (pe_not ha) fun s H Q q =>
  q.bind fun W e W1 H1 x v h1 t S r q2 => by
    unfold vNot at q2
    split at q2
    · simp only [Rep] at r
      exact ⟨_, r, q2.ret S (by simp only [rV, Rep])⟩
    · exact q2.elim
/-- a truth value asked -/
def asB (x : DV) : M Bool := match x with
  | .bl b => pure b
  | _ => M.bad
def tb (m : En → M DV) : En → M Bool := fun e => m e >>= asB
theorem tb_use {s : L2.St} {H : Hp} {Q : Bool → Hp → Prop} {t : TE} (f : ∀ Q, RE c ma s H Q → t s H Q) (q : RT c (tb ma) s H Q) : t s H fun x H1 => ∃ k, x = .bl k ∧ Q k H1 := f _ (by
  obtain ⟨W, e, h, S0, q⟩ := q
  refine ⟨W, e, h, S0, ?_⟩
  unfold tb at q
  rw [M.bind_def] at q
  cases z : ma e h with
  | ok d h1 =>
    rw [z] at q
    intro W1 H1 v t S r
    have q2 : Post c (rT H) e s W H (asB d h1) Q := q
    unfold asB at q2
    split at q2
    · simp only [rV, Rep] at r
      exact ⟨_, r, q2 _ _ _ t S rfl⟩
    · exact q2.elim
  | exc x h1 =>
    rw [z] at q
    exact q
  | bad =>
    rw [z] at q
    exact q)
theorem t_val (h : PE X a (RE c ma)) (he : ∀ whole, isTrue a X.env whole = (do let v ← whole; standAt a.pos; holding [v] (truthy v)) := by intro _; rfl) : PT X a (RT c (tb ma)) := pt_imp (pt_val h he) fun s H Q q => tb_use (t := RE c ma) (fun _ z => z) q
theorem t_cmp {op : CmpOp} {p : DV → DV → M DV} {Ra Rb : Wd → Hp → DV → V → Prop} {r : R2} (ho : OpR X (compareOp op) r) (st : Stays c Ra) (hp : Prim2 c Ra Rb (rV c) p r) (ha : PE X a (RX c (fun _ => Ra) ma)) (hb : PE X b (RX c (fun _ => Rb) mb)) (hm : behindInMarks op b = false) :
    PT X (.Compare a [op] [b] pos) (RT c (tb (e2 p ma mb))) := pt_imp (pt_cmpR ho ha hb hm) fun s H Q q => tb_use (c := c) (ma := e2 p ma mb) (t := tOp r (RX c (fun _ => Ra) ma) (RX c (fun _ => Rb) mb)) (fun _ z => two st hp z) q
theorem t_lt (ha : PE X a (RE c ma)) (hb : PE X b (RE c mb)) : PT X (.Compare a [.Lt] [b] pos) (RT c (tb (e2 vLt ma mb))) := t_cmp op_lt stays_V prim_lt ha hb (nomark _)
theorem t_le (ha : PE X a (RE c ma)) (hb : PE X b (RE c mb)) : PT X (.Compare a [.LtE] [b] pos) (RT c (tb (e2 vLe ma mb))) := t_cmp op_le stays_V prim_le ha hb (nomark _)
theorem t_gt (ha : PE X a (RE c ma)) (hb : PE X b (RE c mb)) : PT X (.Compare a [.Gt] [b] pos) (RT c (tb (e2 vGt ma mb))) := t_cmp op_gt stays_V prim_gt ha hb (nomark _)
theorem t_ge (ha : PE X a (RE c ma)) (hb : PE X b (RE c mb)) : PT X (.Compare a [.GtE] [b] pos) (RT c (tb (e2 vGe ma mb))) := t_cmp op_ge stays_V prim_ge ha hb (nomark _)
theorem t_eq (hk : X.K = c.g.K) (hu : X.A.units + 64 < cLine) (ha : PE X a (RB c ma)) (hb : PE X b (RB c mb)) : PT X (.Compare a [.Eq] [b] pos) (RT c (tb (e2 vEq ma mb))) := t_cmp (op_eqD hu) stays_B (prim_eq hk.symm) ha hb (nomark _)
theorem t_ne (hk : X.K = c.g.K) (hu : X.A.units + 64 < cLine) (ha : PE X a (RB c ma)) (hb : PE X b (RB c mb)) : PT X (.Compare a [.NotEq] [b] pos) (RT c (tb (e2 vNe ma mb))) := t_cmp (op_neD hu) stays_B (prim_ne hk.symm) ha hb (nomark _)
theorem t_in (hk : X.K = c.g.K) (ha : PE X a (RE c ma)) (hb : PE X b (RB c mb)) (hm : behindInMarks .In b = false := by rfl) : PT X (.Compare a [.In] [b] pos) (RT c (tb (e2 (vIn false) ma mb))) := t_cmp op_in_seq stays_V (prim_in hk.symm false) ha hb hm
theorem t_notin (hk : X.K = c.g.K) (ha : PE X a (RE c ma)) (hb : PE X b (RB c mb)) (hm : behindInMarks .NotIn b = false := by rfl) : PT X (.Compare a [.NotIn] [b] pos) (RT c (tb (e2 (vIn true) ma mb))) := t_cmp op_notIn_seq stays_V (prim_in hk.symm true) ha hb hm
theorem t_isN {j pos'} (ha : PE X a (RB c ma)) : PT X (.Compare a [.Is] [.Constant .none j pos'] pos) (RT c (tb (e1 vIsN ma))) := pt_imp (pt_cmp (pc_isN ha) rfl) fun s H Q q =>
  tb_use (c := c) (ma := e1 vIsN ma) (t := tIsN (RB c ma)) (fun Q q => q.bind fun W e W1 H1 x v h1 t S r q2 => by
    rw [non_iff r]
    exact q2.ret S (by simp only [rV, Rep])) q
theorem t_notN {j pos'} (ha : PE X a (RB c ma)) : PT X (.Compare a [.IsNot] [.Constant .none j pos'] pos) (RT c (tb (e1 vNotN ma))) := pt_imp (pt_cmp (pc_notN ha) rfl) fun s H Q q =>
  tb_use (c := c) (ma := e1 vNotN ma) (t := tNotN (RB c ma)) (fun Q q => q.bind fun W e W1 H1 x v h1 t S r q2 => by
    rw [non_iff r]
    exact q2.ret S (by simp only [rV, Rep])) q
theorem t_chain {op op' : CmpOp} {p p' : DV → DV → M DV} {r r' : R2} {z : Expr} {mz : En → M DV} (ho : OpR X (compareOp op) r) (ho' : OpR X (compareOp op') r') (hp : Prim2 c (pV c) (pV c) (rV c) p r) (hp' : Prim2 c (pV c) (pV c) (rV c) p' r')
    (ha : PE X a (RE c ma)) (hb : PE X b (RE c mb)) (hz : PE X z (RE c mz)) (hm : lastMarks [op, op'] [b, z] = false) :
    PT X (.Compare a [op, op'] [b, z] pos) (RT c (tb (e3c p p' ma mb mz))) := pt_imp (L2.pt_chain ho ho' ha hb hz hm) fun s H Q q => by
  refine tb_use (c := c) (ma := e3c p p' ma mb mz) (t := tChain r r' (RE c ma) (RE c mb) (RE c mz)) (fun Q q => ?_) q
  exact chain_use hp hp' q
theorem t_lelt {z : Expr} {mz : En → M DV} (ha : PE X a (RE c ma)) (hb : PE X b (RE c mb)) (hz : PE X z (RE c mz)) : PT X (.Compare a [.LtE, .Lt] [b, z] pos) (RT c (tb (e3c vLe vLt ma mb mz))) := t_chain op_le op_lt prim_le prim_lt ha hb hz (nomark z)
theorem t_lele {z : Expr} {mz : En → M DV} (ha : PE X a (RE c ma)) (hb : PE X b (RE c mb)) (hz : PE X z (RE c mz)) : PT X (.Compare a [.LtE, .LtE] [b, z] pos) (RT c (tb (e3c vLe vLe ma mb mz))) := t_chain op_le op_le prim_le prim_le ha hb hz (nomark z)
theorem t_ltlt {z : Expr} {mz : En → M DV} (ha : PE X a (RE c ma)) (hb : PE X b (RE c mb)) (hz : PE X z (RE c mz)) : PT X (.Compare a [.Lt, .Lt] [b, z] pos) (RT c (tb (e3c vLt vLt ma mb mz))) := t_chain op_lt op_lt prim_lt prim_lt ha hb hz (nomark z)
def tAnd (a b : En → M Bool) : En → M Bool := fun e => a e >>= fun x => if x then b e else pure false
def tOr (a b : En → M Bool) : En → M Bool := fun e => a e >>= fun x => if x then pure true else b e
def tNot (a : En → M Bool) : En → M Bool := fun e => a e >>= fun x => pure (!x)
variable {ta tc : En → M Bool}
theorem t_and1 (ha : PT X a (RT c ta)) : PW X (.BoolOp .And [a] pos) (RT c ta) := pw_and1 ha
theorem t_or1 (ha : PT X a (RT c ta)) : PW X (.BoolOp .Or [a] pos) (RT c ta) := pw_or1 ha
theorem pw_imp {ex : Expr} {t t' : TT} (h : PW X ex t) (f : ∀ s H Q, t' s H Q → t s H Q) : PW X ex t' := ⟨fun wh pins s σ H Q I q => h.run wh pins s σ H Q I (f σ H Q q)⟩
theorem t_and (ha : PT X a (RT c ta)) (hb : PW X (.BoolOp .And (b :: rest) pos) (RT c tc)) : PW X (.BoolOp .And (a :: b :: rest) pos) (RT c (tAnd ta tc)) := pw_imp (pw_and ha hb) fun s H Q q =>
  q.bind fun W e W1 H1 x v h1 t S r q2 => by
    have r2 : v = x := r
    subst r2
    split at q2
    · rename_i hv
      rw [hv]
      exact iteT ⟨W1, e, h1, S, q2.later (Step.refl _ _)⟩
    · rename_i hv
      have hv : v = false := by simpa using hv
      rw [hv]
      exact iteF (q2.ret S rfl)
theorem t_or (ha : PT X a (RT c ta)) (hb : PW X (.BoolOp .Or (b :: rest) pos) (RT c tc)) : PW X (.BoolOp .Or (a :: b :: rest) pos) (RT c (tOr ta tc)) := pw_imp (pw_or ha hb) fun s H Q q =>
  q.bind fun W e W1 H1 x v h1 t S r q2 => by
    have r2 : v = x := r
    subst r2
    split at q2
    · rename_i hv
      rw [hv]
      exact iteT (q2.ret S rfl)
    · rename_i hv
      have hv : v = false := by simpa using hv
      rw [hv]
      exact iteF ⟨W1, e, h1, S, q2.later (Step.refl _ _)⟩
theorem t_not (ha : PT X a (RT c ta)) : PT X (.UnaryOp .Not a pos) (RT c (tNot ta)) := pt_imp (pt_not ha) fun s H Q q =>
  q.bind fun W e W1 H1 x v h1 t S r q2 => by
    have r2 : v = x := r
    subst r2
    exact q2.ret S rfl
end
end LM

/-! Calls of built-ins and of defs; what is walked; comprehensions. -/
namespace LM
open PySem L2

/-! ### one argument -/
structure Prim1 (c : Cn) (Ra : Wd → Hp → DV → V → Prop) {A : Type} (R : Rl A V) (p : DV → M A) (r : List V → Hp → VK → Prop) : Prop where
  go : ∀ {W : Wd} {e : En} {h : HP} {s : L2.St} {H : Hp} {Hs : Hp} {x : DV} {v : V} {Q : V → Hp → Prop}, Sim c W e h s H → Ra W H x v → (∀ a, H a = none → Hs a = none) → Post c (R Hs) e s W H (p x h) Q → r [v] H Q
section
variable {X : Cx} {c : Cn} {pos p1 : Pos} {a b : Expr} {ma mb : En → M DV} {x : Str} {id T : String} {r : List V → Hp → VK → Prop} {Ra : Wd → Hp → DV → V → Prop} {A : Type} {R : Rl A V} {p : DV → M A}
theorem one_use (hp : Prim1 c Ra R p r) {s : L2.St} {H : Hp} {Q : VK} (q : RX c R (fun e => ma e >>= p) s H Q) : tCB r (tCons (RX c (fun _ => Ra) ma) tNil) s H Q :=
  RX.bind (R2 := fun _ => Ra) (K := fun v H1 => r [v] H1 Q) q fun W e W1 H1 x v h1 t S rx q2 => hp.go S rx (fun a z => t.th a z) q2
theorem c_callB (hc : CallR X (.builtin id) r) (hp : Prim1 c Ra R p r) (hg : Gl X x) (hm : X.mg x = none) (hv : bootBuiltins x = some (.builtin id)) (ha : PE X a (RX c (fun _ => Ra) ma)) (hn : x ≠ "__name__" := by decide) (hdb : (x == ("__debug__" : Str)) = false := by decide)
    (he : starEach (a :: []) X.env = (false, eval a X.env) :: starEach [] X.env := by rfl) : PE X (.Call (.Name x p1) [a] [] pos) (RX c R (fun e => ma e >>= p)) :=
  pe_imp (pe_callB hc hg hm hv (pa_cons ha pa_nil he) hn hdb he rfl) fun s H Q q => one_use hp q
theorem c_callTy (hc : CallR X (.type T) r) (hp : Prim1 c Ra R p r) (hg : Gl X x) (hm : X.mg x = none) (hv : bootBuiltins x = some (.type T)) (ha : PE X a (RX c (fun _ => Ra) ma)) (hn : x ≠ "__name__" := by decide) (hdb : (x == ("__debug__" : Str)) = false := by decide)
    (he : starEach (a :: []) X.env = (false, eval a X.env) :: starEach [] X.env := by rfl) : PE X (.Call (.Name x p1) [a] [] pos) (RX c R (fun e => ma e >>= p)) :=
  pe_imp (pe_callTy hc hg hm hv (pa_cons ha pa_nil he) hn hdb he rfl) fun s H Q q => one_use hp q

/-! len, int, tuple, list, sum -/
def vLen (x : DV) : M DV := fun h => match x with
  | .str z => if z.length ≤ LN then .ok (.int z.length) h else .bad
  | _ => (match asS h x with
    | some l => .ok (.int l.length) h
    | none => .bad)
theorem prim_len {K : PySem.W.Frag} (hk : c.g.K = K) : Prim1 c (pB c) (rV c) vLen (fun xs H Q => ∃ x n, xs = [x] ∧ LenV K x H n ∧ Q (.int n) H) := by
  subst hk
  refine ⟨fun {W e h s H Hs x v Q} S rx nw q => ?_⟩
  have fin : Post c (rV c Hs) e s W H (match asS h x with
      | some l => .ok (.int l.length) h
      | none => .bad) Q → ∃ x n, [v] = [x] ∧ LenV c.g.K x H n ∧ Q (.int n) H := fun q => by
    cases z : asS h x with
    | none =>
      rw [z] at q
      exact q.elim
    | some l =>
      rw [z] at q
      obtain ⟨p, vs, e1, sq, rs⟩ := asS_ok S rx z
      refine ⟨v, vs.length, rfl, ?_, ?_⟩
      · subst e1
        rcases sq with sq | sq
        · exact .inl ⟨vs, sq, rfl⟩
        · exact .inr ⟨vs, sq, rfl⟩
      · rw [← rs.len]
        exact q.ret S (by simp only [rV, Rep])
  cases x with
  | str z =>
    have ez := str_ok rx
    have q1 : Post c (rV c Hs) e s W H (if z.length ≤ LN then .ok (.int z.length) h else .bad) Q := q
    split at q1
    · rename_i hz
      subst ez
      exact ⟨_, z.length, rfl, ⟨by rw [line_LN]; exact hz, rfl⟩, q1.ret S (by simp only [rV, Rep])⟩
    · exact q1.elim
  | _ => exact fin q
theorem c_len (hk : X.K = c.g.K) (hg : Gl X "len") (hm : X.mg "len" = none) (ha : PE X a (RB c ma)) (he : starEach (a :: []) X.env = (false, eval a X.env) :: starEach [] X.env := by rfl) : PE X (.Call (.Name "len" p1) [a] [] pos) (RE c (e1 vLen ma)) :=
  c_callB call_len (prim_len hk.symm) hg hm PySem.boot_len ha (by decide) (by decide) he
def vInt (x : DV) : M DV := match x with
  | .int i => pure (.int i)
  | .bl b => pure (.int (if b then 1 else 0))
  | _ => M.bad
theorem prim_int : Prim1 c (pV c) (rV c) vInt (fun xs H Q => (∃ i, xs = [.int i] ∧ Q (.int i) H) ∨ ∃ k, xs = [.bl k] ∧ Q (.int (if k then 1 else 0)) H) := by
  refine ⟨fun {W e h s H Hs x v Q} S rx nw q => ?_⟩
  unfold vInt at q
  split at q
  · simp only [pV, Rep] at rx
    subst rx
    exact .inl ⟨_, rfl, q.ret S (by simp only [rV, Rep])⟩
  · simp only [pV, Rep] at rx
    subst rx
    exact .inr ⟨_, rfl, q.ret S (by simp only [rV, Rep])⟩
  · exact q.elim
theorem c_intOf (hg : Gl X "int") (hm : X.mg "int" = none) (ha : PE X a (RE c ma)) (he : starEach (a :: []) X.env = (false, eval a X.env) :: starEach [] X.env := by rfl) : PE X (.Call (.Name "int" p1) [a] [] pos) (RE c (e1 vInt ma)) :=
  c_callTy call_int1 prim_int hg hm (by decide +kernel) ha (by decide) (by decide) he
def vTup (x : DV) : M DV := fun h => match asS h x with
  | some l => .ok (.tup l) h
  | none => .bad
theorem prim_tup {K : PySem.W.Frag} (hk : c.g.K = K) : Prim1 c (pB c) (rV c) vTup (fun xs H Q => ∃ p ys, xs = [.ref p] ∧ ((SqL K H p ys ∧ ∀ l, H l = none → Q (.ref l) (upd H l (.tup ys))) ∨ (SqT K H p ys ∧ Q (.ref p) H))) := by
  subst hk
  refine ⟨fun {W e h s H Hs x v Q} S rx nw q => ?_⟩
  unfold vTup at q
  cases z : asS h x with
  | none =>
    rw [z] at q
    exact q.elim
  | some l =>
    rw [z] at q
    obtain ⟨p, vs, e1, sq, rs⟩ := asS_ok S rx z
    subst e1
    rcases sq with sq | sq
    · exact ⟨p, vs, rfl, .inl ⟨sq, fun d hd => post_tup q S rs hd⟩⟩
    · refine ⟨p, vs, rfl, .inr ⟨sq, q.ret S ?_⟩⟩
      simp only [rV, Rep]
      exact ⟨p, vs, rfl, sq, rs⟩
theorem c_tupOf (hk : X.K = c.g.K) (hg : Gl X "tuple") (hm : X.mg "tuple" = none) (ha : PE X a (RB c ma)) (he : starEach (a :: []) X.env = (false, eval a X.env) :: starEach [] X.env := by rfl) : PE X (.Call (.Name "tuple" p1) [a] [] pos) (RE c (e1 vTup ma)) :=
  c_callTy call_tuple_of (prim_tup hk.symm) hg hm (by decide +kernel) ha (by decide) (by decide) he
def lLst (x : DV) : M (List DV) := fun h => match asS h x with
  | some l => .ok l h
  | none => .bad
theorem prim_lst {K : PySem.W.Frag} (hk : c.g.K = K) : Prim1 c (pB c) (rO c) lLst (fun xs H Q => ∃ p ys, xs = [.ref p] ∧ (SqL K H p ys ∨ SqT K H p ys) ∧ ∀ l, H l = none → Q (.ref l) (upd H l (.lst ys))) := by
  subst hk
  refine ⟨fun {W e h s H Hs x v Q} S rx nw q => ?_⟩
  unfold lLst at q
  cases z : asS h x with
  | none =>
    rw [z] at q
    exact q.elim
  | some l =>
    rw [z] at q
    obtain ⟨p, vs, e1, sq, rs⟩ := asS_ok S rx z
    subst e1
    exact ⟨p, vs, rfl, sq, fun d hd => post_own q S rs hd (nw d hd)⟩
theorem c_listOf (hk : X.K = c.g.K) (hg : Gl X "list") (hm : X.mg "list" = none) (ha : PE X a (RB c ma)) (he : starEach (a :: []) X.env = (false, eval a X.env) :: starEach [] X.env := by rfl) : PE X (.Call (.Name "list" p1) [a] [] pos) (RO c (fun e => ma e >>= lLst)) :=
  c_callTy call_list_of (prim_lst hk.symm) hg hm (by decide +kernel) ha (by decide) (by decide) he
def asInts : List DV → Option (List Int)
  | [] => some []
  | .int i :: r => (match asInts r with
    | some l => some (i :: l)
    | none => none)
  | _ => none
theorem asInts_map : ∀ {l : List DV} {ns : List Int}, asInts l = some ns → l = ns.map DV.int
  | [], ns, h => by
    have e : [] = ns := Option.some.inj h
    rw [← e]
    rfl
  | d :: r, ns, h => by
    cases d <;> first
      | (cases h; done)
      | (rename_i i
         have h2 : (match asInts r with
           | some l => some (i :: l)
           | none => none) = some ns := h
         cases z : asInts r with
         | none =>
           rw [z] at h2
           cases h2
         | some l =>
           rw [z] at h2
           have e : i :: l = ns := Option.some.inj h2
           rw [← e, asInts_map z]
           rfl)
theorem asInts_ints : ∀ ns : List Int, asInts (ns.map DV.int) = some ns
  | [] => rfl
  | n :: r => by
    show (match asInts (r.map DV.int) with
      | some l => some (n :: l)
      | none => none) = some (n :: r)
    rw [asInts_ints r]
theorem reps_ints_inv {g : Glue} {W : Wd} {H : Hp} : ∀ {ns : List Int} {vs : List V}, Reps g W H (ns.map DV.int) vs → vs = ns.map V.int
  | [], vs, r => by simpa only [List.map_nil, Reps] using r
  | n :: ns, vs, r => by
    simp only [List.map_cons, Reps] at r
    obtain ⟨v, r2, e1, h1, h2⟩ := r
    simp only [Rep] at h1
    rw [e1, h1, reps_ints_inv h2]
    rfl
def vSum (x : DV) : M DV := fun h => match asL h x with
  | some l => (match asInts l with
    | some ns => .ok (.int ns.sum) h
    | none => .bad)
  | none => .bad
theorem prim_sum {K : PySem.W.Frag} (hk : c.g.K = K) : Prim1 c (pB c) (rV c) vSum (rSum K) := by
  subst hk
  refine ⟨fun {W e h s H Hs x v Q} S rx nw q => ?_⟩
  unfold vSum at q
  cases z : asL h x with
  | none =>
    rw [z] at q
    exact q.elim
  | some l =>
    rw [z] at q
    have q1 : Post c (rV c Hs) e s W H (match asInts l with
      | some ns => .ok (.int ns.sum) h
      | none => .bad) Q := q
    cases z2 : asInts l with
    | none =>
      rw [z2] at q1
      exact q1.elim
    | some ns =>
      rw [z2] at q1
      obtain ⟨p, vs, e1, sq, rs⟩ := asL_ok S rx z
      rw [asInts_map z2] at rs
      have e2 := reps_ints_inv rs
      subst e1 e2
      exact ⟨p, ns, rfl, sq, q1.ret S (by simp only [rV, Rep])⟩
theorem c_sum (hk : X.K = c.g.K) (hc : X.calm = true) (hg : Gl X "sum") (hm : X.mg "sum" = none) (ha : PE X a (RB c ma)) (he : starEach (a :: []) X.env = (false, eval a X.env) :: starEach [] X.env := by rfl) : PE X (.Call (.Name "sum" p1) [a] [] pos) (RE c (e1 vSum ma)) :=
  c_callB (cr_sum hc) (prim_sum hk.symm) hg hm (by decide +kernel) ha (by decide) (by decide) he
/-- an own list, where it is only read -/
theorem c_oB {ms : En → M (List DV)} (h : PE X a (RO c ms)) : PE X a (RB c (eFrz ms)) := c_toB (c_frz h)

/-! ### two arguments: max, min -/
def vMax (x y : DV) : M DV := match x, y with
  | .int i, .int j => pure (.int (if j > i then j else i))
  | _, _ => M.bad
def vMin (x y : DV) : M DV := match x, y with
  | .int i, .int j => pure (.int (if j < i then j else i))
  | _, _ => M.bad
theorem c_max2 (hc : X.calm = true) (hg : Gl X "max") (hm : X.mg "max" = none) (ha : PE X a (RE c ma)) (hb : PE X b (RE c mb)) (he : starEach [a, b] X.env = (false, eval a X.env) :: starEach [b] X.env := by rfl) (he2 : starEach [b] X.env = (false, eval b X.env) :: starEach [] X.env := by rfl) (hpl : (backTo pos (starEach [b] X.env)).any (·.1) = false := by rfl) :
    PE X (.Call (.Name "max" p1) [a, b] [] pos) (RE c (e2 vMax ma mb)) := pe_imp (pe_callB (call_max2 hc) hg hm (by decide +kernel) (pa_cons ha (pa_cons hb pa_nil he2) he) (by decide) (by decide) he hpl) fun s H Q q =>
  RX.bind q fun W e W1 H1 x v h1 t S rx q2 => ⟨W1, e, h1, S, q2.bind fun W2 H2 y w h2 t2 S2 ry q3 => by
    have rx2 := stays_V.go S.hs t2 rx
    unfold vMax at q3
    split at q3
    · simp only [rV, Rep] at rx2 ry
      subst rx2 ry
      exact ⟨_, _, rfl, q3.ret S2 (by simp only [rV, Rep])⟩
    · exact q3.elim⟩
theorem c_min2 (hc : X.calm = true) (hg : Gl X "min") (hm : X.mg "min" = none) (ha : PE X a (RE c ma)) (hb : PE X b (RE c mb)) (he : starEach [a, b] X.env = (false, eval a X.env) :: starEach [b] X.env := by rfl) (he2 : starEach [b] X.env = (false, eval b X.env) :: starEach [] X.env := by rfl) (hpl : (backTo pos (starEach [b] X.env)).any (·.1) = false := by rfl) :
    PE X (.Call (.Name "min" p1) [a, b] [] pos) (RE c (e2 vMin ma mb)) := pe_imp (pe_callB (call_min2 hc) hg hm (by decide +kernel) (pa_cons ha (pa_cons hb pa_nil he2) he) (by decide) (by decide) he hpl) fun s H Q q =>
  RX.bind q fun W e W1 H1 x v h1 t S rx q2 => ⟨W1, e, h1, S, q2.bind fun W2 H2 y w h2 t2 S2 ry q3 => by
    have rx2 := stays_V.go S.hs t2 rx
    unfold vMin at q3
    split at q3
    · simp only [rV, Rep] at rx2 ry
      subst rx2 ry
      exact ⟨_, _, rfl, q3.ret S2 (by simp only [rV, Rep])⟩
    · exact q3.elim⟩

/-! ### isinstance of a built-in class -/
inductive Ty where
  | int | bool | str | none | tuple | list | dict
  deriving DecidableEq
def Ty.nm : Ty → String
  | .int => "int"
  | .bool => "bool"
  | .str => "str"
  | .none => "NoneType"
  | .tuple => "tuple"
  | .list => "list"
  | .dict => "dict"
def Ty.is (a b : Ty) : Bool := decide (a = b) || (decide (a = .bool) && decide (b = .int))
theorem kit_Ty (a b : Ty) : kitB a.nm b.nm = some (a.is b) := by
  cases a <;> cases b <;> decide +kernel
def tyD (h : HP) : DV → Option Ty
  | .non => some .none
  | .bl _ => some .bool
  | .int _ => some .int
  | .str _ => some .str
  | .tup _ => some .tuple
  | .lst _ => some .list
  | .scr _ => some .list
  | .dct _ _ => some .dict
  | .ref p => (match h[p]? with
    | some (.lst _) => some .list
    | _ => none)
  | _ => none
def vIsI (T : Ty) (x : DV) : M DV := fun h => match tyD h x with
  | some t => .ok (.bl (t.is T)) h
  | none => .bad
theorem tyX_of {W : Wd} {e : En} {h : HP} {s : L2.St} {H : Hp} {d : DV} {v : V} {t : Ty} (S : Sim c W e h s H) (r : RepB c.g W H d v) (a : tyD h d = some t) : TyX c.g.K H v (.type t.nm) := by
  rcases r with r | ⟨l, p, vs, e1, e2, e3, r, n⟩ | ⟨ks, l, p, vs, e1, e2, e3, z, r, n⟩
  · cases d with
    | non =>
      cases Option.some.inj a
      simp only [Rep] at r
      subst r
      exact .base .non
    | bl b =>
      cases Option.some.inj a
      simp only [Rep] at r
      subst r
      exact .base (.bl b)
    | int i =>
      cases Option.some.inj a
      simp only [Rep] at r
      subst r
      exact .base (.int i)
    | str z =>
      cases Option.some.inj a
      simp only [Rep] at r
      subst r
      exact .base (.str z)
    | tup l =>
      cases Option.some.inj a
      simp only [Rep] at r
      obtain ⟨p, vs, e1, sq, _⟩ := r
      subst e1
      rcases sq with (sq | ⟨o, sq⟩) | ⟨o, its, n, k1, k2, _⟩
      · exact .base (.tup sq)
      · exact .fTuple sq
      · exact .kTuple k1 k2
    | lst l =>
      cases Option.some.inj a
      simp only [Rep] at r
      obtain ⟨p, vs, e1, _, sq, _⟩ := r
      subst e1
      exact .base (.lst sq)
    | scr l =>
      cases Option.some.inj a
      simp only [Rep] at r
      obtain ⟨p, e1, sq⟩ := r
      subst e1
      rcases sq with ⟨o, sq⟩ | ⟨o, its, n, k1, k2, _⟩
      · exact .base (.frz sq)
      · exact .kList k1 k2
    | dct ks l =>
      cases Option.some.inj a
      simp only [Rep] at r
      obtain ⟨p, vs, e1, _, sq, _⟩ := r
      subst e1
      exact .base (.dK sq)
    | ref q =>
      have a2 : (match h[q]? with
        | some (.lst _) => some Ty.list
        | _ => none) = some t := a
      simp only [Rep] at r
      obtain ⟨p, e1, r⟩ := r
      cases z : h[q]? with
      | none =>
        rw [z] at a2
        cases a2
      | some o =>
        rw [z] at a2
        cases o with
        | lst m =>
          cases Option.some.inj a2
          obtain ⟨⟨vs, e3, _⟩, _⟩ := S.hs.o q _ p z r
          subst e1
          exact .base (.lst e3)
        | obj c l => cases a2
    | obj _ _ => cases a
    | fn _ => cases a
  · subst e1 e2
    cases Option.some.inj a
    exact .base (.lst e3)
  · subst e1 e2
    cases Option.some.inj a
    exact .base (.dK e3)
theorem c_isI (T : Ty) (hk : X.K = c.g.K) (hg : Gl X "isinstance") (hm : X.mg "isinstance" = none) {y : Str} {p2 : Pos} (hg2 : Gl X y) (hm2 : X.mg y = none) (hv2 : bootBuiltins y = some (.type T.nm)) (ha : PE X a (RB c ma))
    (he : starEach [a, .Name y p2] X.env = (false, eval a X.env) :: starEach [.Name y p2] X.env := by rfl) (hn : y ≠ "__name__" := by decide) (hd : (y == ("__debug__" : Str)) = false := by decide) :
    PE X (.Call (.Name "isinstance" p1) [a, .Name y p2] [] pos) (RE c (e1 (vIsI T) ma)) :=
  pe_imp (pe_callB call_isi hg hm (by decide +kernel) (pa_cons ha (pa_cons (pe_bltn (v := .ty T.nm) hg2 hm2 hv2 rfl hn hd) pa_nil) he) (by decide) (by decide) he rfl) fun s H Q q =>
    RX.bind q fun W e W1 H1 x v h1 t S rx q2 => by
      unfold vIsI at q2
      cases z : tyD h1 x with
      | none =>
        rw [z] at q2
        exact q2.elim
      | some u =>
        rw [z] at q2
        exact ⟨v, .ty T.nm, _, _, _, rfl, .ty _, hk ▸ tyX_of S rx z, kit_ty (kit_Ty u T), q2.ret S (by simp only [rV, Rep])⟩
end
end LM

/-! What is walked; targets; comprehensions. -/
namespace LM
open PySem L2

/-! ### what is walked -/
structure Wk (c : Cn) (W : Wd) (H : Hp) (J : It) (ds : List DV) : Prop where
  go : ∀ (W2 : Wd) (H2 : Hp), Per W H W2 H2 → ∀ (i : Nat) (d : DV), ds[i]? = some d → J.go i H2 ∧ ∀ x H3, J.yld i H2 x H3 →
    (H3 = H2 ∧ Rep c.g W2 H2 d x) ∨ (∃ T us l, d = .tup l ∧ x = .ref T ∧ H2 T = none ∧ H3 = upd H2 T (.tup us) ∧ Reps c.g W2 H2 l us)
  st : ∀ (W2 : Wd) (H2 : Hp), Per W H W2 H2 → J.stop ds.length H2
abbrev RI (c : Cn) (m : En → M (List DV)) : TI := RX c (fun _ W H ds J => Wk c W H J ds) m

section
variable {X : Cx} {c : Cn} {pos p1 : Pos} {a b tg : Expr} {ma mb : En → M DV}
theorem some_inj2 {A : Type} {x y : A} {o : Option A} (h : o = some x) (h2 : o = some y) : x = y := Option.some.inj (h.symm.trans h2)
theorem Per.sqL {K : PySem.W.Frag} {W W' : Wd} {H H' : Hp} {a : Addr} {xs : List V} (p : Per W H W' H') (f : (W.F a ∧ H a = some (.lst xs)) ∨ SqS K H a xs) : SqL K H' a xs := by
  rcases f with ⟨f, e⟩ | f
  · exact .of ((p.h a f).trans e)
  · exact (p.sqS f).l
/-- a list that stays -/
def LsF (K : PySem.W.Frag) (W : Wd) (H : Hp) (a : Addr) (xs : List V) : Prop := (W.F a ∧ H a = some (.lst xs)) ∨ SqS K H a xs
theorem wk_list {W : Wd} {H : Hp} {p : Addr} {vs : List V} {ds : List DV} (f : LsF c.g.K W H p vs) (r : Reps c.g W H ds vs) : Wk c W H (Itl c.g.K p) ds where
  go := fun W2 H2 pr i d e => by
    have sq : SqL c.g.K H2 p vs := pr.sqL f
    have r2 := r.per pr _ _
    obtain ⟨v, e2, rv⟩ := r2.get e
    refine ⟨⟨vs, v, sq, e2⟩, fun x H3 y => ?_⟩
    obtain ⟨h1, h2⟩ := y
    have : v = x := some_inj2 e2 (h2 vs sq)
    subst this
    exact .inl ⟨h1, rv⟩
  st := fun W2 H2 pr => ⟨vs, pr.sqL f, by rw [r.len]; exact Nat.le_refl _⟩
theorem wk_tup {W : Wd} {H : Hp} {p : Addr} {vs : List V} {ds : List DV} (f : SqT c.g.K H p vs) (r : Reps c.g W H ds vs) : Wk c W H (Itt c.g.K p) ds where
  go := fun W2 H2 pr i d e => by
    have sq : SqT c.g.K H2 p vs := pr.sqT f
    have r2 := r.per pr _ _
    obtain ⟨v, e2, rv⟩ := r2.get e
    refine ⟨⟨vs, v, sq, e2⟩, fun x H3 y => ?_⟩
    obtain ⟨h1, h2⟩ := y
    have : v = x := some_inj2 e2 (h2 vs sq)
    subst this
    exact .inl ⟨h1, rv⟩
  st := fun W2 H2 pr => ⟨vs, pr.sqT f, by rw [r.len]; exact Nat.le_refl _⟩
theorem rev_get {A : Type} (l : List A) {i : Nat} {d : A} (h : l.reverse[i]? = some d) : i < l.length ∧ l[l.length - 1 - i]? = some d := by
  have hi : i < l.length := by
    have q := (List.getElem?_eq_some_iff.mp h).1
    rwa [List.length_reverse] at q
  rw [List.getElem?_reverse hi] at h
  exact ⟨hi, h⟩
theorem wk_rev {W : Wd} {H : Hp} {p : Addr} {vs : List V} {ds : List DV} (f : LsF c.g.K W H p vs) (r : Reps c.g W H ds vs) : Wk c W H (Itv c.g.K p vs.length) ds.reverse where
  go := fun W2 H2 pr i d e => by
    have sq : SqL c.g.K H2 p vs := pr.sqL f
    obtain ⟨hi, e1⟩ := rev_get ds e
    have r2 := r.per pr _ _
    rw [r.len] at hi e1
    obtain ⟨v, e2, rv⟩ := r2.get e1
    refine ⟨⟨hi, vs, v, sq, e2⟩, fun x H3 y => ?_⟩
    obtain ⟨h1, h2⟩ := y
    have : v = x := some_inj2 e2 (h2 vs sq)
    subst this
    exact .inl ⟨h1, rv⟩
  st := fun W2 H2 pr => by
    show vs.length ≤ ds.reverse.length
    rw [List.length_reverse, r.len]
    exact Nat.le_refl _
theorem wk_revT {W : Wd} {H : Hp} {p : Addr} {vs : List V} {ds : List DV} (f : SqT c.g.K H p vs) (r : Reps c.g W H ds vs) : Wk c W H (RT.ItvT c.g.K p vs.length) ds.reverse where
  go := fun W2 H2 pr i d e => by
    have sq : SqT c.g.K H2 p vs := pr.sqT f
    obtain ⟨hi, e1⟩ := rev_get ds e
    have r2 := r.per pr _ _
    rw [r.len] at hi e1
    obtain ⟨v, e2, rv⟩ := r2.get e1
    refine ⟨⟨hi, vs, v, sq, e2⟩, fun x H3 y => ?_⟩
    obtain ⟨h1, h2⟩ := y
    have : v = x := some_inj2 e2 (h2 vs sq)
    subst this
    exact .inl ⟨h1, rv⟩
  st := fun W2 H2 pr => by
    show vs.length ≤ ds.reverse.length
    rw [List.length_reverse, r.len]
    exact Nat.le_refl _
def itS (d : DV) : M (List DV) := match d with
  | .tup l => pure l
  | .lst l => pure l
  | .scr l => pure (l.map .int)
  | _ => M.bad
theorem itS_ok {W : Wd} {e : En} {h : HP} {s : L2.St} {H : Hp} {d : DV} {v : V} {l : List DV} {h2 : HP} (S : Sim c W e h s H) (r : Rep c.g W H d v) (q : itS d h = .ok l h2) : h2 = h ∧ ∃ p vs, v = .ref p ∧ Reps c.g W H l vs ∧ ((∃ l2, d = .tup l2 ∧ SqT c.g.K H p vs) ∨ ((∀ l2, d ≠ .tup l2) ∧ LsF c.g.K W H p vs)) := by
  unfold itS at q
  split at q
  · cases q
    simp only [Rep] at r
    obtain ⟨p, vs, e1, sq, rs⟩ := r
    exact ⟨rfl, p, vs, e1, rs, .inl ⟨_, rfl, sq⟩⟩
  · cases q
    simp only [Rep] at r
    obtain ⟨p, vs, e1, f, sq, rs⟩ := r
    exact ⟨rfl, p, vs, e1, rs, .inr ⟨(fun _ z => by cases z), .inl ⟨f, sq⟩⟩⟩
  · cases q
    simp only [Rep] at r
    obtain ⟨p, e1, sq⟩ := r
    exact ⟨rfl, p, _, e1, reps_ints _, .inr ⟨(fun _ z => by cases z), .inr sq⟩⟩
  · cases q
def isTup : DV → Bool
  | .tup _ => true
  | _ => false
/-- what a value is tells which of two readings holds -/
theorem split_on {A B : Type} {R : Rl A B} {k : DV → M A} {s : L2.St} {H : Hp} {Q : B → Hp → Prop} {t1 t2 : Prop} (q : RX c R (fun e => ma e >>= k) s H Q)
    (f1 : ∀ W e h, Sim c W e h s H → (∀ d h1, ma e h = .ok d h1 → isTup d = true) → Post c (R H) e s W H ((ma e >>= k) h) Q → t1)
    (f2 : ∀ W e h, Sim c W e h s H → (∀ d h1, ma e h = .ok d h1 → isTup d = false) → Post c (R H) e s W H ((ma e >>= k) h) Q → t2) : t1 ∨ t2 := by
  obtain ⟨W, e, h, S, q⟩ := q
  cases z : ma e h with
  | ok d h1 =>
    cases z2 : isTup d with
    | true => exact .inl (f1 W e h S (fun d' h' e1 => by rw [z] at e1; cases e1; exact z2) q)
    | false => exact .inr (f2 W e h S (fun d' h' e1 => by rw [z] at e1; cases e1; exact z2) q)
  | exc x h1 => exact .inl (f1 W e h S (fun d' h' e1 => by rw [z] at e1; cases e1) q)
  | bad => exact .inl (f1 W e h S (fun d' h' e1 => by rw [z] at e1; cases e1) q)
theorem bind_at {A A2 B B2 : Type} {R : Wd → Hp → A → B → Prop} {m : M A2} {k : A2 → M A} {e : En} {s : L2.St} {W : Wd} {h : HP} {H : Hp} {Q : B → Hp → Prop} (p : Post c R e s W H ((m >>= k) h) Q) {R2 : Wd → Hp → A2 → B2 → Prop} {K : B2 → Hp → Prop}
    (f : ∀ W1 H1 a b h1, m h = .ok a h1 → Step W H W1 H1 → Sim c W1 e h1 s H1 → R2 W1 H1 a b → Post c R e s W1 H1 (k a h1) Q → K b H1) : Post c R2 e s W H (m h) K := by
  rw [M.bind_def] at p
  cases q : m h with
  | ok a h1 =>
    rw [q] at p
    exact fun W' H' b t S r => f W' H' a b h1 q t S r (p.later t)
  | exc x h1 =>
    rw [q] at p
    exact p
  | bad =>
    rw [q] at p
    exact p
theorem pi_or {ex : Expr} {w1 w2 : TI} (h1 : PI X tg ex w1) (h2 : PI X tg ex w2) : PI X tg ex (fun s H R => w1 s H R ∨ w2 s H R) := ⟨fun pins s σ H R I q => q.elim (h1.run pins s σ H R I) (h2.run pins s σ H R I)⟩
/-- a list or a tuple -/
theorem i_seq (hk : X.K = c.g.K) (ha : PE X a (RE c ma)) : PI X tg a (RI c (fun e => ma e >>= itS)) := pi_imp (pi_or (pi_tup ha) (pi_list ha)) fun s H R q => by
  refine split_on q (fun W e h S ht q => ⟨W, e, h, S, bind_at q fun W1 H1 d v h1 z t S1 r q2 => ?_⟩) (fun W e h S ht q => ⟨W, e, h, S, bind_at q fun W1 H1 d v h1 z t S1 r q2 => ?_⟩)
  · have hd := ht d h1 z
    cases d with
    | tup l =>
      simp only [Rep] at r
      obtain ⟨p, vs, e1, sq, rs⟩ := r
      refine ⟨p, e1, ⟨vs, hk ▸ sq⟩, ?_⟩
      rw [hk]
      exact q2.ret S1 (wk_tup sq rs)
    | _ => cases hd
  · have hd := ht d h1 z
    cases d with
    | lst l =>
      simp only [Rep] at r
      obtain ⟨p, vs, e1, f, sq, rs⟩ := r
      refine ⟨p, e1, ⟨vs, .of sq⟩, ?_⟩
      rw [hk]
      exact q2.ret S1 (wk_list (.inl ⟨f, sq⟩) rs)
    | scr l =>
      simp only [Rep] at r
      obtain ⟨p, e1, sq⟩ := r
      refine ⟨p, e1, ⟨_, hk ▸ sq.l⟩, ?_⟩
      rw [hk]
      exact q2.ret S1 (wk_list (.inr sq) (reps_ints l))
    | tup l => cases hd
    | _ => exact q2.elim
/-- reversed(a list or a tuple) -/
def itR (d : DV) : M (List DV) := itS d >>= fun l => pure l.reverse
theorem i_rev (hk : X.K = c.g.K) (hg : Gl X "reversed") (hm : X.mg "reversed" = none) (ha : PE X a (RE c ma)) (hs : starEach [a] X.env = (false, eval a X.env) :: starEach [] X.env := by rfl) : PI X tg (.Call (.Name "reversed" p1) [a] [] pos) (RI c (fun e => ma e >>= itR)) :=
  pi_imp (RT.pi_revA hg hm ha hs) fun s H R q => RX.bind q fun W e W1 H1 d v h1 t S1 r q2 => by
    cases d with
    | tup l =>
      simp only [Rep] at r
      obtain ⟨p, vs, e1, sq, rs⟩ := r
      refine ⟨p, vs, e1, .inr ⟨hk ▸ sq, ?_⟩⟩
      rw [hk]
      exact q2.ret S1 (wk_revT sq rs)
    | lst l =>
      simp only [Rep] at r
      obtain ⟨p, vs, e1, f, sq, rs⟩ := r
      refine ⟨p, vs, e1, .inl ⟨.of sq, ?_⟩⟩
      rw [hk]
      exact q2.ret S1 (wk_rev (.inl ⟨f, sq⟩) rs)
    | scr l =>
      simp only [Rep] at r
      obtain ⟨p, e1, sq⟩ := r
      refine ⟨p, _, e1, .inl ⟨hk ▸ sq.l, ?_⟩⟩
      rw [hk]
      exact q2.ret S1 (wk_rev (.inr sq) (reps_ints l))
    | _ => exact q2.elim
/-- range(n) -/
def rng (n : Nat) : List DV := (List.range n).map fun (k : Nat) => DV.int (k : Int)
def itN (d : DV) : M (List DV) := match d with
  | .int j => if decide (-16777216 ≤ j) && decide (j ≤ 16777216) then pure (rng j.toNat) else M.bad
  | _ => M.bad
theorem rng_get {n i : Nat} {d : DV} (h : (rng n)[i]? = some d) : i < n ∧ d = .int i := by
  unfold rng at h
  rw [List.getElem?_map] at h
  cases z : (List.range n)[i]? with
  | none =>
    rw [z] at h
    cases h
  | some k =>
    rw [z] at h
    have hi := (List.getElem?_eq_some_iff.mp z).1
    rw [List.length_range] at hi
    rw [List.getElem?_range hi] at z
    cases z
    exact ⟨hi, (Option.some.inj h).symm⟩
theorem rng_len (n : Nat) : (rng n).length = n := by
  unfold rng
  rw [List.length_map, List.length_range]
theorem wk_rng {W : Wd} {H : Hp} (n : Nat) : Wk c W H (Itr 0 n) (rng n) where
  go := fun W2 H2 pr i d e => by
    obtain ⟨h1, h2⟩ := rng_get e
    refine ⟨h1, fun x H3 y => ?_⟩
    obtain ⟨y1, y2⟩ := y
    subst h2 y2
    refine .inl ⟨y1, ?_⟩
    simp only [Rep, Int.zero_add]
  st := fun W2 H2 pr => by
    show n ≤ (rng n).length
    rw [rng_len]
    exact Nat.le_refl _
theorem i_rng (hg : Gl X "range") (hm : X.mg "range" = none) (ha : PE X a (RE c ma)) (hs : starEach [a] X.env = [(false, eval a X.env)] := by rfl) : PI X tg (.Call (.Name "range" p1) [a] [] pos) (RI c (fun e => ma e >>= itN)) :=
  pi_imp (pi_range1 hg hm (pa_cons ha pa_nil hs) hs) fun s H R q => RX.bind (K := fun v H1 => ∃ j : Int, [v] = [V.int j] ∧ -(2 ^ 62) ≤ j ∧ j < 2 ^ 62 ∧ R (Itr 0 j.toNat) H1) q fun W e W1 H1 d v h1 t S1 r q2 => by
    unfold itN at q2
    split at q2
    · rename_i j
      split at q2
      · rename_i hz
        simp only [Bool.and_eq_true, decide_eq_true_eq] at hz
        simp only [Rep] at r
        exact ⟨j, by rw [r], by omega, by omega, q2.ret S1 (wk_rng _)⟩
      · exact q2.elim
    · exact q2.elim
/-- zip of two lists, of two tuples -/
def zipD (l m : List DV) : List DV := List.zipWith (fun x y => .tup [x, y]) l m
def itZ (x y : DV) : M (List DV) := if isTup x == isTup y then itS x >>= fun l => itS y >>= fun m => pure (zipD l m) else M.bad
theorem zipD_get {l m : List DV} {i : Nat} {d : DV} (h : (zipD l m)[i]? = some d) : ∃ x y, l[i]? = some x ∧ m[i]? = some y ∧ d = .tup [x, y] := by
  unfold zipD at h
  rw [List.getElem?_zipWith] at h
  cases z : l[i]? with
  | none =>
    rw [z] at h
    cases h
  | some x =>
    cases z2 : m[i]? with
    | none =>
      rw [z, z2] at h
      cases h
    | some y =>
      rw [z, z2] at h
      exact ⟨x, y, rfl, rfl, (Option.some.inj h).symm⟩
theorem zipD_len (l m : List DV) : (zipD l m).length = min l.length m.length := by
  unfold zipD
  rw [List.length_zipWith]
theorem wk_zip {W : Wd} {H : Hp} {p q : Addr} {vs ws : List V} {ds es : List DV} (f : LsF c.g.K W H p vs) (f2 : LsF c.g.K W H q ws) (r : Reps c.g W H ds vs) (r2 : Reps c.g W H es ws) : Wk c W H (Itz c.g.K p q) (zipD ds es) where
  go := fun W2 H2 pr i d e => by
    have sq : SqL c.g.K H2 p vs := pr.sqL f
    have sq2 : SqL c.g.K H2 q ws := pr.sqL f2
    obtain ⟨x, y, e1, e2, e3⟩ := zipD_get e
    obtain ⟨v, g1, rv⟩ := (r.per pr _ _).get e1
    obtain ⟨w, g2, rw'⟩ := (r2.per pr _ _).get e2
    refine ⟨⟨vs, ws, v, w, sq, sq2, g1, g2⟩, fun z H3 yl => ?_⟩
    obtain ⟨T, x', y', h1, h2, h3, h4, h5⟩ := yl
    have q1 : v = x' := some_inj2 g1 (h4 vs sq)
    have q2 : w = y' := some_inj2 g2 (h5 ws sq2)
    subst q1 q2
    exact .inr ⟨T, _, _, e3, h1, h2, h3, .cons rv (.cons rw' .nil)⟩
  st := fun W2 H2 pr => by
    refine ⟨vs, ws, pr.sqL f, pr.sqL f2, ?_⟩
    rw [zipD_len, r.len, r2.len]
    omega
theorem wk_zipT {W : Wd} {H : Hp} {p q : Addr} {vs ws : List V} {ds es : List DV} (f : SqT c.g.K H p vs) (f2 : SqT c.g.K H q ws) (r : Reps c.g W H ds vs) (r2 : Reps c.g W H es ws) : Wk c W H (RZ.ItzT c.g.K p q) (zipD ds es) where
  go := fun W2 H2 pr i d e => by
    have sq : SqT c.g.K H2 p vs := pr.sqT f
    have sq2 : SqT c.g.K H2 q ws := pr.sqT f2
    obtain ⟨x, y, e1, e2, e3⟩ := zipD_get e
    obtain ⟨v, g1, rv⟩ := (r.per pr _ _).get e1
    obtain ⟨w, g2, rw'⟩ := (r2.per pr _ _).get e2
    refine ⟨⟨vs, ws, v, w, sq, sq2, g1, g2⟩, fun z H3 yl => ?_⟩
    obtain ⟨T, x', y', h1, h2, h3, h4, h5⟩ := yl
    have q1 : v = x' := some_inj2 g1 (h4 vs sq)
    have q2 : w = y' := some_inj2 g2 (h5 ws sq2)
    subst q1 q2
    exact .inr ⟨T, _, _, e3, h1, h2, h3, .cons rv (.cons rw' .nil)⟩
  st := fun W2 H2 pr => by
    refine ⟨vs, ws, pr.sqT f, pr.sqT f2, ?_⟩
    rw [zipD_len, r.len, r2.len]
    omega
theorem i_zip (hk : X.K = c.g.K) (hg : Gl X "zip") (hm : X.mg "zip" = none) {elts : List Expr} {kk : Nat} {tpos : Pos} (ha : PE X a (RE c ma)) (hb : PE X b (RE c mb)) (he : starEach [a, b] X.env = (false, eval a X.env) :: starEach [b] X.env := by rfl) (he2 : starEach [b] X.env = (false, eval b X.env) :: starEach [] X.env := by rfl) (hpl : (backTo pos (starEach [b] X.env)).any (·.1) = false := by rfl) :
    PI X (.Tuple elts kk tpos) (.Call (.Name "zip" p1) [a, b] [] pos) (RI c (fun e => ma e >>= fun x => mb e >>= fun y => itZ x y)) :=
  pi_imp (RZ.pi_zipA hg hm (pa_cons ha (pa_cons hb pa_nil he2) he) he hpl) fun s H R q => RX.bind q fun W e W1 H1 x v h1 t S rx q2 => ⟨W1, e, h1, S, q2.bind fun W2 H2 y w h2 t2 S2 ry q3 => by
    have rx2 := stays_V.go S.hs t2 rx
    unfold itZ at q3
    split at q3
    · rename_i hz
      rw [beq_iff_eq] at hz
      cases zx : itS x h2 with
      | bad =>
        rw [M.bind_def, zx] at q3
        exact q3.elim
      | exc z h3 =>
        unfold itS at zx
        split at zx <;> cases zx
      | ok l h3 =>
        rw [M.bind_def, zx] at q3
        obtain ⟨eh, p, vs, e1, rs, cx⟩ := itS_ok S2 rx2 zx
        subst eh
        have q4 : Post c (fun W H ds J => Wk c W H J ds) e s W2 H2 ((itS y >>= fun m => pure (zipD l m)) h3) R := q3
        cases zy : itS y h3 with
        | bad =>
          rw [M.bind_def, zy] at q4
          exact q4.elim
        | exc z h4 =>
          unfold itS at zy
          split at zy <;> cases zy
        | ok m h4 =>
          rw [M.bind_def, zy] at q4
          obtain ⟨eh, p2, ws, e2, rs2, cy⟩ := itS_ok S2 ry zy
          subst eh e1 e2
          rcases cx with ⟨l2, d1, sq⟩ | ⟨d1, sq⟩
          · rcases cy with ⟨l3, d2, sq2⟩ | ⟨d2, sq2⟩
            · refine ⟨p, p2, vs, ws, rfl, .inr ⟨hk ▸ sq, hk ▸ sq2, ?_⟩⟩
              rw [hk]
              exact q4.ret S2 (wk_zipT sq sq2 rs rs2)
            · exfalso
              subst d1
              cases y with
              | tup l => exact d2 l rfl
              | _ => cases hz
          · rcases cy with ⟨l3, d2, sq2⟩ | ⟨d2, sq2⟩
            · exfalso
              subst d2
              cases x with
              | tup l => exact d1 l rfl
              | _ => cases hz
            · have s1 : SqL c.g.K H2 p vs := Per.sqL (Per.refl W2 H2) sq
              have s2 : SqL c.g.K H2 p2 ws := Per.sqL (Per.refl W2 H2) sq2
              refine ⟨p, p2, vs, ws, rfl, .inl ⟨hk ▸ s1, hk ▸ s2, ?_⟩⟩
              rw [hk]
              exact q4.ret S2 (wk_zip sq sq2 rs rs2)
    · exact q3.elim⟩
end
end LM

/-! Targets; list comprehensions. -/
namespace LM
open PySem L2

def wipeE (e : En) : List Nat → En
  | [] => e
  | v :: vs => (wipeE e vs).set v .none
section
variable {c : Cn} {W : Wd} {e : En} {h : HP} {s : L2.St} {H : Hp}
theorem Sim.wipe (S : Sim c W e h s H) : ∀ vs : List Nat, Sim c W (wipeE e vs) h (wipe s vs) H
  | [] => S
  | v :: vs => (Sim.wipe S vs).gone
theorem Sim.wipe' (S : Sim c W e h s H) : ∀ vs : List Nat, Sim c W (wipeE e vs) h s H
  | [] => S
  | v :: vs => (Sim.wipe' S vs).gone'
def Cn.nx (c : Cn) : Cn := { c with x := fun _ _ _ _ => False }
def Cn.wx (c : Cn) (x : WX) : Cn := { c with x := x }
theorem Sim.wx {x : WX} (S : Sim c W e h s H) : Sim (c.wx x) W e h s H := ⟨S.hs, S.st, S.len, S.val, S.own, S.dic, S.ne, S.exn⟩
theorem Sim.ofWx {x : WX} (S : Sim (c.wx x) W e h s H) : Sim c W e h s H := ⟨S.hs, S.st, S.len, S.val, S.own, S.dic, S.ne, S.exn⟩
theorem Sim.nx (S : Sim c W e h s H) : Sim c.nx W e h s H := ⟨S.hs, S.st, S.len, S.val, S.own, S.dic, S.ne, S.exn⟩
theorem Sim.ofNx (S : Sim c.nx W e h s H) : Sim c W e h s H := ⟨S.hs, S.st, S.len, S.val, S.own, S.dic, S.ne, S.exn⟩
end
theorem wipe_get (s : L2.St) (k : Nat) : ∀ vs : List Nat, (wipe s vs)[k]? = if k ∈ vs then (if k < s.length then some none else none) else s[k]?
  | [] => by simp [wipe]
  | v :: vs => by
    unfold wipe
    by_cases hk : v = k
    · subst hk
      rw [List.getElem?_set_self', wipe_get s v vs, if_pos (List.mem_cons_self ..)]
      by_cases hl : v < s.length
      · rw [if_pos hl]
        by_cases hm : v ∈ vs
        · rw [if_pos hm]
          rfl
        · rw [if_neg hm, List.getElem?_eq_getElem hl]
          rfl
      · rw [if_neg hl]
        by_cases hm : v ∈ vs
        · rw [if_pos hm]
          rfl
        · rw [if_neg hm, List.getElem?_eq_none (by omega)]
          rfl
    · rw [List.getElem?_set_ne hk, wipe_get s k vs]
      have : (k ∈ v :: vs) = (k ∈ vs) := by
        rw [List.mem_cons, eq_iff_iff]
        exact ⟨fun q => q.elim (fun z => absurd z.symm hk) id, .inr⟩
      simp only [this]
theorem wipe_same {s s' : L2.St} {vs sl : List Nat} (hl : s'.length = (wipe s vs).length) (hf : ∀ k, k ∉ sl → s'[k]? = (wipe s vs)[k]?) (hs : ∀ k ∈ sl, k ∈ vs) : wipe s' vs = wipe s vs := by
  apply List.ext_getElem?
  intro k
  rw [wipe_length] at hl
  rw [wipe_get, wipe_get]
  by_cases hk : k ∈ vs
  · rw [if_pos hk, if_pos hk, hl]
  · rw [if_neg hk, if_neg hk, hf k fun z => hk (hs k z), wipe_get, if_neg hk]

/-! ### targets -/
abbrev RG (c : Cn) (t : DV → En → Option En) (sl : List Nat) : TG := fun v s H Q => ∃ W e h d, Sim c W e h s H ∧ Rep c.g W H d v ∧ match t d e with
  | some e' => ∀ s', Sim c W e' h s' H → s'.length = s.length → (∀ k, k ∉ sl → s'[k]? = s[k]?) → Q s' H
  | none => False
def tName (i : Nat) : DV → En → Option En := fun d e => some (e.set i (.val d))
def setAll : List Nat → List DV → En → En
  | i :: is, d :: ds, e => setAll is ds (e.set i (.val d))
  | _, _, e => e
def tTup (is : List Nat) : DV → En → Option En := fun d e => match d with
  | .tup l => if l.length = is.length then some (setAll is l e) else none
  | _ => none
section
variable {X : Cx} {c : Cn} {pos : Pos}
theorem pg_imp {tg : Expr} {t t' : TG} (h : PG X tg t) (f : ∀ v s H Q, t' v s H Q → t v s H Q) : PG X tg t' := ⟨fun pins s σ H v u Q I r q => h.run pins s σ H v u Q I r (f v σ H Q q)⟩
theorem pgs_imp {tg : List Expr} {t t' : TGs} (h : PGs X tg t) (f : ∀ v s H Q, t' v s H Q → t v s H Q) : PGs X tg t' := ⟨fun pins s σ H v u Q I r q => h.run pins s σ H v u Q I r (f v σ H Q q)⟩
theorem g_name {i : Nat} {x : Str} (hN : X.N.Nodup) (hi : X.N[i]? = some x) (hx : Loc X.env.scope x) (hf : X.fn x = true ∨ X.env.scope.names.lookup x = some .local := by first | exact .inl rfl | exact .inr rfl) : PG X (.Name x pos) (RG c (tName i) [i]) :=
  pg_imp (pg_name hN hi hx hf) fun v s H Q q => by
    obtain ⟨W, e, h, d, S, r, q⟩ := q
    exact q _ (S.set r) (List.length_set ..) fun k hk => List.getElem?_set_ne fun z => hk (by rw [z]; exact List.mem_cons_self ..)
abbrev RGs (c : Cn) (is : List Nat) : TGs := fun vs s H Q => ∃ W e h l, Sim c W e h s H ∧ Reps c.g W H l vs ∧ l.length = is.length ∧ ∀ s', Sim c W (setAll is l e) h s' H → s'.length = s.length → (∀ k, k ∉ is → s'[k]? = s[k]?) → Q s' H
theorem gs_nil : PGs X [] (RGs c []) := pgs_imp pgs_nil fun vs s H Q q => by
  obtain ⟨W, e, h, l, S, r, hl, q⟩ := q
  cases l with
  | nil =>
    simp only [Reps] at r
    exact ⟨r, q s S rfl fun _ _ => rfl⟩
  | cons d ds => cases hl
theorem gs_cons {i : Nat} {is : List Nat} {x : Str} {es : List Expr} (hN : X.N.Nodup) (hi : X.N[i]? = some x) (hx : Loc X.env.scope x) (h2 : PGs X es (RGs c is)) (hf : X.fn x = true ∨ X.env.scope.names.lookup x = some .local := by first | exact .inl rfl | exact .inr rfl)
    (hs : (assignEach (.Name x pos :: es) X.env).map (·.2) = assign (.Name x pos) X.env :: (assignEach es X.env).map (·.2) := by rfl) : PGs X (.Name x pos :: es) (RGs c (i :: is)) :=
  pgs_imp (pgs_cons (pg_name hN hi hx hf) h2 hs) fun vs s H Q q => by
    obtain ⟨W, e, h, l, S, r, hl, q⟩ := q
    cases l with
    | nil => cases hl
    | cons d ds =>
      simp only [Reps] at r
      obtain ⟨v, vr, e1, r1, r2⟩ := r
      refine ⟨v, vr, e1, W, _, h, ds, S.set r1, r2, Nat.succ.inj hl, fun s' S' h1 h2 => q s' S' ?_ fun k hk => ?_⟩
      · rw [h1, List.length_set]
      · rw [List.mem_cons, not_or] at hk
        rw [h2 k hk.2, List.getElem?_set_ne (Ne.symm hk.1)]
theorem g_tup {es : List Expr} {k : Nat} {is : List Nat} (hk : X.K = c.g.K) (hc : X.calm = true) (h : PGs X es (RGs c is)) (hn : (assignEach es X.env).length = is.length := by rfl) (hst : (assignEach es X.env).findIdx? (·.1) = none := by rfl) :
    PG X (.Tuple es k pos) (RG c (tTup is) is) := pg_imp (pg_tup hc h hn hst) fun v s H Q q => by
  obtain ⟨W, e, h, d, S, r, q⟩ := q
  cases d with
  | tup l =>
    simp only [Rep] at r
    obtain ⟨a, vs, e1, sq, rs⟩ := r
    have q1 : (match (if l.length = is.length then some (setAll is l e) else none) with
      | some e' => ∀ s', Sim c W e' h s' H → s'.length = s.length → (∀ k, k ∉ is → s'[k]? = s[k]?) → Q s' H
      | none => False) := q
    by_cases hl : l.length = is.length
    · rw [if_pos hl] at q1
      exact ⟨a, vs, e1, hk ▸ sq, by rw [← rs.len]; exact hl, W, e, h, l, S, rs, hl, q1⟩
    · rw [if_neg hl] at q1
      exact q1.elim
  | _ => exact q.elim
end

/-! ### [e for x in xs if t] -/
def noX {A : Type} (m : M A) : M A := fun h => match m h with
  | .ok a h' => .ok a h'
  | _ => .bad
def lcL (t : DV → En → Option En) (mt : En → M Bool) (me : En → M DV) (e : En) : List DV → M (List DV)
  | [] => pure []
  | d :: ds => match t d e with
    | none => M.bad
    | some e1 => mt e1 >>= fun b => if b then me e1 >>= fun x => lcL t mt me e ds >>= fun r => pure (x :: r) else lcL t mt me e ds
def mLc (vs : List Nat) (mi : En → M (List DV)) (t : DV → En → Option En) (mt : En → M Bool) (me : En → M DV) : En → M (List DV) := fun e => mi e >>= fun ds => if ds.length ≤ LN then noX (lcL t mt me (wipeE e vs) ds) else M.bad
def mYes : En → M Bool := fun _ => pure true
section
variable {X : Cx} {c : Cn} {pos : Pos}
theorem pts_imp {ifs : List Expr} {t t' : TT} (h : PTs X ifs t) (f : ∀ s H Q, t' s H Q → t s H Q) : PTs X ifs t' := ⟨fun pins s σ H Q I q => h.run pins s σ H Q I (f σ H Q q)⟩
theorem ts_nil : PTs X [] (RT c mYes) := pts_imp pts_nil fun s H Q q => by
  obtain ⟨W, e, h, S, q⟩ := q
  exact q.ret S rfl
theorem ts_one {e : Expr} {mt : En → M Bool} (h : PT X e (RT c mt)) : PTs X [e] (RT c mt) := pts_one h
theorem own_chg {g : Glue} {W : Wd} {h : HP} {H : Hp} {D : Addr} {o o' : HO} (S : HSim g W h H) (e : H D = some o) (n1 : ¬ W.F D) (n2 : D ∉ W.r) (k1 : ∀ xs, o ≠ .tup xs) (k2 : ∀ a u, o ≠ .frz a u) : Per W H W (upd H D o') ∧ HSim g W h (upd H D o') := by
  have pr : Per W H W (upd H D o') := ⟨fun _ f => f, fun _ _ e => e, fun a f => upd_ne fun z => n1 (z ▸ f), fun a xs q => by
    rw [upd_ne fun z => ?_]
    · exact q
    · subst z
      rw [e] at q
      exact k1 xs (Option.some.inj q), fun a u w q => by
    rw [upd_ne fun z => ?_]
    · exact q
    · subst z
      rw [e] at q
      exact k2 u w (Option.some.inj q)⟩
  refine ⟨pr, S.len, S.nd, fun p ob a e1 e2 => ?_, fun a f => ?_⟩
  · obtain ⟨r, n⟩ := S.o p ob a e1 e2
    have hne : a ≠ D := fun z => n2 (z ▸ List.mem_of_getElem? e2)
    refine ⟨?_, n⟩
    cases ob with
    | lst l =>
      obtain ⟨vs, e3, r3⟩ := r
      exact ⟨vs, by rw [upd_ne hne]; exact e3, r3.per pr _ _⟩
    | obj c l =>
      obtain ⟨dx, vs, e3, e4, r3⟩ := r
      exact ⟨dx, vs, by rw [upd_ne hne]; exact e3, e4, r3.per pr _ _⟩
  · obtain ⟨u, e1⟩ := S.fs a f
    by_cases z : a = D
    · exact ⟨o', by rw [z, upd_same]⟩
    · exact ⟨u, by rw [upd_ne z]; exact e1⟩
/-- the heap at the start had no D: D may be changed -/
theorem Step.chg {W1 W : Wd} {H1 H : Hp} {D : Addr} {o' : HO} (t : Step W1 H1 W H) (hD : H1 D = none) : Step W1 H1 W (upd H D o') :=
  ⟨t.f, t.r, fun a o e n => by rw [upd_ne (ne_of_none e hD)]; exact t.k a o e n, fun a e => by
    by_cases z : a = D
    · rw [z]
      exact hD
    · rw [upd_ne z] at e
      exact t.th a e, t.nf, t.nr⟩
theorem lc_use {mi : En → M (List DV)} {t : DV → En → Option En} {mt : En → M Bool} {me : En → M DV} {vs sl : List Nat} (hsl : ∀ k ∈ sl, k ∈ vs) {s : L2.St} {H : Hp} {Q : VK} (q : RO c (mLc vs mi t mt me) s H Q) :
    tLc (RI c mi) (RG c.nx t sl) (RT c.nx mt) (RE c.nx me) vs s H Q := by
  obtain ⟨W, e, h0, S0, q⟩ := q
  refine ⟨W, e, h0, S0, bind_at q fun W1 H1 ds J h1 z t1 S1 wk q2 D hD => ?_⟩
  by_cases hz : ds.length ≤ LN
  rotate_left
  · rw [if_neg hz] at q2
    exact q2.elim
  rw [if_pos hz] at q2
  -- what the rest of the walk gives
  let PL : HP → Nat → List DV → Prop := fun hc i acc => match lcL t mt me (wipeE e vs) (ds.drop i) hc with
    | .ok r h' => Post c (rO c H) e s W1 H1 (Res.ok (acc ++ r) h') Q
    | _ => False
  let In : Nat → Nat → Hp → Prop := fun i m Hc => m = ds.length - i ∧ i ≤ ds.length ∧ ∃ Wc hc acc av, Step W1 H1 Wc Hc ∧ HSim c.g Wc hc Hc ∧ Hc D = some (.lst av) ∧ Reps c.g Wc Hc acc av ∧ acc.length ≤ i ∧ ¬ Wc.F D ∧ D ∉ Wc.r ∧ PL hc i acc
  refine ⟨In, ⟨ds.length, rfl, Nat.zero_le _, W1, h1, [], [], ?_, ?_, upd_same, .nil, Nat.le_refl _, not_F S1.hs hD, not_r S1.hs hD, ?_⟩, ?_⟩
  · exact Step.new hD
  · exact S1.hs.new hD ((Step.new hD).per S1.hs)
  · show (match lcL t mt me (wipeE e vs) (ds.drop 0) h1 with
      | .ok r h' => Post c (rO c H) e s W1 H1 (Res.ok ([] ++ r) h') Q
      | _ => False)
    rw [List.drop_zero]
    have q3 : Post c (rO c H) e s W1 H1 (noX (lcL t mt me (wipeE e vs) ds) h1) Q := q2
    unfold noX at q3
    cases z2 : lcL t mt me (wipeE e vs) ds h1 with
    | ok r h' =>
      rw [z2] at q3
      exact q3
    | exc x h' =>
      rw [z2] at q3
      exact q3
    | bad =>
      rw [z2] at q3
      exact q3
  · rintro i m Hc ⟨em, hi, Wc, hc, acc, av, tc, sc, eD, ra, la, nF, nR, pl⟩
    have pc : Per W1 H1 Wc Hc := tc.per S1.hs
    by_cases hlt : i < ds.length
    rotate_left
    · have ei : i = ds.length := by omega
      subst ei
      left
      refine ⟨wk.st Wc Hc pc, ?_⟩
      have pl2 : (match lcL t mt me (wipeE e vs) (ds.drop ds.length) hc with
        | .ok r h' => Post c (rO c H) e s W1 H1 (Res.ok (acc ++ r) h') Q
        | _ => False) := pl
      rw [List.drop_length] at pl2
      have pl3 : Post c (rO c H) e s W1 H1 (Res.ok (acc ++ []) hc) Q := pl2
      rw [List.append_nil] at pl3
      exact pl3 Wc Hc (.ref D) tc (S1.step tc sc) ⟨D, av, rfl, eD, ra, nF, nR, t1.th D hD⟩
    · right
      obtain ⟨d, ed⟩ : ∃ d, ds[i]? = some d := ⟨_, List.getElem?_eq_getElem hlt⟩
      obtain ⟨g1, g2⟩ := wk.go Wc Hc pc i d ed
      refine ⟨g1, fun H' => In (i + 1) (ds.length - (i + 1)) H', fun H' z => ⟨_, by omega, z⟩, fun x H' y => ?_⟩
      -- the item, in the heap in which it comes
      have item : Step Wc Hc Wc H' ∧ HSim c.g Wc hc H' ∧ Rep c.g Wc H' d x ∧ H' D = some (.lst av) := by
        rcases g2 x H' y with ⟨e1, r⟩ | ⟨T, us, l, e1, e2, hT, e3, r⟩
        · subst e1
          exact ⟨Step.refl _ _, sc, r, eD⟩
        · subst e1 e2 e3
          have tn : Step Wc Hc Wc (upd Hc T (.tup us)) := Step.new hT
          have pn := tn.per sc
          refine ⟨tn, sc.new hT pn, ?_, ?_⟩
          · simp only [Rep]
            exact ⟨T, us, rfl, .inl (.inl upd_same), r.per pn _ _⟩
          · rw [upd_ne (ne_of_none eD hT)]
            exact eD
      obtain ⟨t2, s2, rd, eD2⟩ := item
      have S2 : Sim c Wc e hc s H' := S1.step (tc.trans t2) s2
      have pl2 : (match lcL t mt me (wipeE e vs) (ds.drop i) hc with
        | .ok r h' => Post c (rO c H) e s W1 H1 (Res.ok (acc ++ r) h') Q
        | _ => False) := pl
      have ed2 : ds.drop i = d :: ds.drop (i + 1) := by
        rw [List.drop_eq_getElem_cons hlt]
        congr 1
        rw [List.getElem?_eq_getElem hlt] at ed
        exact Option.some.inj ed
      rw [ed2] at pl2
      refine ⟨Wc, wipeE e vs, hc, d, (S2.wipe vs).nx, rd, ?_⟩
      cases zt : t d (wipeE e vs) with
      | none =>
        unfold lcL at pl2
        rw [zt] at pl2
        exact pl2.elim
      | some e1 =>
        unfold lcL at pl2
        rw [zt] at pl2
        intro s' S3 hl hf
        refine ⟨wipe_same hl hf hsl, Wc, e1, hc, S3, ?_⟩
        have pl3 : (match ((mt e1 >>= fun b => if b then me e1 >>= fun x => lcL t mt me (wipeE e vs) (ds.drop (i + 1)) >>= fun r => pure (x :: r) else lcL t mt me (wipeE e vs) (ds.drop (i + 1))) hc) with
          | .ok r h' => Post c (rO c H) e s W1 H1 (Res.ok (acc ++ r) h') Q
          | _ => False) := pl2
        rw [M.bind_def] at pl3
        cases zm : mt e1 hc with
        | bad =>
          rw [zm] at pl3
          exact pl3.elim
        | exc x h' =>
          rw [zm] at pl3
          exact pl3.elim
        | ok b h3 =>
          rw [zm] at pl3
          intro W3 H3 b' t3 S4 eb
          have eb : b' = b := eb
          subst eb
          have eD3 : H3 D = some (.lst av) := t3.k D _ eD2 nR
          have nF3 := notF t3 eD2 nF (fun fs w => by cases w)
          have nR3 := notR t3 eD2 nR
          have t13 : Step W1 H1 W3 H3 := (tc.trans t2).trans t3
          have ra3 : Reps c.g W3 H3 acc av := (ra.per (t2.per sc) _ _).per (t3.per s2) _ _
          cases b' with
          | false =>
            refine iteF ⟨rfl, by omega, W3, h3, acc, av, t13, S4.hs, eD3, ra3, by omega, nF3, nR3, ?_⟩
            exact pl3
          | true =>
            refine iteT ⟨W3, e1, h3, S4, ?_⟩
            have pl4 : (match ((me e1 >>= fun x => lcL t mt me (wipeE e vs) (ds.drop (i + 1)) >>= fun r => pure (x :: r)) h3) with
              | .ok r h' => Post c (rO c H) e s W1 H1 (Res.ok (acc ++ r) h') Q
              | _ => False) := pl3
            rw [M.bind_def] at pl4
            cases ze : me e1 h3 with
            | bad =>
              rw [ze] at pl4
              exact pl4.elim
            | exc x h' =>
              rw [ze] at pl4
              exact pl4.elim
            | ok dx h4 =>
              rw [ze] at pl4
              intro W4 H4 yv t4 S5 ry
              have eD4 : H4 D = some (.lst av) := t4.k D _ eD3 nR3
              have nF4 := notF t4 eD3 nF3 (fun fs w => by cases w)
              have nR4 := notR t4 eD3 nR3
              have ra4 : Reps c.g W4 H4 acc av := ra3.per (t4.per S4.hs) _ _
              obtain ⟨p5, s5⟩ := own_chg (o' := .lst (av ++ [yv])) S5.hs eD4 nF4 nR4 (fun _ z => by cases z) (fun _ _ z => by cases z)
              refine ⟨av, eD4, ?_, rfl, by omega, W4, h4, acc ++ [dx], av ++ [yv], (t13.trans t4).chg hD, s5, upd_same, (ra4.per p5 _ _).app (.cons (Rep.per p5 _ _ ry) .nil), ?_, nF4, nR4, ?_⟩
              · rw [← ra.len, line_LN]
                show acc.length < LN
                omega
              · rw [List.length_append]
                show acc.length + 1 ≤ i + 1
                omega
              · have pl5 : (match ((lcL t mt me (wipeE e vs) (ds.drop (i + 1)) >>= fun r => pure (dx :: r)) h4) with
                  | .ok r h' => Post c (rO c H) e s W1 H1 (Res.ok (acc ++ r) h') Q
                  | _ => False) := pl4
                rw [M.bind_def] at pl5
                show (match lcL t mt me (wipeE e vs) (ds.drop (i + 1)) h4 with
                  | .ok r h' => Post c (rO c H) e s W1 H1 (Res.ok ((acc ++ [dx]) ++ r) h') Q
                  | _ => False)
                cases zr : lcL t mt me (wipeE e vs) (ds.drop (i + 1)) h4 with
                | bad =>
                  rw [zr] at pl5
                  exact pl5
                | exc x h' =>
                  rw [zr] at pl5
                  exact pl5
                | ok r h5 =>
                  rw [zr] at pl5
                  have pl6 : Post c (rO c H) e s W1 H1 (Res.ok (acc ++ (dx :: r)) h5) Q := pl5
                  show Post c (rO c H) e s W1 H1 (Res.ok ((acc ++ [dx]) ++ r) h5) Q
                  rw [List.append_assoc]
                  exact pl6
theorem c_lc {elt tg iter : Expr} {ifs : List Expr} {scope : Scope} {own : List (Str × Nat)} {mi : En → M (List DV)} {t : DV → En → Option En} {mt : En → M Bool} {me : En → M DV} {sl : List Nat} (hc : X.calm = true) (hN : X.N.Nodup) (hi : PI X tg iter (RI c mi)) (ok : BlkOk X.N X.env.scope scope own)
    (hg : ∀ (s : Shared) (H : Hp) (C : Addr) (cl : List (Str × Addr)) (fp : List Addr), PG (X.blk s H scope (compEnvC scope cl C X.env) fp) tg (RG c.nx t sl)) (ht : ∀ (s : Shared) (H : Hp) (C : Addr) (cl : List (Str × Addr)) (fp : List Addr), PTs (X.blk s H scope (compEnvC scope cl C X.env) fp) ifs (RT c.nx mt))
    (he : ∀ (s : Shared) (H : Hp) (C : Addr) (cl : List (Str × Addr)) (fp : List Addr), PE (X.blk s H scope (compEnvC scope cl C X.env) fp) elt (RE c.nx me)) (hsl : ∀ k ∈ sl, k ∈ own.map (·.2) := by decide) (hs : ∀ x, foldedSetIterable iter X.env x = pure x := by intro _; rfl) :
    PE X (.ListComp elt [⟨tg, iter, ifs, 0⟩] scope pos) (RO c (mLc (own.map (·.2)) mi t mt me)) := pe_imp (pe_lc hc hN hi ok hg ht he hs) fun s H Q q => lc_use hsl q
end
end LM

/-! Statements; defs. -/
namespace LM
open PySem L2

inductive SRes where
  | nx (e : En) (h : HP)
  | rt (d : DV) (h : HP)
  | bk (e : En) (h : HP)
  | ct (e : En) (h : HP)
  | exc (x : Ex) (e : En) (h : HP)
  | bad
abbrev Stm := En → HP → SRes
def PostS (c : Cn) (W : Wd) (H : Hp) (r : SRes) (D : Ends) : Prop := match r with
  | .nx e' h' => ∀ W' s' H', Per W H W' H' → Sim c W' e' h' s' H' → D.nx s' H'
  | .bk e' h' => ∀ W' s' H', Per W H W' H' → Sim c W' e' h' s' H' → D.bk s' H'
  | .ct e' h' => ∀ W' s' H', Per W H W' H' → Sim c W' e' h' s' H' → D.ct s' H'
  | .rt d h' => ∀ W' H' v, Step c.W0 c.H0 W' H' → HSim c.g W' h' H' → Rep c.g W' H' d v → D.rt v H'
  | .exc x e' h' => ∀ W' s' H' cls dd, Per W H W' H' → Sim c W' e' h' s' H' → XRep c.g W' H' x cls dd → c.x cls dd s' H'
  | .bad => False
def RS (c : Cn) (m : Stm) : TS := fun D s H => ∃ W e h, Sim c W e h s H ∧ PostS c W H (m e h) D
theorem PostS.later {c : Cn} {W W1 : Wd} {H H1 : Hp} {r : SRes} {D : Ends} (q : PostS c W H r D) (p : Per W H W1 H1) : PostS c W1 H1 r D := by
  cases r with
  | nx e h => exact fun W' s' H' p' => q W' s' H' (p.trans p')
  | bk e h => exact fun W' s' H' p' => q W' s' H' (p.trans p')
  | ct e h => exact fun W' s' H' p' => q W' s' H' (p.trans p')
  | rt d h => exact q
  | exc x e h => exact fun W' s' H' cls dd p' => q W' s' H' cls dd (p.trans p')
  | bad => exact q
def sBind {A : Type} (m : En → M A) (k : A → Stm) : Stm := fun e h => match m e h with
  | .ok a h' => k a e h'
  | .exc x h' => .exc x e h'
  | .bad => .bad
theorem sb_at {A B : Type} {c : Cn} {m : En → M A} {k : A → Stm} {W : Wd} {e : En} {h : HP} {s : L2.St} {H : Hp} {D : Ends} (S : Sim c W e h s H) (q : PostS c W H (sBind m k e h) D) {R : Rl A B} {K : B → Hp → Prop}
    (f : ∀ W1 H1 a b h1, Step W H W1 H1 → Sim c W1 e h1 s H1 → R H W1 H1 a b → PostS c W1 H1 (k a e h1) D → K b H1) : Post c (R H) e s W H (m e h) K := by
  unfold sBind at q
  cases z : m e h with
  | ok a h1 =>
    rw [z] at q
    exact fun W' H' b t S' r => f W' H' a b h1 t S' r (q.later (t.per S.hs))
  | exc x h1 =>
    rw [z] at q
    exact fun W' H' cls dd t S' r => q W' s H' cls dd (t.per S.hs) S' r
  | bad =>
    rw [z] at q
    exact q
theorem sb_use {A B : Type} {c : Cn} {m : En → M A} {k : A → Stm} {s : L2.St} {H : Hp} {D : Ends} (q : RS c (sBind m k) D s H) {R : Rl A B} {K : B → Hp → Prop}
    (f : ∀ W e W1 H1 a b h1, Step W H W1 H1 → Sim c W1 e h1 s H1 → R H W1 H1 a b → PostS c W1 H1 (k a e h1) D → K b H1) : RX c R m s H K := by
  obtain ⟨W, e, h, S, q⟩ := q
  exact ⟨W, e, h, S, sb_at S q fun W1 H1 a b h1 t S1 r q2 => f W e W1 H1 a b h1 t S1 r q2⟩
theorem PostS.nx {c : Cn} {W : Wd} {e : En} {h : HP} {s : L2.St} {H : Hp} {D : Ends} (q : PostS c W H (.nx e h) D) (S : Sim c W e h s H) : D.nx s H := q W s H (Per.refl _ _) S

/-! ### own slots -/
section
variable {c : Cn} {W : Wd} {e : En} {h : HP} {s : L2.St} {H : Hp} {i : Nat} {a : Addr}
/-- what a slot owns, at a -/
def Own (c : Cn) (W : Wd) (H : Hp) (x : Slot) (a : Addr) : Prop := (match x with
  | .own l => ∃ vs, H a = some (.lst vs) ∧ Reps c.g W H l vs
  | .dic ks l => ∃ vs, H a = some (.dK ((ks.map Sum.inl).zip vs)) ∧ ks.length = vs.length ∧ Reps c.g W H l vs
  | _ => False) ∧ ¬ W.F a ∧ a ∉ W.r ∧ c.H0 a = none
theorem Sim.ownAt {x : Slot} (S : Sim c W e h s H) (e1 : e[i]? = some x) (o : x.isOwn = true) : ∃ a, s[i]? = some (some (.ref a)) ∧ Own c W H x a := by
  cases x with
  | own l =>
    obtain ⟨a, vs, e2, e3, r, n⟩ := S.own i l e1
    exact ⟨a, e2, ⟨vs, e3, r⟩, n⟩
  | dic ks l =>
    obtain ⟨a, vs, e2, e3, z, r, n⟩ := S.dic i ks l e1
    exact ⟨a, e2, ⟨vs, e3, z, r⟩, n⟩
  | none => cases o
  | exn y => cases o
  | val d => cases o
/-- slot i holds what it owns, all else as it was -/
theorem Sim.owned {W' : Wd} {H' : Hp} {x : Slot} {s' : L2.St} (S : Sim c W e h s H) (hs : HSim c.g W' h H') (st : Step c.W0 c.H0 W' H') (p : Per W H W' H') (ho : ∀ b o, H b = some o → b ≠ a → H' b = some o) (hf : ∀ b, W'.F b → W.F b) (hr : W'.r = W.r) (o : Own c W' H' x a) (hx : x.isOwn = true)
    (hn : ∀ (j : Nat) (y : Slot), j ≠ i → e[j]? = some y → y.isOwn = true → s[j]? ≠ some (some (.ref a))) (hl : s'.length = s.length) (h1 : i < s.length → s'[i]? = some (some (.ref a))) (h2 : ∀ j, j ≠ i → s'[j]? = s[j]?) : Sim c W' (e.set i x) h s' H' := by
  have at_i : ∀ y, (e.set i x)[i]? = some y → y = x ∧ s'[i]? = some (some (.ref a)) := fun y e1 => by
    have hi : i < e.length := by
      have q := (List.getElem?_eq_some_iff.mp e1).1
      rwa [List.length_set] at q
    rw [List.getElem?_set_self hi] at e1
    exact ⟨(Option.some.inj e1).symm, h1 (by rw [← S.len]; exact hi)⟩
  refine ⟨hs, st, by rw [List.length_set, hl]; exact S.len, fun j d e1 => ?_, fun j l e1 => ?_, fun j ks l e1 => ?_, fun j k b y z e1 o1 e2 o2 e3 e4 => ?_, fun j y e1 => ?_⟩
  · by_cases hj : j = i
    · subst hj
      obtain ⟨q, _⟩ := at_i _ e1
      rw [← q] at hx
      cases hx
    · rw [List.getElem?_set_ne (Ne.symm hj)] at e1
      obtain ⟨v, e2, r⟩ := S.val j d e1
      exact ⟨v, by rw [h2 j hj, e2], r.per p _ _⟩
  · by_cases hj : j = i
    · subst hj
      obtain ⟨q, q2⟩ := at_i _ e1
      subst q
      obtain ⟨⟨vs, o1, o2⟩, o3⟩ := o
      exact ⟨a, vs, q2, o1, o2, o3⟩
    · rw [List.getElem?_set_ne (Ne.symm hj)] at e1
      obtain ⟨b, vs, e2, e3, r, n1, n2, n3⟩ := S.own j l e1
      have hb : b ≠ a := fun z => hn j _ hj e1 rfl (z ▸ e2)
      exact ⟨b, vs, by rw [h2 j hj, e2], ho b _ e3 hb, r.per p _ _, fun f => n1 (hf b f), by rw [hr]; exact n2, n3⟩
  · by_cases hj : j = i
    · subst hj
      obtain ⟨q, q2⟩ := at_i _ e1
      subst q
      obtain ⟨⟨vs, o1, o2, o4⟩, o3⟩ := o
      exact ⟨a, vs, q2, o1, o2, o4, o3⟩
    · rw [List.getElem?_set_ne (Ne.symm hj)] at e1
      obtain ⟨b, vs, e2, e3, w, r, n1, n2, n3⟩ := S.dic j ks l e1
      have hb : b ≠ a := fun z => hn j _ hj e1 rfl (z ▸ e2)
      exact ⟨b, vs, by rw [h2 j hj, e2], ho b _ e3 hb, w, r.per p _ _, fun f => n1 (hf b f), by rw [hr]; exact n2, n3⟩
  · have key : ∀ (j : Nat) (y : Slot), (e.set i x)[j]? = some y → y.isOwn = true → s'[j]? = some (some (.ref b)) → (j = i ∧ b = a) ∨ (j ≠ i ∧ e[j]? = some y ∧ s[j]? = some (some (.ref b))) := fun j y e1 o1 e3 => by
      by_cases hj : j = i
      · subst hj
        obtain ⟨q, q2⟩ := at_i _ e1
        rw [q2] at e3
        left
        exact ⟨rfl, (V.ref.inj (Option.some.inj (Option.some.inj e3))).symm⟩
      · rw [List.getElem?_set_ne (Ne.symm hj)] at e1
        rw [h2 j hj] at e3
        exact .inr ⟨hj, e1, e3⟩
    rcases key j y e1 o1 e3 with ⟨k1, k2⟩ | ⟨k1, k2, k3⟩
    · rcases key k z e2 o2 e4 with ⟨l1, l2⟩ | ⟨l1, l2, l3⟩
      · rw [k1, l1]
      · rw [k2] at l3
        exact absurd l3 (hn k z l1 l2 o2)
    · rcases key k z e2 o2 e4 with ⟨l1, l2⟩ | ⟨l1, l2, l3⟩
      · rw [l2] at k3
        exact absurd k3 (hn j y k1 k2 o1)
      · exact S.ne j k b y z k2 o1 l2 o2 k3 l3
  · by_cases hj : j = i
    · subst hj
      obtain ⟨q, _⟩ := at_i _ e1
      rw [← q] at hx
      cases hx
    · rw [List.getElem?_set_ne (Ne.symm hj)] at e1
      obtain ⟨b, cls, dd, e2, e3, r⟩ := S.exn j y e1
      exact ⟨b, cls, dd, e2, by rw [h2 j hj, e3], r.per p⟩
/-- a new list into slot i -/
theorem Sim.setOwn {W1 : Wd} {H1 : Hp} {h1 : HP} {l : List DV} {v : V} (S : Sim c W e h s H) (t : Step W H W1 H1) (S1 : Sim c W1 e h1 s H1) (o : rO c H W1 H1 l v) : Sim c W1 (e.set i (.own l)) h1 (s.set i (some v)) H1 := by
  obtain ⟨a, vs, e1, e2, r, n1, n2, n3⟩ := o
  subst e1
  refine S1.owned (a := a) S1.hs S1.st (Per.refl _ _) (fun b o e _ => e) (fun b f => f) rfl ⟨⟨vs, e2, r⟩, n1, n2, S.st.th a n3⟩ rfl (fun j y hj e3 o z => ?_) (List.length_set ..) (fun hi => List.getElem?_set_self hi) fun j hj => List.getElem?_set_ne (Ne.symm hj)
  obtain ⟨b, e4, o2⟩ := S.ownAt e3 o
  rw [z] at e4
  have eb : a = b := V.ref.inj (Option.some.inj (Option.some.inj e4))
  subst eb
  cases y with
  | own l =>
    obtain ⟨⟨vs, q, _⟩, _⟩ := o2
    rw [n3] at q
    cases q
  | dic ks l =>
    obtain ⟨⟨vs, q, _⟩, _⟩ := o2
    rw [n3] at q
    cases q
  | none => cases o
  | exn y => cases o
  | val d => cases o
/-- what slot i owns is changed -/
theorem Sim.chgOwn {x y : Slot} {o o' : HO} (S : Sim c W e h s H) (e1 : e[i]? = some x) (hx : x.isOwn = true) (e2 : s[i]? = some (some (.ref a))) (ea : H a = some o) (k1 : ∀ xs, o ≠ .tup xs) (k2 : ∀ a u, o ≠ .frz a u) (n : ¬ W.F a ∧ a ∉ W.r ∧ c.H0 a = none) (hy : y.isOwn = true)
    (new : Per W H W (upd H a o') → Own c W (upd H a o') y a) : Sim c W (e.set i y) h s (upd H a o') ∧ Per W H W (upd H a o') := by
  obtain ⟨p, hs⟩ := own_chg (o' := o') S.hs ea n.1 n.2.1 k1 k2
  refine ⟨S.owned (a := a) hs (S.st.chg n.2.2) p (fun b u q hb => by rw [upd_ne hb]; exact q) (fun b f => f) rfl (new p) hy (fun j z hj e3 oz e4 => ?_) rfl (fun hi => e2) (fun j _ => rfl), p⟩
  exact hj (S.ne j i a z x e3 oz e1 hx e4 e2)
end

/-! ### small statements -/
def sNext : Stm := fun e h => .nx e h
def sSeq (a b : Stm) : Stm := fun e h => match a e h with
  | .nx e' h' => b e' h'
  | r => r
def sSet (i : Nat) (m : En → M DV) : Stm := sBind m fun d e h => .nx (e.set i (.val d)) h
def sSetO (i : Nat) (m : En → M (List DV)) : Stm := sBind m fun l e h => .nx (e.set i (.own l)) h
def sRet (m : En → M DV) : Stm := sBind m fun d _ h => .rt d h
def sRetN : Stm := fun _ h => .rt .non h
def sExpr (m : En → M DV) : Stm := sBind m fun _ e h => .nx e h
def sIf (t : En → M Bool) (a b : Stm) : Stm := sBind t fun x e h => if x then a e h else b e h
section
variable {X : Cx} {c : Cn} {pos : Pos} {st : Stmt} {rest : List Stmt} {a b : Stm} {ex : Expr} {m : En → M DV}
theorem s_nil : PSs X [] (RS c sNext) := pss_imp pss_nil fun D s H q => by
  obtain ⟨W, e, h, S, q⟩ := q
  exact q.nx S
theorem s_pass : PS X (.Pass pos) (RS c sNext) := ps_imp ps_pass fun D s H q => by
  obtain ⟨W, e, h, S, q⟩ := q
  exact q.nx S
theorem seq_use {D : Ends} {s : L2.St} {H : Hp} (q : RS c (sSeq a b) D s H) : RS c a { D with nx := RS c b D } s H := by
  obtain ⟨W, e, h, S, q⟩ := q
  refine ⟨W, e, h, S, ?_⟩
  unfold sSeq at q
  cases z : a e h with
  | nx e' h' =>
    rw [z] at q
    exact fun W' s' H' p S' => ⟨W', e', h', S', q.later p⟩
  | _ =>
    rw [z] at q
    exact q
theorem s_cons (h1 : PS X st (RS c a)) (h2 : PSs X rest (RS c b)) : PSs X (st :: rest) (RS c (sSeq a b)) := pss_imp (pss_cons h1 h2) fun D s H q => seq_use q
theorem s_one (h1 : PS X st (RS c a)) : PSs X [st] (RS c a) := pss_one h1
theorem s_set {i : Nat} {x : Str} {pos' : Pos} (hN : X.N.Nodup) (hi : X.N[i]? = some x) (hx : Loc X.env.scope x) (he : PE X ex (RE c m)) (hs : swapsWith ex (some (.Name x pos')) pos.line X.env = pure false := by rfl) (hf : X.fn x = true ∨ X.env.scope.names.lookup x = some .local := by first | exact .inl rfl | exact .inr rfl | assumption) :
    PS X (.Assign [.Name x pos'] ex pos) (RS c (sSet i m)) := ps_imp (ps_set hN hi hx he hs hf) fun D s H q =>
  sb_use q fun W e W1 H1 d v h1 t S r q2 => q2.nx (S.set r)
theorem s_setO {i : Nat} {x : Str} {pos' : Pos} {m : En → M (List DV)} (hN : X.N.Nodup) (hi : X.N[i]? = some x) (hx : Loc X.env.scope x) (he : PE X ex (RO c m)) (hs : swapsWith ex (some (.Name x pos')) pos.line X.env = pure false := by rfl) (hf : X.fn x = true ∨ X.env.scope.names.lookup x = some .local := by first | exact .inl rfl | exact .inr rfl | assumption) :
    PS X (.Assign [.Name x pos'] ex pos) (RS c (sSetO i m)) := ps_imp (ps_set hN hi hx he hs hf) fun D s H q => by
  obtain ⟨W, e, h, S0, q⟩ := q
  exact ⟨W, e, h, S0, sb_at S0 q fun W1 H1 l v h1 t S r q2 => q2.nx (S0.setOwn t S r)⟩
theorem s_ret (he : PE X ex (RE c m)) : PS X (.Return (some ex) pos) (RS c (sRet m)) := ps_imp (ps_ret he) fun D s H q =>
  sb_use q fun W e W1 H1 d v h1 t S r q2 => q2 W1 H1 v S.st S.hs r
theorem s_retN : PS X (.Return none pos) (RS c sRetN) := ps_imp ps_retN fun D s H q => by
  obtain ⟨W, e, h, S, q⟩ := q
  exact q W H .non S.st S.hs (by simp only [Rep])
theorem s_expr (he : PE X ex (RE c m)) (hs : swapsWith ex none pos.line X.env = pure false := by rfl) : PS X (.Expr ex pos) (RS c (sExpr m)) := ps_imp (ps_expr he hs) fun D s H q =>
  sb_use q fun W e W1 H1 d v h1 t S r q2 => q2.nx S
theorem s_if {t : En → M Bool} {sa sb : List Stmt} (ht : PT X ex (RT c t)) (ha : PSs X sa (RS c a)) (hb : PSs X sb (RS c b)) : PS X (.If ex sa sb pos) (RS c (sIf t a b)) := ps_imp (ps_if ht ha hb) fun D s H q =>
  sb_use q fun W e W1 H1 x y h1 t S r q2 => by
    have r : y = x := r
    subst r
    cases y with
    | true => exact iteT ⟨W1, e, h1, S, q2⟩
    | false => exact iteF ⟨W1, e, h1, S, q2⟩
/-- a slot's list is never changed again -/
def sFrz (i : Nat) : Stm := fun e h => match e[i]? with
  | some (.own l) => .nx (e.set i (.val (.lst l))) h
  | some (.val _) => .nx e h
  | _ => .bad
theorem frz_use {i : Nat} {D : Ends} {s : L2.St} {H : Hp} (q : RS c (sSeq (sFrz i) a) D s H) : RS c a D s H := by
  obtain ⟨W, e, h, S, q⟩ := q
  unfold sSeq sFrz at q
  cases z : e[i]? with
  | none =>
    rw [z] at q
    exact q.elim
  | some x =>
    rw [z] at q
    cases x with
    | none => exact q.elim
    | val d => exact ⟨W, e, h, S, q⟩
    | dic ks l => exact q.elim
    | exn y => exact q.elim
    | own l =>
      obtain ⟨p, vs, e2, e3, r, n1, n2, n3⟩ := S.own i l z
      have hs := S.hs.frz e3 n2
      have pr : Per W H (W.frz p) H := ⟨fun _ f => .inl f, fun _ _ e => e, fun _ _ => rfl, fun _ _ e => e, fun _ _ _ e => e⟩
      have rl : Rep c.g (W.frz p) H (.lst l) (.ref p) := by
        simp only [Rep]
        exact ⟨p, vs, rfl, .inr rfl, e3, r.per pr _ _⟩
      have nb : ∀ (j : Nat) (y : Slot), j ≠ i → e[j]? = some y → y.isOwn = true → s[j]? ≠ some (some (.ref p)) := fun j y hj e4 o e5 => hj (S.ne j i p y _ e4 o z rfl e5 e2)
      refine ⟨W.frz p, _, h, ⟨hs, S.st.frz n3, by rw [List.length_set]; exact S.len, fun j d e1 => ?_, fun j l2 e1 => ?_, fun j ks l2 e1 => ?_, fun j k b x y e1 o1 e4 o2 e5 e6 => ?_, fun j y e1 => ?_⟩, q.later pr⟩
      · by_cases hj : j = i
        · subst hj
          have hi : j < e.length := (List.getElem?_eq_some_iff.mp z).1
          rw [List.getElem?_set_self hi] at e1
          cases e1
          exact ⟨_, e2, rl⟩
        · rw [List.getElem?_set_ne (Ne.symm hj)] at e1
          obtain ⟨v, e4, r4⟩ := S.val j d e1
          exact ⟨v, e4, r4.per pr _ _⟩
      · by_cases hj : j = i
        · subst hj
          have hi : j < e.length := (List.getElem?_eq_some_iff.mp z).1
          rw [List.getElem?_set_self hi] at e1
          cases e1
        · rw [List.getElem?_set_ne (Ne.symm hj)] at e1
          obtain ⟨b, ws, e4, e5, r4, m1, m2, m3⟩ := S.own j l2 e1
          exact ⟨b, ws, e4, e5, r4.per pr _ _, fun f => f.elim m1 fun w => nb j _ hj e1 rfl (w ▸ e4), m2, m3⟩
      · by_cases hj : j = i
        · subst hj
          have hi : j < e.length := (List.getElem?_eq_some_iff.mp z).1
          rw [List.getElem?_set_self hi] at e1
          cases e1
        · rw [List.getElem?_set_ne (Ne.symm hj)] at e1
          obtain ⟨b, ws, e4, e5, w0, r4, m1, m2, m3⟩ := S.dic j ks l2 e1
          exact ⟨b, ws, e4, e5, w0, r4.per pr _ _, fun f => f.elim m1 fun w => nb j _ hj e1 rfl (w ▸ e4), m2, m3⟩
      · have back : ∀ (j : Nat) (y : Slot), (e.set i (.val (.lst l)))[j]? = some y → y.isOwn = true → e[j]? = some y := fun j y e1 oy => by
          by_cases hj : j = i
          · subst hj
            have hi : j < e.length := (List.getElem?_eq_some_iff.mp z).1
            rw [List.getElem?_set_self hi] at e1
            cases e1
            cases oy
          · rwa [List.getElem?_set_ne (Ne.symm hj)] at e1
        exact S.ne j k b x y (back j x e1 o1) o1 (back k y e4 o2) o2 e5 e6
      · by_cases hj : j = i
        · subst hj
          have hi : j < e.length := (List.getElem?_eq_some_iff.mp z).1
          rw [List.getElem?_set_self hi] at e1
          cases e1
        · rw [List.getElem?_set_ne (Ne.symm hj)] at e1
          obtain ⟨b, cls, dd, e4, e5, r4⟩ := S.exn j y e1
          exact ⟨b, cls, dd, e4, e5, r4.per pr⟩
theorem s_frz {i : Nat} (h : PS X st (RS c a)) : PS X st (RS c (sSeq (sFrz i) a)) := ps_imp h fun D s H q => frz_use q

/-! ### found.append(e), found[k] = e -/
def sApp (i : Nat) (m : En → M DV) : Stm := fun e h => match e[i]? with
  | some (.own l) => (match m e h with
    | .ok d h' => if l.length < LN then .nx (e.set i (.own (l ++ [d]))) h' else .bad
    | .exc x h' => .exc x e h'
    | .bad => .bad)
  | _ => .bad
theorem s_app {i : Nat} {x : Str} {p1 p2 p3 : Pos} (hN : X.N[i]? = some x) (hv : Vis X.env.scope x) (he : PE X ex (RE c m)) (hd : (x == ("__debug__" : Str)) = false := by decide) (hcd : (x == ("__classdict__" : Str)) = false := by decide)
    (hst : starEach (ex :: []) X.env = (false, eval ex X.env) :: starEach [] X.env := by rfl)
    (hw : PE X (.Call (.Attribute (.Name x p1) "append" p2) [ex] [] p3) (tBM X.K "list" rAppend (tVar i) (tCons (RE c m) tNil)))
    (hs : swapsWith (.Call (.Attribute (.Name x p1) "append" p2) [ex] [] p3) none pos.line X.env = pure false := by rfl) :
    PS X (.Expr (.Call (.Attribute (.Name x p1) "append" p2) [ex] [] p3) pos) (RS c (sApp i m)) := ps_imp (ps_expr hw hs) fun D s H q => by
  obtain ⟨W, e, h, S, q⟩ := q
  unfold sApp at q
  cases z : e[i]? with
  | none =>
    rw [z] at q
    exact q.elim
  | some y =>
    rw [z] at q
    cases y with
    | own l =>
      obtain ⟨a, vs, e2, e3, r, n⟩ := S.own i l z
      refine ⟨_, e2, .inl ⟨rfl, _, .inl (.inl e3)⟩, W, e, h, S, ?_⟩
      cases z2 : m e h with
      | bad =>
        rw [z2] at q
        exact q.elim
      | exc w h1 =>
        rw [z2] at q
        exact fun W' H' cls dd t S' r => q W' s H' cls dd (t.per S.hs) S' r
      | ok d h1 =>
        rw [z2] at q
        intro W1 H1 v t S1 rv
        by_cases hl : l.length < LN
        rotate_left
        · have q1 : PostS c W H (if l.length < LN then .nx (e.set i (.own (l ++ [d]))) h1 else .bad) D := q
          rw [if_neg hl] at q1
          exact q1.elim
        · have q1 : PostS c W H (if l.length < LN then .nx (e.set i (.own (l ++ [d]))) h1 else .bad) D := q
          rw [if_pos hl] at q1
          obtain ⟨a1, vs1, f2, f3, r1, n1⟩ := S1.own i l z
          rw [e2] at f2
          have ea : a = a1 := V.ref.inj (Option.some.inj (Option.some.inj f2))
          subst ea
          refine ⟨a, vs1, v, rfl, rfl, f3, by rw [← r1.len, line_LN]; exact hl, ?_⟩
          obtain ⟨S2, p2⟩ := S1.chgOwn (y := .own (l ++ [d])) (o' := .lst (vs1 ++ [v])) z rfl e2 f3 (fun _ w => by cases w) (fun _ _ w => by cases w) n1 rfl fun p => ⟨⟨_, upd_same, (r1.per p _ _).app (.cons (Rep.per p _ _ rv) .nil)⟩, n1⟩
          exact (q1.later ((t.per S.hs).trans p2)).nx S2
    | _ => exact q.elim
end
end LM

/-! Loops; defs and their calls. -/
namespace LM
open PySem L2

/-! ### for -/
def forL (t : DV → En → Option En) (body : Stm) (fg : List Nat) : List DV → Stm
  | [], e, h => .nx e h
  | d :: ds, e, h => match t d e with
    | none => .bad
    | some e1 => match body e1 h with
      | .nx e2 h2 => forL t body fg ds (wipeE e2 fg) h2
      | .ct e2 h2 => forL t body fg ds (wipeE e2 fg) h2
      | .bk e2 h2 => .nx (wipeE e2 fg) h2
      | .rt d h2 => .rt d h2
      | .exc x e2 h2 => .exc x e2 h2
      | .bad => .bad
def sFor (mi : En → M (List DV)) (t : DV → En → Option En) (fg : List Nat) (body : Stm) : Stm := sBind mi fun ds e h => forL t body fg ds (wipeE e fg) h
section
variable {X : Cx} {c : Cn} {pos : Pos}
theorem s_for {tg iter : Expr} {body : List Stmt} {mi : En → M (List DV)} {t : DV → En → Option En} {sl fg : List Nat} {b : Stm} (hp : PassesOwn (model X.prog X.w) X.A X.env X.xe) (hc : X.calm = true) (hi : PI X tg iter (RI c mi)) (hg : PG X tg (RG c t sl)) (hb : PSs X body (RS c b))
    (hs : ∀ x, foldedSetIterable iter X.env x = pure x := by intro _; rfl) : PS X (.For tg iter body [] pos) (RS c (sFor mi t fg b)) := ps_imp (ps_for hp hc hi hg hb hs) fun D s H q => by
  obtain ⟨W, e, h, S0, q⟩ := q
  refine ⟨W, e, h, S0, sb_at (R := fun _ W H ds J => Wk c W H J ds) S0 q fun W1 H1 ds J h1 t1 S1 wk q2 => ?_⟩
  refine ⟨fun i m s' Hc => m = ds.length - i ∧ i ≤ ds.length ∧ ∃ Wc ec hc, Per W1 H1 Wc Hc ∧ Sim c Wc ec hc s' Hc ∧ PostS c Wc Hc (forL t b fg (ds.drop i) ec hc) D,
    ⟨ds.length, rfl, Nat.zero_le _, W1, _, h1, Per.refl _ _, S1.wipe' fg, by rw [List.drop_zero]; exact q2⟩, ?_⟩
  rintro i m s' Hc ⟨em, hi, Wc, ec, hc, pc, Sc, q3⟩
  by_cases hlt : i < ds.length
  rotate_left
  · have ei : i = ds.length := by omega
    subst ei
    rw [List.drop_length] at q3
    exact .inl ⟨wk.st Wc Hc pc, q3.nx Sc⟩
  · right
    obtain ⟨d, ed⟩ : ∃ d, ds[i]? = some d := ⟨_, List.getElem?_eq_getElem hlt⟩
    obtain ⟨g1, g2⟩ := wk.go Wc Hc pc i d ed
    have ed2 : ds.drop i = d :: ds.drop (i + 1) := by
      rw [List.drop_eq_getElem_cons hlt]
      congr 1
      rw [List.getElem?_eq_getElem hlt] at ed
      exact Option.some.inj ed
    rw [ed2] at q3
    refine ⟨g1, fun s2 H2 => ∃ Wc ec hc, Per W1 H1 Wc H2 ∧ Sim c Wc ec hc s2 H2 ∧ PostS c Wc H2 (forL t b fg (ds.drop (i + 1)) ec hc) D, fun s2 H2 z => ⟨_, by omega, rfl, hlt, z⟩, fun x H' y => ?_⟩
    have item : Step Wc Hc Wc H' ∧ HSim c.g Wc hc H' ∧ Rep c.g Wc H' d x := by
      rcases g2 x H' y with ⟨e1, r⟩ | ⟨T, us, l, e1, e2, hT, e3, r⟩
      · subst e1
        exact ⟨Step.refl _ _, Sc.hs, r⟩
      · subst e1 e2 e3
        have tn : Step Wc Hc Wc (upd Hc T (.tup us)) := Step.new hT
        have pn := tn.per Sc.hs
        refine ⟨tn, Sc.hs.new hT pn, ?_⟩
        simp only [Rep]
        exact ⟨T, us, rfl, .inl (.inl upd_same), r.per pn _ _⟩
    obtain ⟨t2, s2, rd⟩ := item
    have p2 := t2.per Sc.hs
    refine ⟨Wc, ec, hc, d, Sc.step t2 s2, rd, ?_⟩
    unfold forL at q3
    cases zt : t d ec with
    | none =>
      rw [zt] at q3
      exact q3.elim
    | some e1 =>
      rw [zt] at q3
      intro s3 S3 _ _
      refine ⟨Wc, e1, hc, S3, ?_⟩
      have q4 : PostS c Wc H' (match b e1 hc with
        | .nx e2 h2 => forL t b fg (ds.drop (i + 1)) (wipeE e2 fg) h2
        | .ct e2 h2 => forL t b fg (ds.drop (i + 1)) (wipeE e2 fg) h2
        | .bk e2 h2 => .nx (wipeE e2 fg) h2
        | .rt d h2 => .rt d h2
        | .exc x e2 h2 => .exc x e2 h2
        | .bad => .bad) D := q3.later p2
      cases zb : b e1 hc with
      | nx e2 h2 =>
        rw [zb] at q4
        exact fun W' s' H2 p S' => ⟨W', _, h2, (pc.trans p2).trans p, S'.wipe' fg, q4.later p⟩
      | ct e2 h2 =>
        rw [zb] at q4
        exact fun W' s' H2 p S' => ⟨W', _, h2, (pc.trans p2).trans p, S'.wipe' fg, q4.later p⟩
      | bk e2 h2 =>
        rw [zb] at q4
        exact fun W' s' H2 p S' => q4 W' s' H2 p (S'.wipe' fg)
      | rt d h2 =>
        rw [zb] at q4
        exact q4
      | exc x e2 h2 =>
        rw [zb] at q4
        exact q4
      | bad =>
        rw [zb] at q4
        exact q4

/-! ### while -/
def whL (t : En → M Bool) (body : Stm) (fg : List Nat) : Nat → Stm
  | 0, _, _ => .bad
  | n + 1, e, h => match t e h with
    | .ok true h1 => (match body e h1 with
      | .nx e2 h2 => whL t body fg n (wipeE e2 fg) h2
      | .ct e2 h2 => whL t body fg n (wipeE e2 fg) h2
      | .bk e2 h2 => .nx (wipeE e2 fg) h2
      | .rt d h2 => .rt d h2
      | .exc x e2 h2 => .exc x e2 h2
      | .bad => .bad)
    | .ok false h1 => .nx e h1
    | .exc x h1 => .exc x e h1
    | .bad => .bad
def sWhile (n : Nat) (t : En → M Bool) (fg : List Nat) (body : Stm) : Stm := fun e h => whL t body fg n (wipeE e fg) h
theorem s_while {ex : Expr} {body : List Stmt} {t : En → M Bool} {b : Stm} {n : Nat} {fg : List Nat} (hp : PassesOwn (model X.prog X.w) X.A X.env X.xe) (hc : PT X ex (RT c t)) (hb : PSs X body (RS c b)) : PS X (.While ex body [] pos) (RS c (sWhile n t fg b)) := ps_imp (ps_while hp hc hb) fun D s H q => by
  obtain ⟨W, e, h, S0, q⟩ := q
  refine ⟨fun m s' Hc => ∃ Wc ec hc, Sim c Wc ec hc s' Hc ∧ PostS c Wc Hc (whL t b fg m ec hc) D, ⟨n, W, _, h, S0.wipe' fg, q⟩, ?_⟩
  rintro m s' Hc ⟨Wc, ec, hc, Sc, q3⟩
  cases m with
  | zero => exact q3.elim
  | succ m =>
    unfold whL at q3
    refine ⟨Wc, ec, hc, Sc, ?_⟩
    cases zt : t ec hc with
    | bad =>
      rw [zt] at q3
      exact q3.elim
    | exc x h1 =>
      rw [zt] at q3
      exact fun W' H' cls dd t1 S' r => q3 W' s' H' cls dd (t1.per Sc.hs) S' r
    | ok x h1 =>
      rw [zt] at q3
      intro W1 H1 y t1 S1 r
      have r : y = x := r
      subst r
      have p1 := t1.per Sc.hs
      cases y with
      | false => exact iteF ((q3.later p1).nx S1)
      | true =>
        refine iteT ⟨fun s2 H2 => ∃ Wc ec hc, Sim c Wc ec hc s2 H2 ∧ PostS c Wc H2 (whL t b fg m ec hc) D, fun s2 H2 z => ⟨m, Nat.lt_succ_self m, z⟩, W1, ec, h1, S1, ?_⟩
        have q4 : PostS c W1 H1 (match b ec h1 with
          | .nx e2 h2 => whL t b fg m (wipeE e2 fg) h2
          | .ct e2 h2 => whL t b fg m (wipeE e2 fg) h2
          | .bk e2 h2 => .nx (wipeE e2 fg) h2
          | .rt d h2 => .rt d h2
          | .exc x e2 h2 => .exc x e2 h2
          | .bad => .bad) D := q3.later p1
        cases zb : b ec h1 with
        | nx e2 h2 =>
          rw [zb] at q4
          exact fun W' s' H2 p S' => ⟨W', _, h2, S'.wipe' fg, q4.later p⟩
        | ct e2 h2 =>
          rw [zb] at q4
          exact fun W' s' H2 p S' => ⟨W', _, h2, S'.wipe' fg, q4.later p⟩
        | bk e2 h2 =>
          rw [zb] at q4
          exact fun W' s' H2 p S' => q4 W' s' H2 p (S'.wipe' fg)
        | rt d h2 =>
          rw [zb] at q4
          exact q4
        | exc x e2 h2 =>
          rw [zb] at q4
          exact q4
        | bad =>
          rw [zb] at q4
          exact q4
end

/-! ### defs -/
def PostF (g : Glue) (W : Wd) (H : Hp) (r : Res DV) (Q : VK) (E : XK) : Prop := match r with
  | .ok d h' => ∀ W' H' v, Step W H W' H' → HSim g W' h' H' → Rep g W' H' d v → Q v H'
  | .exc x h' => ∀ W' H' cls dd, Step W H W' H' → HSim g W' h' H' → XRep g W' H' x cls dd → E cls dd H'
  | .bad => False
/-- a def's promise by its mirror -/
def spF (g : Glue) (n : Nat) (m : List DV → M DV) : Sp := fun vs H Q E => ∃ W h ds, HSim g W h H ∧ Reps g W H ds vs ∧ ds.length = n ∧ PostF g W H (m ds h) Q E
def fnM (N : Nat) (body : Stm) : List DV → M DV := fun ds h => match body (ds.map .val ++ List.replicate (N - ds.length) .none) h with
  | .nx _ h' => .ok .non h'
  | .rt d h' => .ok d h'
  | .exc x _ h' => .exc x h'
  | _ => .bad
theorem sim_start {g : Glue} {W : Wd} {h : HP} {H : Hp} {ds : List DV} {vs : List V} {N : List Str} {x : WX} (hs : HSim g W h H) (r : Reps g W H ds vs) : Sim ⟨g, W, H, x, none⟩ W (ds.map .val ++ List.replicate (N.length - ds.length) .none) h (L2.start N vs) H := by
  have own0 : ∀ (i : Nat) (y : Slot), (ds.map Slot.val ++ List.replicate (N.length - ds.length) Slot.none)[i]? = some y → y.isOwn = false := fun i y e => by
    rw [List.getElem?_append] at e
    split at e
    · rw [List.getElem?_map] at e
      cases z : ds[i]? with
      | none =>
        rw [z] at e
        cases e
      | some d =>
        rw [z] at e
        cases e
        rfl
    · rw [List.getElem?_replicate] at e
      split at e
      · cases e
        rfl
      · cases e
  refine ⟨hs, Step.refl _ _, ?_, fun i d e => ?_, fun i l e => ?_, fun i ks l e => ?_, fun i j a y z e1 o1 => ?_, fun i x e => ?_⟩
  · unfold L2.start
    rw [List.length_append, List.length_append, List.length_map, List.length_map, List.length_replicate, List.length_replicate, r.len]
  · rw [List.getElem?_append] at e
    split at e
    · rename_i hi
      rw [List.length_map] at hi
      rw [List.getElem?_map] at e
      cases z : ds[i]? with
      | none =>
        rw [z] at e
        cases e
      | some d' =>
        rw [z] at e
        cases e
        obtain ⟨v, e2, rv⟩ := r.get z
        refine ⟨v, ?_, rv⟩
        unfold L2.start
        rw [List.getElem?_append_left (by rw [List.length_map, ← r.len]; exact hi), List.getElem?_map, e2]
        rfl
    · rw [List.getElem?_replicate] at e
      split at e <;> cases e
  · have := own0 i _ e
    cases this
  · have := own0 i _ e
    cases this
  · rw [own0 i y e1] at o1
    cases o1
  · exfalso
    rw [List.getElem?_append] at e
    split at e
    · rw [List.getElem?_map] at e
      cases z : ds[i]? with
      | none =>
        rw [z] at e
        cases e
      | some d =>
        rw [z] at e
        cases e
    · rw [List.getElem?_replicate] at e
      split at e <;> cases e

/-- the world of a law -/
structure Tp where
  P : Program
  w : World
  mg : Str → Option Value
  base : Heap
  g : Glue
/-- where an expression stands -/
structure XEx (T : Tp) (X : Cx) (c : Cn) (N : List Str) (k : Nat) (sc : Scope) : Prop where
  pp : X.prog = T.P
  pw : X.w = T.w
  pk : X.K = T.g.K
  pm : X.mg = T.mg
  pb : X.base = T.base
  pg : c.g = T.g
  nm : X.N = N
  nd : N.Nodup
  sc : X.env.scope = sc
  calm : X.calm = true
  room : Room k X.A
  tk : L2N.Takes X c.x
/-- where a statement stands -/
structure XSt (T : Tp) (X : Cx) (c : Cn) (N : List Str) (k : Nat) (sc : Scope) : Prop where
  e : XEx T X c N k sc
  pa : PassesOwn (model X.prog X.w) X.A X.env X.xe
  fn : X.fn = fun _ => true
  st : X.stack = X.env :: X.outer
  fr : X.env.frame = some X.env.locals
/-- .. within a comprehension's block -/
structure XBl (T : Tp) (X : Cx) (c : Cn) (N : List Str) (k : Nat) (sc bs : Scope) : Prop where
  e : XEx T X c N k sc
  fn : X.fn = fun x => bs.names.lookup x == some .cell
section
variable {T : Tp} {X : Cx} {c : Cn} {N : List Str} {k : Nat} {sc : Scope}
theorem XEx.u (h : XEx T X c N k sc) : X.A.units + 64 < cLine := h.room.units
theorem XEx.kk (h : XEx T X c N k sc) : X.K = c.g.K := by rw [h.pk, h.pg]
theorem XEx.blk (h : XEx T X c N k sc) (s : Shared) (H : Hp) (bs : Scope) (C : Addr) (cl : List (Str × Addr)) (fp : List Addr) : XBl T (X.blk s H bs (compEnvC bs cl C X.env) fp) c.nx N k (relS bs sc) bs :=
  ⟨⟨h.pp, h.pw, h.pk, h.pm, h.pb, h.pg, h.nm, h.nd, by rw [← h.sc]; rfl, h.calm, h.room, fun u s' x => by
    obtain ⟨_, _, _, _, _, _, _, _, _, _, _, _, _, _, _, _, z⟩ := x
    exact z.elim⟩, rfl⟩
end
/-- what is known of a def that is called -/
structure Fo (T : Tp) (x : Str) (id k n : Nat) (m : List DV → M DV) : Prop where
  gl : T.mg x = some (.ref (T.g.fA id))
  kp : PySem.W.keepIn T.g.K (.ref (T.g.fA id)) = true
  ex : ∃ fd ps, Binds T.g.K fd ps [] ∧ FnOk T.P T.w T.g.K T.mg T.base (L2N.CX T.P T.w) k (T.g.fA id) fd ps (spF T.g n m)
theorem Fo.mono {T : Tp} {x : Str} {id j k n : Nat} {m : List DV → M DV} (F : Fo T x id j n m) (h : j ≤ k) : Fo T x id k n m := by
  obtain ⟨fd, ps, b, f⟩ := F.ex
  exact ⟨F.gl, F.kp, fd, ps, b, f.mono h⟩
theorem fn_rule {T : Tp} {x qual : Str} {params : Arguments} {body : List Stmt} {scope : Scope} {kws : List (Str × V)} {f : Addr} {fd : FuncData} {N ps : List Str} {k : Nat} {m : Stm} (F : FunD T.g.K x qual params body scope [] kws f fd) (S : FnScope N ps scope)
    (hb : ∀ (X : Cx) (c : Cn), XSt T X c N k scope → PSs X body (RS c m)) : FnOk T.P T.w T.g.K T.mg T.base (L2N.CX T.P T.w) (k + 1) f fd ps (spF T.g ps.length (fnM N.length m)) := by
  refine F.ok S (fun vs H Q E h => ?_) fun cdv A outer s H vs Q E hr h => ?_
  · obtain ⟨W, hh, ds, _, r, e, _⟩ := h
    rw [← e, r.len]
  · obtain ⟨W, hh, ds, hs, r, e, q⟩ := h
    refine ⟨RS ⟨T.g, W, H, fun cls d _ H' => E cls d H', none⟩ m, hb _ ⟨T.g, W, H, fun cls d _ H' => E cls d H', none⟩ ⟨⟨rfl, rfl, rfl, rfl, rfl, rfl, rfl, S.nd, rfl, rfl, hr, L2N.takes_of rfl rfl rfl rfl⟩, passes_of rfl, rfl, rfl, rfl⟩, W, _, hh, sim_start hs r, ?_⟩
    unfold fnM at q
    generalize m (ds.map .val ++ List.replicate (N.length - ds.length) .none) hh = z at q ⊢
    cases z with
    | nx e' h' => exact fun W' s' H' _ S' => q W' H' .non S'.st S'.hs (by simp only [Rep])
    | rt d h' => exact q
    | bk e' h' => exact q.elim
    | ct e' h' => exact q.elim
    | exc x e' h' => exact fun W' s' H' cls dd _ S' r => q W' H' cls dd S'.st S'.hs r
    | bad => exact q
section
variable {T : Tp} {X : Cx} {c : Cn} {N : List Str} {k : Nat} {sc : Scope} {pos p1 : Pos} {ex : Expr} {es : List Expr} {n : Nat}
/-- f(e, ..) -/
def eCall (m : List DV → M DV) (ms : En → M (List DV)) : En → M DV := fun e => ms e >>= m
theorem Fo.at (hX : XEx T X c N k sc) {x : Str} {id j : Nat} {m : List DV → M DV} (F : Fo T x id j n m) : X.mg x = some (.ref (c.g.fA id)) ∧ PySem.W.keepIn X.K (.ref (c.g.fA id)) = true ∧ ∃ fd ps, Binds X.K fd ps [] ∧ FnOk X.prog X.w X.K X.mg X.base (L2N.CX X.prog X.w) j (c.g.fA id) fd ps (spF c.g n m) := by
  rw [hX.pp, hX.pw, hX.pk, hX.pm, hX.pb, hX.pg]
  exact ⟨F.gl, F.kp, F.ex⟩
theorem call_use {m : List DV → M DV} {ms : En → M (List DV)} {s : L2.St} {H : Hp} {Q : VK} (q : RE c (eCall m ms) s H Q) : RX c (rVs c n) ms s H fun vs H1 => spF c.g n m (vs ++ []) H1 Q (WE c.x s) := RX.bind q fun W e W1 H1 ds vs h1 t S r q2 => by
  rw [List.append_nil]
  refine ⟨W1, h1, ds, S.hs, r.1, r.2, ?_⟩
  generalize m ds h1 = z at q2 ⊢
  cases z with
  | ok d h' => exact fun W' H' v t' hs' r' => q2 W' H' v t' (S.step t' hs') r'
  | exc x h' => exact fun W' H' cls dd t' hs' r' => q2 W' H' cls dd t' (S.step t' hs') r'
  | bad => exact q2
theorem c_call {x : Str} {id j : Nat} {m : List DV → M DV} {ms : En → M (List DV)} (hX : XEx T X c N k sc) (F : Fo T x id j n m) (hj : j ≤ k) (hg : Gl X x) (ha : PA X (ex :: es) (RA c n ms))
    (hdb : (x == ("__debug__" : Str)) = false := by decide) (he : starEach (ex :: es) X.env = (false, eval ex X.env) :: starEach es X.env := by rfl) (hpl : (backTo pos (starEach es X.env)).any (·.1) = false := by rfl) :
    PE X (.Call (.Name x p1) (ex :: es) [] pos) (RE c (eCall m ms)) := by
  obtain ⟨gl, kp, fd, ps, b, f⟩ := F.at hX
  exact pe_imp (pe_callSD f (hX.room.mono hj) hg gl kp b .nil (fun s => L2N.passAt hX.tk s) ha hdb he hpl) fun s H Q q => call_use q
end
end LM

/-! Sums, products of lists; more statements; what is known of names. -/
namespace LM
open PySem L2

section
variable {T : Tp} {X : Cx} {c : Cn} {N : List Str} {k : Nat} {sc : Scope} {x : Str} {i : Nat}
theorem XEx.vis (h : XEx T X c N k sc) (v : Vis sc x) : Vis X.env.scope x := by
  rw [h.sc]
  exact v
theorem XEx.loc (h : XEx T X c N k sc) (v : Loc sc x) : Loc X.env.scope x := by
  rw [h.sc]
  exact v
theorem XEx.gl (h : XEx T X c N k sc) (v : sc.names.lookup x = some .globalImplicit) : Gl X x := by
  show X.env.scope.names.lookup x = _
  rw [h.sc]
  exact v
theorem XEx.at (h : XEx T X c N k sc) (v : N[i]? = some x) : X.N[i]? = some x := by
  rw [h.nm]
  exact v
theorem XEx.ndX (h : XEx T X c N k sc) : X.N.Nodup := by
  rw [h.nm]
  exact h.nd
theorem XSt.f (h : XSt T X c N k sc) : X.fn x = true ∨ X.env.scope.names.lookup x = some .local := .inl (by rw [h.fn])
end

/-! ### sums -/
section
variable {X : Cx} {c : Cn} {pos p1 p2 pos2 : Pos} {a b : Expr} {ma mb : En → M DV}
theorem int_ok {W : Wd} {H : Hp} {v : V} {i : Int} (r : RepB c.g W H (.int i) v) : v = .int i := by
  rcases r with r | ⟨l2, p, vs, e1, _⟩ | ⟨_, _, _, _, e1, _⟩
  · simpa only [Rep] using r
  · cases e1
  · cases e1
theorem lst_ok {W : Wd} {H : Hp} {v : V} {l : List DV} (r : RepB c.g W H (.lst l) v) : ∃ p vs, v = .ref p ∧ H p = some (.lst vs) ∧ Reps c.g W H l vs := by
  rcases r with r | ⟨l2, p, vs, e1, e2, e3, r, n⟩ | ⟨_, _, _, _, e1, _⟩
  · simp only [Rep] at r
    obtain ⟨p, vs, e1, _, e3, r⟩ := r
    exact ⟨p, vs, e1, e3, r⟩
  · cases e1
    exact ⟨p, vs, e2, e3, r⟩
  · cases e1
def rAddA (K : PySem.W.Frag) : R2 := fun x y H Q => (∃ i j, x = .int i ∧ y = .int j ∧ Q (.int (i + j)) H) ∨ rCatA K x y H Q ∨ (∃ i j, x = .str i ∧ y = .str j ∧ i.length + j.length ≤ sizeLine ∧ Q (.str (i ++ j)) H) ∨ rCat x y H Q
theorem op_addA : OpR X (binaryOp .Add) (rAddA X.K) := op_add.or (op_catA.or (op_add_str.or op_cat))
theorem nil_of {W : Wd} {H : Hp} {l : List DV} (r : Reps c.g W H l []) : l = [] := by
  cases l with
  | nil => rfl
  | cons x r2 =>
    have := r.len
    cases this
theorem prim_add {K : PySem.W.Frag} (hk : c.g.K = K) : Prim2 c (pB c) (pB c) (rV c) vAdd (rAddA K) := by
  subst hk
  refine ⟨fun {W e h s H Hs x y v w Q} S rx ry nw q => ?_⟩
  unfold vAdd at q
  split at q
  · exact .inl ⟨_, _, int_ok rx, int_ok ry, q.ret S (by simp only [rV, Rep])⟩
  · obtain ⟨a, vs, e1, s1, r1⟩ := tup_ok rx
    obtain ⟨b, ws, e2, s2, r2⟩ := tup_ok ry
    split at q
    · rename_i hz
      refine .inr (.inl ⟨a, b, vs, ws, e1, e2, s1, s2, by rw [← r1.len, ← r2.len, line_LN]; exact hz, fun z => ?_, fun z z2 => ?_, fun z z2 p hp => ?_⟩)
      · subst z
        have := nil_of r1
        subst this
        refine q.ret S ?_
        simp only [rV, Rep]
        exact ⟨b, ws, rfl, s2, r2⟩
      · subst z2
        have := nil_of r2
        subst this
        refine q.ret S ?_
        simp only [rV, Rep]
        refine ⟨a, vs, rfl, s1, ?_⟩
        rw [List.append_nil]
        exact r1
      · exact post_tup q S (r1.app r2) hp
    · exact q.elim
  · split at q
    · rename_i hz
      exact .inr (.inr (.inl ⟨_, _, str_ok rx, str_ok ry, by rw [line_LN]; exact hz, q.ret S (by simp only [rV, Rep])⟩))
    · exact q.elim
  · obtain ⟨a, vs, e1, s1, r1⟩ := lst_ok rx
    obtain ⟨b, ws, e2, s2, r2⟩ := lst_ok ry
    split at q
    · rename_i hz
      exact .inr (.inr (.inr ⟨a, b, vs, ws, e1, e2, s1, s2, by rw [← r1.len, ← r2.len, line_LN]; exact hz, fun p hp => post_frz q S (r1.app r2) hp⟩))
    · exact q.elim
  · exact q.elim
theorem c_add (hk : X.K = c.g.K) (ha : PE X a (RB c ma)) (hb : PE X b (RB c mb)) : PE X (.BinOp a .Add b pos) (RE c (e2 vAdd ma mb)) := c_bin op_addA stays_B (prim_add hk.symm) ha hb
/-- the same as a list of one's own -/
def lAdd (x y : DV) : M (List DV) := match x, y with
  | .lst l, .lst m => if l.length + m.length ≤ LN then pure (l ++ m) else M.bad
  | _, _ => M.bad
theorem c_addO (ha : PE X a (RB c ma)) (hb : PE X b (RB c mb)) : PE X (.BinOp a .Add b pos) (RO c (fun e => ma e >>= fun x => mb e >>= fun y => lAdd x y)) := c_bin op_cat stays_B (Ra := pB c) (Rb := pB c) ⟨fun {W e h s H Hs x y v w Q} S rx ry nw q => by
  unfold lAdd at q
  split at q
  · obtain ⟨a, vs, e1, s1, r1⟩ := lst_ok rx
    obtain ⟨b, ws, e2, s2, r2⟩ := lst_ok ry
    split at q
    · rename_i hz
      exact ⟨a, b, vs, ws, e1, e2, s1, s2, by rw [← r1.len, ← r2.len, line_LN]; exact hz, fun p hp => post_own q S (r1.app r2) hp (nw p hp)⟩
    · exact q.elim
  · exact q.elim⟩ ha hb
/-- a list, so many times -/
def lMul (x y : DV) : M (List DV) := match x, y with
  | .lst l, .int (.ofNat n) => if Nat.ble n 16777216 && Nat.ble (l.length * n) 16777216 then pure (List.replicate n l).flatten else M.bad
  | _, _ => M.bad
theorem c_mulO (ha : PE X a (RB c ma)) (hb : PE X b (RE c mb)) : PE X (.BinOp a .Mult b pos) (RO c (fun e => ma e >>= fun x => mb e >>= fun y => lMul x y)) := c_bin op_rep stays_B (Ra := pB c) (Rb := pV c) ⟨fun {W e h s H Hs x y v w Q} S rx ry nw q => by
  unfold lMul at q
  split at q
  · obtain ⟨a, vs, e1, s1, r1⟩ := lst_ok rx
    simp only [pV, Rep] at ry
    split at q
    · rename_i hz
      rw [Bool.and_eq_true, Nat.ble_eq, Nat.ble_eq] at hz
      rename_i n
      have en : Int.ofNat n = (n : Int) := rfl
      rw [en] at ry
      exact ⟨a, _, vs, e1, ry, s1, by omega, by omega, by rw [← r1.len, line_LN]; exact hz.2, fun p hp => post_own q S (r1.rep _) hp (nw p hp)⟩
    · exact q.elim
  · exact q.elim⟩ ha hb

/-! ### tuple(reversed(a list)) -/
def vTupRev (x : DV) : M DV := fun h => match asL h x with
  | some l => .ok (.tup l.reverse) h
  | none => .bad
theorem c_tupRev (hk : X.K = c.g.K) (hc : X.calm = true) (hg : Gl X "tuple") (hm : X.mg "tuple" = none) (hg2 : Gl X "reversed") (hm2 : X.mg "reversed" = none) (ha : PE X a (RB c ma)) (hs : starEach [a] X.env = (false, eval a X.env) :: starEach [] X.env := by rfl)
    (hs2 : starEach [.Call (.Name "reversed" p2) [a] [] pos2] X.env = (false, eval (.Call (.Name "reversed" p2) [a] [] pos2) X.env) :: starEach [] X.env := by rfl) :
    PE X (.Call (.Name "tuple" p1) [.Call (.Name "reversed" p2) [a] [] pos2] [] pos) (RE c (e1 vTupRev ma)) := pe_imp (RT.pe_tupRev hc hg hm hg2 hm2 ha hs hs2) fun s H Q q =>
  RX.bind q fun W e W1 H1 x v h1 t S rx q2 => by
    unfold vTupRev at q2
    cases z : asL h1 x with
    | none =>
      rw [z] at q2
      exact q2.elim
    | some l =>
      rw [z] at q2
      obtain ⟨p, vs, e1, sq, r⟩ := asL_ok S rx z
      exact ⟨p, vs, e1, hk ▸ sq, fun d hd => post_tup q2 S r.rev hd⟩
end

/-! ### x = [..] -/
section
variable {X : Cx} {c : Cn} {pos py spos : Pos}
theorem sw_no {elt : Expr} {gs : List Comprehension} {scope : Scope} {y : Str} {l : Nat} {env : PySem.Env} (hy : env.scope.names.lookup y = some .cell) : swapsWith (.ListComp elt gs scope pos) (some (.Name y py)) l env = pure false := by
  have ky : env.kindOf y = some .cell := hy
  unfold swapsWith
  simp only [ky]
  cases env.blockKind <;> rfl
/-- the new list is frozen, or owned -/
def sSetL (i : Nat) (m : En → M (List DV)) : Stm := sSet i (eFrz m)
theorem s_setLc {i : Nat} {y : Str} {elt tg iter : Expr} {ifs : List Expr} {scope : Scope} {own : List (Str × Nat)} {mi : En → M (List DV)} {t : DV → En → Option En} {mt : En → M Bool} {me : En → M DV} {sl : List Nat} (hc : X.calm = true) (hN : X.N.Nodup) (hy : X.N[i]? = some y) (hyl : X.env.scope.names.lookup y = some .local)
    (hsw : swapsWith (.ListComp elt [⟨tg, iter, ifs, 0⟩] scope pos) (some (.Name y py)) spos.line X.env = pure true) (hi : PI X tg iter (RI c mi)) (ok : BlkOk X.N X.env.scope scope own)
    (hg : ∀ (s : Shared) (H : Hp) (C : Addr) (cl : List (Str × Addr)) (fp : List Addr), PG (X.blk s H scope (compEnvC scope cl C X.env) fp) tg (RG c.nx t sl)) (ht : ∀ (s : Shared) (H : Hp) (C : Addr) (cl : List (Str × Addr)) (fp : List Addr), PTs (X.blk s H scope (compEnvC scope cl C X.env) fp) ifs (RT c.nx mt))
    (he : ∀ (s : Shared) (H : Hp) (C : Addr) (cl : List (Str × Addr)) (fp : List Addr), PE (X.blk s H scope (compEnvC scope cl C X.env) fp) elt (RE c.nx me)) (hsl : ∀ k ∈ sl, k ∈ own.map (·.2) := by decide) (hs : ∀ x, foldedSetIterable iter X.env x = pure x := by intro _; rfl) :
    PS X (.Assign [.Name y py] (.ListComp elt [⟨tg, iter, ifs, 0⟩] scope pos) spos) (RS c (sSetO i (mLc (own.map (·.2)) mi t mt me))) := ps_imp (ps_setLc hc hN hy hyl hsw hi ok hg ht he hs) fun D s H q => lc_use hsl (by
  obtain ⟨W, e, h, S0, q⟩ := q
  exact ⟨W, e, h, S0, sb_at S0 q fun W1 H1 l v h1 t S r q2 => q2.nx (S0.setOwn t S r)⟩)
/-- what a statement leaves in slot i is frozen at once -/
theorem s_after {st : Stmt} {i : Nat} {m : En → M (List DV)} (h : PS X st (RS c (sSetO i m))) : PS X st (RS c (sSetL i m)) := ps_imp h fun D s H q => by
  obtain ⟨W, e, h0, S0, q⟩ := q
  refine ⟨W, e, h0, S0, ?_⟩
  unfold sSetL sSet sBind eFrz at q
  unfold sSetO sBind
  rw [M.bind_def] at q
  cases z : m e h0 with
  | ok l h1 =>
    rw [z] at q
    have q2 : PostS c W H (.nx (e.set i (.val (.lst l))) h1) D := q
    intro W' s' H' p S'
    by_cases hi : i < e.length
    rotate_left
    · have e1 : e.set i (.own l) = e := List.set_eq_of_length_le (by omega)
      have e2 : e.set i (.val (.lst l)) = e := List.set_eq_of_length_le (by omega)
      rw [e1] at S'
      rw [e2] at q2
      exact (q2.later p).nx S'
    have fz : RS c (sSeq (sFrz i) sNext) D s' H' := by
      refine ⟨W', _, h1, S', ?_⟩
      unfold sSeq sFrz
      rw [List.getElem?_set_self hi]
      show PostS c W' H' (.nx ((e.set i (.own l)).set i (.val (.lst l))) h1) D
      rw [List.set_set]
      exact q2.later p
    obtain ⟨W2, e2, h2, S2, q3⟩ := frz_use fz
    exact q3.nx S2
  | exc x h1 =>
    rw [z] at q
    exact q
  | bad =>
    rw [z] at q
    exact q
end

/-! ### rules by the place -/
/-- the names of built-ins, not bound by the text -/
structure Blt (mg : Str → Option Value) : Prop where
  len : mg "len" = none
  range : mg "range" = none
  tuple : mg "tuple" = none
  list : mg "list" = none
  int : mg "int" = none
  bool : mg "bool" = none
  str : mg "str" = none
  isinstance : mg "isinstance" = none
  max : mg "max" = none
  min : mg "min" = none
  sum : mg "sum" = none
  zip : mg "zip" = none
  reversed : mg "reversed" = none
  enumerate : mg "enumerate" = none
  sorted : mg "sorted" = none
  set : mg "set" = none
  dict : mg "dict" = none
  ValueError : mg "ValueError" = none
  any : mg "any" = none
  all : mg "all" = none
section
variable {T : Tp} {X : Cx} {c : Cn} {N : List Str} {k : Nat} {sc : Scope} {x : Str} {pos p1 p2 pos2 : Pos} {a b tg : Expr} {ma mb : En → M DV}
theorem XEx.no (h : XEx T X c N k sc) (q : T.mg x = none) : X.mg x = none := by
  rw [h.pm]
  exact q
theorem k_var (h : XEx T X c N k sc) (i : Nat) (hi : N[i]? = some x) (hv : Vis sc x) (hd : (x == ("__debug__" : Str)) = false := by decide) (hcd : (x == ("__classdict__" : Str)) = false := by decide) : PE X (.Name x pos) (RE c (eVar i)) := c_var (h.at hi) (h.vis hv) hd hcd
theorem k_bor (h : XEx T X c N k sc) (i : Nat) (hi : N[i]? = some x) (hv : Vis sc x) (hd : (x == ("__debug__" : Str)) = false := by decide) (hcd : (x == ("__classdict__" : Str)) = false := by decide) : PE X (.Name x pos) (RB c (eBor i)) := c_bor (h.at hi) (h.vis hv) hd hcd
theorem k_set {i : Nat} {ex : Expr} {m : En → M DV} {pos' : Pos} (h : XSt T X c N k sc) (hi : N[i]? = some x) (hx : Loc sc x) (he : PE X ex (RE c m)) (hs : swapsWith ex (some (.Name x pos')) pos.line X.env = pure false := by rfl) : PS X (.Assign [.Name x pos'] ex pos) (RS c (sSet i m)) := s_set h.e.ndX (h.e.at hi) (h.e.loc hx) he hs h.f
theorem k_setO {i : Nat} {ex : Expr} {m : En → M (List DV)} {pos' : Pos} (h : XSt T X c N k sc) (hi : N[i]? = some x) (hx : Loc sc x) (he : PE X ex (RO c m)) (hs : swapsWith ex (some (.Name x pos')) pos.line X.env = pure false := by rfl) : PS X (.Assign [.Name x pos'] ex pos) (RS c (sSetO i m)) := s_setO h.e.ndX (h.e.at hi) (h.e.loc hx) he hs h.f
theorem k_gn {i : Nat} (h : XSt T X c N k sc) (hi : N[i]? = some x) (hx : Loc sc x) : PG X (.Name x pos) (RG c (tName i) [i]) := g_name h.e.ndX (h.e.at hi) (h.e.loc hx) h.f
theorem k_gs {i : Nat} {is : List Nat} {es : List Expr} (h : XSt T X c N k sc) (hi : N[i]? = some x) (hx : Loc sc x) (h2 : PGs X es (RGs c is))
    (hs : (assignEach (.Name x pos :: es) X.env).map (·.2) = assign (.Name x pos) X.env :: (assignEach es X.env).map (·.2) := by rfl) : PGs X (.Name x pos :: es) (RGs c (i :: is)) := gs_cons h.e.ndX (h.e.at hi) (h.e.loc hx) h2 h.f hs
variable {bs : Scope}
theorem XBl.f (h : XBl T X c N k sc bs) (q : bs.names.lookup x = some .cell ∨ sc.names.lookup x = some .local) : X.fn x = true ∨ X.env.scope.names.lookup x = some .local := by
  rw [h.fn, h.e.sc]
  rcases q with q | q
  · left
    show (bs.names.lookup x == some .cell) = true
    rw [q]
    rfl
  · exact .inr q
theorem k_gnB {i : Nat} (h : XBl T X c N k sc bs) (hi : N[i]? = some x) (hx : Loc sc x) (hf : bs.names.lookup x = some .cell ∨ sc.names.lookup x = some .local) : PG X (.Name x pos) (RG c (tName i) [i]) := g_name h.e.ndX (h.e.at hi) (h.e.loc hx) (h.f hf)
theorem k_gsB {i : Nat} {is : List Nat} {es : List Expr} (h : XBl T X c N k sc bs) (hi : N[i]? = some x) (hx : Loc sc x) (hf : bs.names.lookup x = some .cell ∨ sc.names.lookup x = some .local) (h2 : PGs X es (RGs c is))
    (hs : (assignEach (.Name x pos :: es) X.env).map (·.2) = assign (.Name x pos) X.env :: (assignEach es X.env).map (·.2) := by rfl) : PGs X (.Name x pos :: es) (RGs c (i :: is)) := gs_cons h.e.ndX (h.e.at hi) (h.e.loc hx) h2 (h.f hf) hs
theorem k_for {tg iter : Expr} {body : List Stmt} {mi : En → M (List DV)} {t : DV → En → Option En} {sl : List Nat} (fg : List Nat) {bo : Stm} (h : XSt T X c N k sc) (hi : PI X tg iter (RI c mi)) (hg : PG X tg (RG c t sl)) (hb : PSs X body (RS c bo))
    (hs : ∀ x, foldedSetIterable iter X.env x = pure x := by intro _; rfl) : PS X (.For tg iter body [] pos) (RS c (sFor mi t fg bo)) := s_for h.pa h.e.calm hi hg hb hs
theorem k_app {i : Nat} {ex : Expr} {m : En → M DV} {p3 : Pos} (h : XSt T X c N k sc) (hi : N[i]? = some x) (hv : Vis sc x) (he : PE X ex (RE c m)) (hd : (x == ("__debug__" : Str)) = false := by decide) (hcd : (x == ("__classdict__" : Str)) = false := by decide)
    (hst : starEach (ex :: []) X.env = (false, eval ex X.env) :: starEach [] X.env := by rfl)
    (hbase : attributeBase (.Name x p1) "append" X.env (eval (.Name x p1) X.env) = eval (.Name x p1) X.env := by rfl)
    (hfew : ((backTo p3 (starEach (ex :: []) X.env)).all (fun x => !x.1) && (backToKw p3 (keywordEach [] X.env)).all (fun x => x.1.isSome)
      && decide ((ex :: []).length + ([] : List Keyword).length + (if ([] : List Keyword).isEmpty then 0 else 1) < 30)) = true := by rfl)
    (hline : (p2.endLine == p3.line) = true := by rfl)
    (hs : swapsWith (.Call (.Attribute (.Name x p1) "append" p2) [ex] [] p3) none pos.line X.env = pure false := by rfl) :
    PS X (.Expr (.Call (.Attribute (.Name x p1) "append" p2) [ex] [] p3) pos) (RS c (sApp i m)) :=
  s_app (h.e.at hi) (h.e.vis hv) he hd hcd hst (pe_bm PySem.F.plainAttrs_list PySem.F.slot_list_append PySem.F.type_list_append mt_append (pe_var (h.e.at hi) (h.e.vis hv) hd hcd) (pa_cons he pa_nil hst) hbase hfew hline hst rfl) hs
variable {elt iter : Expr} {ifs : List Expr} {scope : Scope} {own : List (Str × Nat)} {mi : En → M (List DV)} {t : DV → En → Option En} {mt : En → M Bool} {me : En → M DV} {sl : List Nat}
theorem k_lc (hX : XEx T X c N k sc) (own : List (Str × Nat)) (hi : PI X tg iter (RI c mi)) (ok : blkC N sc scope own = true)
    (hg : ∀ X', XBl T X' c.nx N k (relS scope sc) scope → PG X' tg (RG c.nx t sl)) (ht : ∀ X', XBl T X' c.nx N k (relS scope sc) scope → PTs X' ifs (RT c.nx mt)) (he : ∀ X', XBl T X' c.nx N k (relS scope sc) scope → PE X' elt (RE c.nx me))
    (hsl : ∀ k ∈ sl, k ∈ own.map (·.2) := by decide) (hs : ∀ x, foldedSetIterable iter X.env x = pure x := by intro _; rfl) :
    PE X (.ListComp elt [⟨tg, iter, ifs, 0⟩] scope pos) (RO c (mLc (own.map (·.2)) mi t mt me)) :=
  c_lc hX.calm hX.ndX hi (by rw [hX.nm, hX.sc]; exact blkOk_by ok) (fun s H C cl fp => hg _ (hX.blk s H scope C cl fp)) (fun s H C cl fp => ht _ (hX.blk s H scope C cl fp)) (fun s H C cl fp => he _ (hX.blk s H scope C cl fp)) hsl hs
theorem k_setLc {i : Nat} {y : Str} {py spos : Pos} (hX : XSt T X c N k sc) (own : List (Str × Nat)) (hy : N[i]? = some y) (hyl : sc.names.lookup y = some .local) (hsw : (py.line == pos.line) = true) (ha : (scope.names.any fun (n, k) => n == y && (k == .local || k == .cell)) = false)
    (hkf : sc.kind = .function) (hi : PI X tg iter (RI c mi)) (ok : blkC N sc scope own = true)
    (hg : ∀ X', XBl T X' c.nx N k (relS scope sc) scope → PG X' tg (RG c.nx t sl)) (ht : ∀ X', XBl T X' c.nx N k (relS scope sc) scope → PTs X' ifs (RT c.nx mt)) (he : ∀ X', XBl T X' c.nx N k (relS scope sc) scope → PE X' elt (RE c.nx me))
    (hsl : ∀ k ∈ sl, k ∈ own.map (·.2) := by decide) (hs : ∀ x, foldedSetIterable iter X.env x = pure x := by intro _; rfl) :
    PS X (.Assign [.Name y py] (.ListComp elt [⟨tg, iter, ifs, 0⟩] scope pos) spos) (RS c (sSetO i (mLc (own.map (·.2)) mi t mt me))) :=
  s_setLc hX.e.calm hX.e.ndX (hX.e.at hy) (by rw [hX.e.sc]; exact hyl) (sw_true (by rw [hX.e.sc]; exact hkf) (by rw [hX.e.sc]; exact hyl) hsw ha) hi (by rw [hX.e.nm, hX.e.sc]; exact blkOk_by ok) (fun s H C cl fp => hg _ (hX.e.blk s H scope C cl fp)) (fun s H C cl fp => ht _ (hX.e.blk s H scope C cl fp)) (fun s H C cl fp => he _ (hX.e.blk s H scope C cl fp)) hsl hs
end
/-- what is walked, from one value, from two -/
def iB {A : Type} (a : En → M DV) (f : DV → M A) : En → M A := fun e => a e >>= f
def iB2 {A : Type} (a b : En → M DV) (f : DV → DV → M A) : En → M A := fun e => a e >>= fun x => b e >>= fun y => f x y
end LM

/-! The end of a law: what the mirror answers is what the law answers. -/
namespace LM
open PySem L2

theorem cx_no {P : Program} {w : World} {H : Hp} {s : Shared} {e : Value} {s' : Shared} (h : L2N.CX P w [] H s (fun _ _ _ => False) e s') : False := by
  obtain ⟨_, _, _, _, _, _, _, _, _, _, _, _, z⟩ := h
  exact z
theorem only_sqS {K : PySem.W.Frag} {H : Hp} {a : Addr} {xs : List V} (h : Only H) (q : SqL K H a xs) : SqS K H a xs := by
  rcases q with (q | q) | q
  · rcases h a with e | ⟨o, ys, e⟩
    · rw [q] at e
      cases e
    · rw [q] at e
      cases e
  · exact .inl q
  · exact .inr q
/-- the law's promise, from its mirror -/
theorem sp_good {g : Glue} {m : List DV → M DV} {H : Hp} {a : Addr} {ns : List Int} (hO : Only H) (hS : SqL g.K H a (ns.map V.int)) (good : ∃ h', m [.scr ns] [] = .ok (.bl true) h') :
    spF g 1 m [.ref a] H (fun v _ => v = .bl true) fun _ _ _ => False := by
  refine ⟨⟨fun _ => False, []⟩, [], [.scr ns], ⟨rfl, List.nodup_nil, fun p o a e => by simp at e, fun b z => z.elim⟩, ?_, rfl, ?_⟩
  · refine Reps.cons ?_ Reps.nil
    simp only [Rep]
    exact ⟨a, rfl, only_sqS hO hS⟩
  · obtain ⟨h', e⟩ := good
    unfold PostF
    rw [e]
    intro W' H' v _ _ r
    simpa only [Rep] using r
theorem end_of {l : PySem.W.OpenLaw} {k : Nat} {q : Program} {loose : List Str} {XP : (Str → Option Value) → Heap → Prop} {d : DefRec} {x : Str} {fa : List He.Fa} {fn : List He.DefD} {nb : Nat} {gl : PySem.W.Frag → Glue} {m : List DV → M DV}
    (hn : l.most = some 63) (hdf : d.params.defaults = []) (hd : d.name = ("law" : Str)) (hr : Room k callerA) (hK : ∀ K, (gl K).K = K)
    (hF : ∀ (w : World) (mg : Str → Option Value) (h : Heap) (K : PySem.W.Frag), K.In h → h.Ns mainGlobals mg → He.SaysD fa fn K → mg "law" = some (.ref (He.ga K "law")) ∧
      ∃ fd, (∀ (s : Shared) (u : Value), BindsTo s fd ⟨[u], []⟩ [(x, u)]) ∧ ∀ base : Heap, K.In base → base.Ns mainGlobals mg → FnOk l.prog w K mg base (L2N.CX l.prog w) k (He.ga K "law") fd [x] (spF (gl K) 1 m))
    (good : ∀ ns : List Int, ns.length ≤ 63 → (∀ k ∈ ns, Builtin.Int.intBits k ≤ 1048576) → ∃ h', m [.scr ns] [] = .ok (.bl true) h') :
    PySem.W.WalkO q loose XP (He.hookD nb fa fn).says l.row.toRowW d [] (fun f vs => PySem.call f vs) := by
  refine Att.attach_callB hn hdf fun w s₀ s₁ mg mb f o pm cd doc a vs ns G Y ho hd2 hcd hmg hobj hints hlen hbits hg => ?_
  obtain ⟨K, KX, c⟩ := Y
  rw [hd] at hmg
  obtain ⟨e, fd, hb, hf⟩ := hF w mg _ K KX G.T.g c
  rw [e] at hmg
  cases hmg
  refine law_call KX G.T.g G.T.b G.T.builtins G.T.nolimit hg hobj hints (Nat.le_trans hlen (by decide +kernel)) hr (fun base h1 h2 => hf base h1 h2) hb (fun H hO hS => ?_) fun H e2 s2 z => cx_no z
  exact sp_good hO (by rw [hK]; exact hS) (good ns hlen hbits)
end LM

/-! What the mirror answers, step by step: rules for simp. -/
namespace LM
open PySem L2

section
variable {A B : Type}
def bR (r : Res A) (k : A → HP → Res B) : Res B := match r with
  | .ok a h => k a h
  | .exc x h => .exc x h
  | .bad => .bad
@[simp] theorem bR_ok (a : A) (h : HP) (k : A → HP → Res B) : bR (.ok a h) k = k a h := rfl
@[simp] theorem bR_exc (x : Ex) (h : HP) (k : A → HP → Res B) : bR (.exc x h) k = .exc x h := rfl
@[simp] theorem bR_bad (k : A → HP → Res B) : bR .bad k = .bad := rfl
@[simp] theorem bR_ite {c : Prop} [Decidable c] (r s : Res A) (k : A → HP → Res B) : bR (if c then r else s) k = if c then bR r k else bR s k := by split <;> rfl
@[simp] theorem bind_app (m : M A) (k : A → M B) (h : HP) : (m >>= k) h = bR (m h) fun a h' => k a h' := rfl
@[simp] theorem pure_app (a : A) (h : HP) : (Pure.pure a : M A) h = .ok a h := rfl
@[simp] theorem bad_app (h : HP) : (M.bad : M A) h = .bad := rfl
@[simp] theorem ite_app {c : Prop} [Decidable c] (m n : M A) (h : HP) : (if c then m else n) h = if c then m h else n h := by split <;> rfl
def uR (r : Res A) (e : En) (k : A → Stm) : SRes := match r with
  | .ok a h => k a e h
  | .exc x h => .exc x e h
  | .bad => .bad
@[simp] theorem uR_ok (a : A) (h : HP) (e : En) (k : A → Stm) : uR (.ok a h) e k = k a e h := rfl
@[simp] theorem uR_exc (x : Ex) (h : HP) (e : En) (k : A → Stm) : uR (.exc x h) e k = .exc x e h := rfl
@[simp] theorem uR_bad (e : En) (k : A → Stm) : uR .bad e k = .bad := rfl
@[simp] theorem uR_ite {c : Prop} [Decidable c] (r s : Res A) (e : En) (k : A → Stm) : uR (if c then r else s) e k = if c then uR r e k else uR s e k := by split <;> rfl
@[simp] theorem sBind_app (m : En → M A) (k : A → Stm) (e : En) (h : HP) : sBind m k e h = uR (m e h) e k := rfl
end
def qR (r : SRes) (k : Stm) : SRes := match r with
  | .nx e h => k e h
  | r => r
@[simp] theorem qR_nx (e : En) (h : HP) (k : Stm) : qR (.nx e h) k = k e h := rfl
@[simp] theorem qR_rt (d : DV) (h : HP) (k : Stm) : qR (.rt d h) k = .rt d h := rfl
@[simp] theorem qR_bk (e : En) (h : HP) (k : Stm) : qR (.bk e h) k = .bk e h := rfl
@[simp] theorem qR_ct (e : En) (h : HP) (k : Stm) : qR (.ct e h) k = .ct e h := rfl
@[simp] theorem qR_exc (x : Ex) (e : En) (h : HP) (k : Stm) : qR (.exc x e h) k = .exc x e h := rfl
@[simp] theorem qR_bad (k : Stm) : qR .bad k = .bad := rfl
theorem qR_ite {c : Prop} [Decidable c] (r s : SRes) (k : Stm) : qR (if c then r else s) k = if c then qR r k else qR s k := by split <;> rfl
def fR : SRes → Res DV
  | .nx _ h' => .ok .non h'
  | .rt d h' => .ok d h'
  | .exc x _ h' => .exc x h'
  | _ => .bad
@[simp] theorem fR_nx (e : En) (h : HP) : fR (.nx e h) = .ok .non h := rfl
@[simp] theorem fR_rt (d : DV) (h : HP) : fR (.rt d h) = .ok d h := rfl
@[simp] theorem fR_exc (x : Ex) (e : En) (h : HP) : fR (.exc x e h) = .exc x h := rfl
@[simp] theorem fR_bad : fR .bad = .bad := rfl
theorem fR_ite {c : Prop} [Decidable c] (r s : SRes) : fR (if c then r else s) = if c then fR r else fR s := by split <;> rfl
theorem fnM_app (N : Nat) (b : Stm) (ds : List DV) (h : HP) : fnM N b ds h = fR (b (ds.map .val ++ List.replicate (N - ds.length) .none) h) := by
  unfold fnM fR
  rfl
@[simp] theorem sSeq_app (a b : Stm) (e : En) (h : HP) : sSeq a b e h = qR (a e h) b := by
  unfold sSeq qR
  rfl
@[simp] theorem sNext_app (e : En) (h : HP) : sNext e h = .nx e h := rfl
@[simp] theorem sSet_app (i : Nat) (m : En → M DV) (e : En) (h : HP) : sSet i m e h = uR (m e h) e fun d e h => .nx (e.set i (.val d)) h := rfl
@[simp] theorem sSetO_app (i : Nat) (m : En → M (List DV)) (e : En) (h : HP) : sSetO i m e h = uR (m e h) e fun d e h => .nx (e.set i (.own d)) h := rfl
@[simp] theorem sSetL_app (i : Nat) (m : En → M (List DV)) (e : En) (h : HP) : sSetL i m e h = uR (m e h) e fun d e h => .nx (e.set i (.val (.lst d))) h := by
  unfold sSetL sSet eFrz
  rw [sBind_app, bind_app]
  cases m e h <;> rfl
@[simp] theorem sRet_app (m : En → M DV) (e : En) (h : HP) : sRet m e h = uR (m e h) e fun d _ h => .rt d h := rfl
@[simp] theorem sRetN_app (e : En) (h : HP) : sRetN e h = .rt .non h := rfl
@[simp] theorem sExpr_app (m : En → M DV) (e : En) (h : HP) : sExpr m e h = uR (m e h) e fun _ e h => .nx e h := rfl
@[simp] theorem sIf_app (t : En → M Bool) (a b : Stm) (e : En) (h : HP) : sIf t a b e h = uR (t e h) e fun x e h => if x then a e h else b e h := rfl
@[simp] theorem sFor_app (mi : En → M (List DV)) (t : DV → En → Option En) (fg : List Nat) (b : Stm) (e : En) (h : HP) : sFor mi t fg b e h = uR (mi e h) e fun ds e h => forL t b fg ds (wipeE e fg) h := rfl
def slO (o : Option Slot) (k : List DV → SRes) : SRes := match o with
  | some (.own l) => k l
  | _ => .bad
@[simp] theorem slO_own (l : List DV) (k : List DV → SRes) : slO (some (.own l)) k = k l := rfl
@[simp] theorem sApp_app (i : Nat) (m : En → M DV) (e : En) (h : HP) : sApp i m e h = slO e[i]? fun l => uR (m e h) e fun d _ h' => if l.length < LN then .nx (e.set i (.own (l ++ [d]))) h' else .bad := by
  unfold sApp
  cases e[i]? with
  | none => rfl
  | some x =>
    cases x with
    | own l =>
      simp only [slO_own]
      cases m e h <;> rfl
    | _ => rfl
def slF (o : Option Slot) (e : En) (i : Nat) (h : HP) : SRes := match o with
  | some (.own l) => .nx (e.set i (.val (.lst l))) h
  | some (.val _) => .nx e h
  | _ => .bad
@[simp] theorem slF_own (l : List DV) (e : En) (i : Nat) (h : HP) : slF (some (.own l)) e i h = .nx (e.set i (.val (.lst l))) h := rfl
@[simp] theorem slF_val (d : DV) (e : En) (i : Nat) (h : HP) : slF (some (.val d)) e i h = .nx e h := rfl
@[simp] theorem sFrz_app (i : Nat) (e : En) (h : HP) : sFrz i e h = slF e[i]? e i h := rfl
/-! ### expressions -/
def slV (o : Option Slot) (h : HP) : Res DV := match o with
  | some (.val d) => .ok d h
  | _ => .bad
@[simp] theorem slV_val (d : DV) (h : HP) : slV (some (.val d)) h = .ok d h := rfl
@[simp] theorem eVar_app (i : Nat) (e : En) (h : HP) : eVar i e h = slV e[i]? h := rfl
def slB (o : Option Slot) (h : HP) : Res DV := match o with
  | some (.val d) => .ok d h
  | some (.own l) => .ok (.lst l) h
  | some (.dic ks l) => .ok (.dct ks l) h
  | _ => .bad
@[simp] theorem slB_val (d : DV) (h : HP) : slB (some (.val d)) h = .ok d h := rfl
@[simp] theorem slB_own (l : List DV) (h : HP) : slB (some (.own l)) h = .ok (.lst l) h := rfl
@[simp] theorem eBor_app (i : Nat) (e : En) (h : HP) : eBor i e h = slB e[i]? h := rfl
@[simp] theorem eC_app (d : DV) (e : En) (h : HP) : eC d e h = .ok d h := rfl
@[simp] theorem e1_app (p : DV → M DV) (a : En → M DV) (e : En) (h : HP) : e1 p a e h = bR (a e h) fun x h => p x h := rfl
@[simp] theorem e2_app (p : DV → DV → M DV) (a b : En → M DV) (e : En) (h : HP) : e2 p a b e h = bR (a e h) fun x h => bR (b e h) fun y h => p x y h := rfl
def b3 (d : DV) (h : HP) (m : Res DV) : Res DV := match d with
  | .bl true => m
  | .bl false => .ok (.bl false) h
  | _ => .bad
@[simp] theorem b3_t (h : HP) (m : Res DV) : b3 (.bl true) h m = m := rfl
@[simp] theorem b3_f (h : HP) (m : Res DV) : b3 (.bl false) h m = .ok (.bl false) h := rfl
@[simp] theorem b3_d {c : Prop} [Decidable c] (h : HP) (m : Res DV) : b3 (.bl (decide c)) h m = if c then m else .ok (.bl false) h := by
  by_cases z : c <;> simp [z]
@[simp] theorem e3c_app (p r : DV → DV → M DV) (a b z : En → M DV) (e : En) (h : HP) : e3c p r a b z e h = bR (a e h) fun x h => bR (b e h) fun y h => bR (p x y h) fun t h => b3 t h (bR (z e h) fun u h => r y u h) := by
  unfold e3c
  simp only [bind_app]
  congr 1
  funext x h
  congr 1
  funext y h
  congr 1
  funext t h
  cases t with
  | bl u => cases u <;> rfl
  | _ => rfl
@[simp] theorem aNil_app (e : En) (h : HP) : aNil e h = .ok [] h := rfl
@[simp] theorem aCons_app (m : En → M DV) (ms : En → M (List DV)) (e : En) (h : HP) : aCons m ms e h = bR (m e h) fun x h => bR (ms e h) fun xs h => .ok (x :: xs) h := rfl
@[simp] theorem iB_app {A : Type} (a : En → M DV) (f : DV → M A) (e : En) (h : HP) : iB a f e h = bR (a e h) fun x h => f x h := rfl
@[simp] theorem iB2_app {A : Type} (a b : En → M DV) (f : DV → DV → M A) (e : En) (h : HP) : iB2 a b f e h = bR (a e h) fun x h => bR (b e h) fun y h => f x y h := rfl
@[simp] theorem eTup_app (ms : En → M (List DV)) (e : En) (h : HP) : eTup ms e h = bR (ms e h) fun l h => .ok (.tup l) h := rfl
@[simp] theorem eFrz_app (ms : En → M (List DV)) (e : En) (h : HP) : eFrz ms e h = bR (ms e h) fun l h => .ok (.lst l) h := rfl
@[simp] theorem eCall_app (m : List DV → M DV) (ms : En → M (List DV)) (e : En) (h : HP) : eCall m ms e h = bR (ms e h) fun l h => m l h := rfl
@[simp] theorem eCut_app (m : En → M DV) (lo hi : En → M (Option Int)) (e : En) (h : HP) : eCut m lo hi e h = bR (m e h) fun x h => bR (lo e h) fun l h => bR (hi e h) fun u h => vCut x l u h := rfl
@[simp] theorem oNone_app (e : En) (h : HP) : oNone e h = .ok none h := rfl
def oI (d : DV) (h : HP) : Res (Option Int) := match d with
  | .int i => .ok (some i) h
  | _ => .bad
@[simp] theorem oI_int (i : Int) (h : HP) : oI (.int i) h = .ok (some i) h := rfl
@[simp] theorem oSome_app (m : En → M DV) (e : En) (h : HP) : oSome m e h = bR (m e h) fun d h => oI d h := by
  unfold oSome
  rw [bind_app]
  congr 1
  funext d h
  cases d <;> rfl
@[simp] theorem eAnd_app (a b : En → M DV) (e : En) (h : HP) : eAnd a b e h = bR (a e h) fun t h => b3 t h (b e h) := by
  unfold eAnd
  rw [bind_app]
  congr 1
  funext d h
  cases d with
  | bl u => cases u <;> rfl
  | _ => rfl
def b4 (d : DV) (h : HP) (m : Res DV) : Res DV := match d with
  | .bl true => .ok (.bl true) h
  | .bl false => m
  | _ => .bad
@[simp] theorem b4_t (h : HP) (m : Res DV) : b4 (.bl true) h m = .ok (.bl true) h := rfl
@[simp] theorem b4_f (h : HP) (m : Res DV) : b4 (.bl false) h m = m := rfl
@[simp] theorem b4_d {c : Prop} [Decidable c] (h : HP) (m : Res DV) : b4 (.bl (decide c)) h m = if c then .ok (.bl true) h else m := by
  by_cases z : c <;> simp [z]
@[simp] theorem eOr_app (a b : En → M DV) (e : En) (h : HP) : eOr a b e h = bR (a e h) fun t h => b4 t h (b e h) := by
  unfold eOr
  rw [bind_app]
  congr 1
  funext d h
  cases d with
  | bl u => cases u <;> rfl
  | _ => rfl
@[simp] theorem tb_app (m : En → M DV) (e : En) (h : HP) : tb m e h = bR (m e h) fun x h => asB x h := rfl
@[simp] theorem tAnd_app (a b : En → M Bool) (e : En) (h : HP) : tAnd a b e h = bR (a e h) fun x h => if x then b e h else .ok false h := by
  unfold tAnd
  rw [bind_app]
  congr 1
  funext d h
  cases d <;> rfl
@[simp] theorem tOr_app (a b : En → M Bool) (e : En) (h : HP) : tOr a b e h = bR (a e h) fun x h => if x then .ok true h else b e h := by
  unfold tOr
  rw [bind_app]
  congr 1
  funext d h
  cases d <;> rfl
@[simp] theorem tNot_app (a : En → M Bool) (e : En) (h : HP) : tNot a e h = bR (a e h) fun x h => .ok (!x) h := rfl
@[simp] theorem asB_bl (b : Bool) (h : HP) : asB (.bl b) h = .ok b h := rfl
/-! ### values -/
/-- numbers as data -/
def nums (l : List Int) : List DV := l.map DV.int
@[simp] theorem nums_nil : nums [] = [] := rfl
@[simp] theorem nums_cons (x : Int) (l : List Int) : nums (x :: l) = .int x :: nums l := rfl
@[simp] theorem nums_app (l m : List Int) : nums (l ++ m) = nums l ++ nums m := List.map_append
@[simp] theorem nums_len (l : List Int) : (nums l).length = l.length := List.length_map _
@[simp] theorem nums_rev (l : List Int) : (nums l).reverse = nums l.reverse := List.map_reverse.symm
@[simp] theorem nums_drop (l : List Int) (k : Nat) : (nums l).drop k = nums (l.drop k) := List.map_drop.symm
@[simp] theorem nums_take (l : List Int) (k : Nat) : (nums l).take k = nums (l.take k) := List.map_take.symm
@[simp] theorem nums_last (l : List Int) : (nums l).dropLast = nums l.dropLast := List.map_dropLast.symm
theorem nums_at {l : List Int} {k : Nat} (h : k < l.length) : (nums l)[k]? = some (.int (l.getD k 0)) := by
  unfold nums
  simp [h]
theorem nums_map {A : Type} (f : A → Int) (l : List A) : nums (l.map f) = l.map fun x => DV.int (f x) := by
  unfold nums
  rw [List.map_map]
  rfl
theorem nums_inj {l m : List Int} : nums l = nums m ↔ l = m := by
  constructor
  · exact fun h => (List.map_inj_right (fun _ _ e => by cases e; rfl)).mp h
  · exact fun h => by rw [h]
section
variable (h : HP) (i j : Int) (a b : Bool) (s t : Str) (l m : List DV)
@[simp] theorem vAdd_int : vAdd (.int i) (.int j) h = .ok (.int (i + j)) h := rfl
@[simp] theorem vAdd_tup (q : l.length + m.length ≤ LN) : vAdd (.tup l) (.tup m) h = .ok (.tup (l ++ m)) h := by
  simp only [vAdd]
  rw [if_pos q]
  rfl
@[simp] theorem vAdd_lst (q : l.length + m.length ≤ LN) : vAdd (.lst l) (.lst m) h = .ok (.lst (l ++ m)) h := by
  simp only [vAdd]
  rw [if_pos q]
  rfl
@[simp] theorem lAdd_lst (q : l.length + m.length ≤ LN) : lAdd (.lst l) (.lst m) h = .ok (l ++ m) h := by
  simp only [lAdd]
  rw [if_pos q]
  rfl
@[simp] theorem vSub_int : vSub (.int i) (.int j) h = .ok (.int (i - j)) h := rfl
@[simp] theorem vMul_int (q : mulOk i j = true) : vMul (.int i) (.int j) h = .ok (.int (i * j)) h := by
  simp only [vMul]
  rw [if_pos q]
  rfl
theorem mulOk_r (q1 : -1000000000000 ≤ j) (q2 : j ≤ 1000000000000) : mulOk i j = true := by
  unfold mulOk
  rw [decide_eq_true (show -(2 ^ 64) < j by omega), decide_eq_true (show j < 2 ^ 64 by omega)]
  simp
theorem mulOk_l (q1 : -1000000000000 ≤ i) (q2 : i ≤ 1000000000000) : mulOk i j = true := by
  unfold mulOk
  rw [decide_eq_true (show -(2 ^ 64) < i by omega), decide_eq_true (show i < 2 ^ 64 by omega)]
  simp
@[simp] theorem vDiv_int (q : 0 < j) (q2 : j < 1073741824) : vDiv (.int i) (.int j) h = .ok (.int (i / j)) h := by
  simp only [vDiv, decide_eq_true q, decide_eq_true q2]
  rfl
@[simp] theorem vMod_int (q : 0 < j) : vMod (.int i) (.int j) h = .ok (.int (i % j)) h := by
  simp only [vMod]
  rw [if_pos q]
  rfl
@[simp] theorem vNeg_int : vNeg (.int i) h = .ok (.int (-i)) h := rfl
@[simp] theorem vLt_int : vLt (.int i) (.int j) h = .ok (.bl (decide (i < j))) h := rfl
@[simp] theorem vLe_int : vLe (.int i) (.int j) h = .ok (.bl (decide (i ≤ j))) h := rfl
@[simp] theorem vGt_int : vGt (.int i) (.int j) h = .ok (.bl (decide (j < i))) h := rfl
@[simp] theorem vGe_int : vGe (.int i) (.int j) h = .ok (.bl (decide (j ≤ i))) h := rfl
@[simp] theorem vNot_bl : vNot (.bl a) h = .ok (.bl (!a)) h := rfl
@[simp] theorem vIsN_non : vIsN .non h = .ok (.bl true) h := rfl
@[simp] theorem vNotN_non : vNotN .non h = .ok (.bl false) h := rfl
@[simp] theorem vIsN_any (d : DV) : vIsN d h = .ok (.bl (isNon d)) h := rfl
@[simp] theorem vNotN_any (d : DV) : vNotN d h = .ok (.bl (!isNon d)) h := rfl
@[simp] theorem isNon_non : isNon .non = true := rfl
@[simp] theorem isNon_int : isNon (.int i) = false := rfl
@[simp] theorem isNon_tup : isNon (.tup l) = false := rfl
@[simp] theorem isNon_lst : isNon (.lst l) = false := rfl
@[simp] theorem isNon_str : isNon (.str s) = false := rfl
@[simp] theorem isNon_bl : isNon (.bl a) = false := rfl
@[simp] theorem vInt_int : vInt (.int i) h = .ok (.int i) h := rfl
@[simp] theorem vInt_bl : vInt (.bl a) h = .ok (.int (if a then 1 else 0)) h := rfl
@[simp] theorem vMax_int : vMax (.int i) (.int j) h = .ok (.int (if j > i then j else i)) h := rfl
@[simp] theorem vMin_int : vMin (.int i) (.int j) h = .ok (.int (if j < i then j else i)) h := rfl
@[simp] theorem vLen_tup : vLen (.tup l) h = .ok (.int l.length) h := rfl
@[simp] theorem vLen_lst : vLen (.lst l) h = .ok (.int l.length) h := rfl
@[simp] theorem vLen_scr (ns : List Int) : vLen (.scr ns) h = .ok (.int ns.length) h := by
  show Res.ok (DV.int ((nums ns).length : Nat)) h = _
  rw [nums_len]
@[simp] theorem vTup_tup : vTup (.tup l) h = .ok (.tup l) h := rfl
@[simp] theorem vTup_lst : vTup (.lst l) h = .ok (.tup l) h := rfl
@[simp] theorem lLst_tup : lLst (.tup l) h = .ok l h := rfl
@[simp] theorem lLst_lst : lLst (.lst l) h = .ok l h := rfl
@[simp] theorem vTupRev_lst : vTupRev (.lst l) h = .ok (.tup l.reverse) h := rfl
@[simp] theorem vSum_ints (ns : List Int) : vSum (.lst (nums ns)) h = .ok (.int ns.sum) h := by
  show (match asInts (ns.map DV.int) with
    | some ns => Res.ok (DV.int ns.sum) h
    | none => .bad) = _
  rw [asInts_ints]
@[simp] theorem vIsI_int : vIsI .int (.int i) h = .ok (.bl true) h := rfl
@[simp] theorem vIsI_intb : vIsI .bool (.int i) h = .ok (.bl false) h := rfl
@[simp] theorem vIsI_tup : vIsI .tuple (.tup l) h = .ok (.bl true) h := rfl
@[simp] theorem vIsI_lst : vIsI .list (.lst l) h = .ok (.bl true) h := rfl
@[simp] theorem vIsI_any (T : Ty) (d : DV) {t : Ty} (q : tyD h d = some t) : vIsI T d h = .ok (.bl (t.is T)) h := by
  unfold vIsI
  rw [q]
theorem atI_nat {A : Type} (l : List A) (k : Nat) : atI l (k : Int) = l[k]? := by
  unfold atI ixN
  rw [if_pos (Int.natCast_nonneg k)]
  by_cases z : k < l.length
  · rw [if_pos (by omega)]
    simp
  · rw [if_neg (by omega), List.getElem?_eq_none (by omega)]
    rfl
theorem getI_nat (k : Nat) {d : DV} (q : l[k]? = some d) : getI l (k : Int) h = .ok d h := by
  unfold getI
  rw [atI_nat, q]
  rfl
@[simp] theorem vIdx_tup : vIdx (.tup l) (.int i) h = getI l i h := rfl
@[simp] theorem vIdx_lst : vIdx (.lst l) (.int i) h = getI l i h := rfl
@[simp] theorem vIdx_scr (ns : List Int) : vIdx (.scr ns) (.int i) h = getI (nums ns) i h := rfl
@[simp] theorem vCut_tup (lo hi : Option Int) : vCut (.tup l) lo hi h = .ok (.tup (cutD l lo hi)) h := rfl
@[simp] theorem vCut_lst (lo hi : Option Int) : vCut (.lst l) lo hi h = .ok (.lst (cutD l lo hi)) h := rfl
@[simp] theorem itS_tup : itS (.tup l) h = .ok l h := rfl
@[simp] theorem itS_lst : itS (.lst l) h = .ok l h := rfl
@[simp] theorem itS_scr (ns : List Int) : itS (.scr ns) h = .ok (nums ns) h := rfl
@[simp] theorem itR_tup : itR (.tup l) h = .ok l.reverse h := rfl
@[simp] theorem itR_lst : itR (.lst l) h = .ok l.reverse h := rfl
@[simp] theorem itN_nat (n : Nat) (q : n ≤ 16777216) : itN (.int (n : Int)) h = .ok (rng n) h := by
  simp only [itN]
  rw [decide_eq_true (show (-16777216 : Int) ≤ n by omega), decide_eq_true (show (n : Int) ≤ 16777216 by omega)]
  rfl
theorem itN_int (q1 : 0 ≤ i) (q2 : i ≤ 16777216) : itN (.int i) h = .ok (rng i.toNat) h := by
  simp only [itN]
  rw [decide_eq_true (show (-16777216 : Int) ≤ i by omega), decide_eq_true q2]
  rfl
@[simp] theorem itZ_tup : itZ (.tup l) (.tup m) h = .ok (zipD l m) h := rfl
@[simp] theorem itZ_lst : itZ (.lst l) (.lst m) h = .ok (zipD l m) h := rfl
end
theorem sx_nat (n d k : Nat) : sx n d (some (k : Int)) = min k n := by
  show (if (k : Int) < 0 then ((k : Int) + n).toNat else min (k : Int).toNat n) = _
  rw [if_neg (by omega)]
  rfl
theorem cut_from (l : List DV) (k : Nat) : cutD l (some (k : Int)) none = l.drop k := by
  unfold cutD
  have e1 : sx l.length l.length none = l.length := rfl
  rw [e1, sx_nat]
  by_cases z : k ≤ l.length
  · rw [Nat.min_eq_left z]
    exact List.take_of_length_le (by rw [List.length_drop]; omega)
  · rw [Nat.min_eq_right (by omega), List.drop_eq_nil_of_le (Nat.le_refl _), List.drop_eq_nil_of_le (by omega : l.length ≤ k), List.take_nil]
theorem cut_to (l : List DV) (k : Nat) : cutD l none (some (k : Int)) = l.take k := by
  unfold cutD
  have e1 : sx l.length 0 none = 0 := rfl
  rw [e1, sx_nat, List.drop_zero, Nat.sub_zero]
  by_cases z : k ≤ l.length
  · rw [Nat.min_eq_left z]
  · rw [Nat.min_eq_right (by omega), List.take_of_length_le (Nat.le_refl _), List.take_of_length_le (by omega)]
theorem cut_last (l : List DV) : cutD l none (some (-1)) = l.dropLast := by
  unfold cutD
  have e1 : sx l.length 0 none = 0 := rfl
  have e2 : sx l.length l.length (some (-1)) = l.length - 1 := by
    show (if (-1 : Int) < 0 then ((-1 : Int) + (l.length : Nat)).toNat else min (-1 : Int).toNat l.length) = _
    rw [if_pos (by omega)]
    omega
  rw [e1, e2, List.drop_zero, Nat.sub_zero, List.dropLast_eq_take]
/-! ### equality -/
theorem toPDs_some : ∀ {l : List DV} {r : List PyData}, toPDs l = some r → r.length = l.length
  | [], _, e => by
    simp only [toPDs] at e
    cases e
    rfl
  | d :: ds, _, e => by
    unfold toPDs at e
    cases a : toPD d with
    | none =>
      rw [a] at e
      cases e
    | some x =>
      cases b : toPDs ds with
      | none =>
        rw [a, b] at e
        cases e
      | some r =>
        rw [a, b] at e
        cases e
        rw [List.length_cons, List.length_cons, toPDs_some b]
mutual
theorem eqv_self : ∀ {d : PyData}, d.canLay0 = true → PyData.eqv d d = true
  | .none, _ => rfl
  | .bool b, _ => by simp [PyData.eqv]
  | .int i, _ => by simp [PyData.eqv]
  | .str s, _ => by simp [PyData.eqv]
  | .list l, q => by
    unfold PyData.eqv
    exact eqvAll_self (by unfold PyData.canLay0 at q; exact q)
  | .tuple l, q => by
    unfold PyData.eqv
    exact eqvAll_self (by unfold PyData.canLay0 at q; exact q)
  | .dict _, q => by
    unfold PyData.canLay0 at q
    cases q
theorem eqvAll_self : ∀ {l : List PyData}, PyData.canLayAll0 l = true → PyData.eqvAll l l = true
  | [], _ => rfl
  | x :: r, q => by
    unfold PyData.eqvAll
    unfold PyData.canLayAll0 at q
    obtain ⟨a, b⟩ := Bool.and_eq_true_iff.mp q
    rw [eqv_self a, eqvAll_self b]
    rfl
end
/-- may be compared -/
def okD (d : DV) : Bool := match toPD d with
  | some x => SeqAt.shaped x
  | none => false
theorem eqD_self {d : DV} (q : okD d = true) : eqD d d = some true := by
  unfold okD at q
  unfold eqD
  cases z : toPD d with
  | none =>
    rw [z] at q
    cases q
  | some x =>
    rw [z] at q
    simp only [] at q
    simp only []
    rw [q, if_pos (by rfl), eqv_self (SeqAt.canLay_of_shaped q)]
theorem vEq_self {d : DV} (h : HP) (q : okD d = true) : vEq d d h = .ok (.bl true) h := by
  unfold vEq
  rw [eqD_self q]
  try rfl
theorem vNe_self {d : DV} (h : HP) (q : okD d = true) : vNe d d h = .ok (.bl false) h := by
  unfold vNe
  rw [eqD_self q]
  try rfl
@[simp] theorem vEq_int (h : HP) (i j : Int) : vEq (.int i) (.int j) h = .ok (.bl (decide (i = j))) h := by
  show Res.ok (DV.bl (i == j)) h = Res.ok (DV.bl (decide (i = j))) h
  congr 2
@[simp] theorem vNe_int (h : HP) (i j : Int) : vNe (.int i) (.int j) h = .ok (.bl (!decide (i = j))) h := by
  show Res.ok (DV.bl (!(i == j))) h = _
  congr 3
theorem toPDs_ints (l : List Int) : toPDs (nums l) = some (l.map PyData.int) := by
  induction l with
  | nil => rfl
  | cons x r ih =>
    show (match toPD (DV.int x), toPDs (nums r) with
      | some x, some r => some (x :: r)
      | _, _ => none) = _
    rw [ih]
    rfl
theorem lay_ints (l : List Int) : PyData.canLayAll0 (l.map PyData.int) = true := by
  induction l with
  | nil => rfl
  | cons x r ih =>
    rw [List.map_cons]
    unfold PyData.canLayAll0
    rw [ih]
    rfl
theorem dep_ints (l : List Int) : PyData.depthAll (l.map PyData.int) = 0 := by
  induction l with
  | nil => rfl
  | cons x r ih =>
    rw [List.map_cons]
    unfold PyData.depthAll
    rw [ih]
    rfl
theorem eqv_ints (l m : List Int) : PyData.eqvAll (l.map PyData.int) (m.map PyData.int) = decide (l = m) := by
  induction l generalizing m with
  | nil => cases m <;> rfl
  | cons x r ih =>
    cases m with
    | nil => rfl
    | cons y t =>
      rw [List.map_cons, List.map_cons]
      unfold PyData.eqvAll
      rw [ih]
      show ((x == y) && decide (r = t)) = decide (x :: r = y :: t)
      by_cases a : x = y
      · by_cases b : r = t
        · simp [a, b]
        · simp [a, b]
      · simp [a]
theorem sh_tup (l : List Int) : SeqAt.shaped (.tuple (l.map PyData.int)) = true := by
  unfold SeqAt.shaped PyData.canLay0 PyData.depth
  rw [lay_ints, dep_ints]
  rfl
theorem sh_lst (l : List Int) : SeqAt.shaped (.list (l.map PyData.int)) = true := by
  unfold SeqAt.shaped PyData.canLay0 PyData.depth
  rw [lay_ints, dep_ints]
  rfl
theorem toPD_tup (l : List Int) : toPD (.tup (nums l)) = some (.tuple (l.map PyData.int)) := by
  unfold toPD
  rw [toPDs_ints]
theorem toPD_lst (l : List Int) : toPD (.lst (nums l)) = some (.list (l.map PyData.int)) := by
  unfold toPD
  rw [toPDs_ints]
theorem okD_tup (l : List Int) : okD (.tup (nums l)) = true := by
  unfold okD
  rw [toPD_tup]
  exact sh_tup l
theorem okD_lst (l : List Int) : okD (.lst (nums l)) = true := by
  unfold okD
  rw [toPD_lst]
  exact sh_lst l
theorem eqD_tup (l m : List Int) : eqD (.tup (nums l)) (.tup (nums m)) = some (decide (l = m)) := by
  unfold eqD
  rw [toPD_tup, toPD_tup]
  show (if (SeqAt.shaped _ && SeqAt.shaped _) = true then _ else _) = _
  rw [sh_tup, sh_tup, if_pos (by rfl)]
  unfold PyData.eqv
  rw [eqv_ints]
theorem eqD_lst (l m : List Int) : eqD (.lst (nums l)) (.lst (nums m)) = some (decide (l = m)) := by
  unfold eqD
  rw [toPD_lst, toPD_lst]
  show (if (SeqAt.shaped _ && SeqAt.shaped _) = true then _ else _) = _
  rw [sh_lst, sh_lst, if_pos (by rfl)]
  unfold PyData.eqv
  rw [eqv_ints]
theorem vEq_tup (h : HP) (l m : List Int) : vEq (.tup (nums l)) (.tup (nums m)) h = .ok (.bl (decide (l = m))) h := by
  unfold vEq
  rw [eqD_tup]
  rfl
theorem vNe_tup (h : HP) (l m : List Int) : vNe (.tup (nums l)) (.tup (nums m)) h = .ok (.bl (!decide (l = m))) h := by
  unfold vNe
  rw [eqD_tup]
  rfl
theorem vNe_tup0 (h : HP) (l : List Int) : vNe (.tup (nums l)) (.tup []) h = .ok (.bl (!decide (l = []))) h := vNe_tup h l []
theorem vEq_lst (h : HP) (l m : List Int) : vEq (.lst (nums l)) (.lst (nums m)) h = .ok (.bl (decide (l = m))) h := by
  unfold vEq
  rw [eqD_lst]
  rfl
theorem vNe_lst (h : HP) (l m : List Int) : vNe (.lst (nums l)) (.lst (nums m)) h = .ok (.bl (!decide (l = m))) h := by
  unfold vNe
  rw [eqD_lst]
  rfl

/-! ### loops -/
/-- what one turn of a comprehension gives -/
def lcOne (t : DV → En → Option En) (mt : En → M Bool) (me : En → M DV) (e : En) (d : DV) (h : HP) : Res (Option DV) := match t d e with
  | none => .bad
  | some e1 => bR (mt e1 h) fun b h => if b then bR (me e1 h) fun x h => .ok (some x) h else .ok none h
theorem lcL_is (t : DV → En → Option En) (mt : En → M Bool) (me : En → M DV) (e : En) (d : DV) (ds : List DV) (h : HP) : lcL t mt me e (d :: ds) h = bR (lcOne t mt me e d h) fun o h => bR (lcL t mt me e ds h) fun r h => .ok (match o with
    | some x => x :: r
    | none => r) h := by
  show (match t d e with
    | none => M.bad
    | some e1 => mt e1 >>= fun b => if b then me e1 >>= fun x => lcL t mt me e ds >>= fun r => pure (x :: r) else lcL t mt me e ds) h = _
  unfold lcOne
  cases t d e with
  | none => rfl
  | some e1 =>
    simp only [bind_app]
    cases mt e1 h with
    | exc x h => rfl
    | bad => rfl
    | ok b h =>
      cases b with
      | false =>
        simp only [bR_ok, if_false, Bool.false_eq_true]
        cases lcL t mt me e ds h <;> rfl
      | true =>
        simp only [bR_ok, if_true, bind_app]
        cases me e1 h with
        | exc x h => rfl
        | bad => rfl
        | ok a h =>
          simp only [bR_ok]
          cases lcL t mt me e ds h <;> rfl
theorem lcL_filter (t : DV → En → Option En) (mt : En → M Bool) (me : En → M DV) (e : En) (h : HP) (f : DV → Option DV) : ∀ ds : List DV, (∀ d ∈ ds, lcOne t mt me e d h = .ok (f d) h) → lcL t mt me e ds h = .ok (ds.filterMap f) h
  | [], _ => rfl
  | d :: ds, q => by
    rw [lcL_is, q d (List.mem_cons_self), bR_ok, lcL_filter t mt me e h f ds fun x z => q x (List.mem_cons_of_mem _ z), bR_ok, List.filterMap_cons]
    cases f d <;> rfl
theorem mLc_filter {vs : List Nat} {mi : En → M (List DV)} {t : DV → En → Option En} {mt : En → M Bool} {me : En → M DV} {e : En} {h : HP} {ds : List DV} (f : DV → Option DV) (hi : mi e h = .ok ds h) (hl : ds.length ≤ LN) (q : ∀ d ∈ ds, lcOne t mt me (wipeE e vs) d h = .ok (f d) h) :
    mLc vs mi t mt me e h = .ok (ds.filterMap f) h := by
  unfold mLc
  rw [bind_app, hi, bR_ok, if_pos hl]
  unfold noX
  rw [lcL_filter t mt me _ h f ds q]
theorem mLc_map {vs : List Nat} {mi : En → M (List DV)} {t : DV → En → Option En} {me : En → M DV} {e : En} {h : HP} {ds : List DV} (f : DV → DV) (hi : mi e h = .ok ds h) (hl : ds.length ≤ LN) (q : ∀ d ∈ ds, ∃ e1, t d (wipeE e vs) = some e1 ∧ me e1 h = .ok (f d) h) :
    mLc vs mi t mYes me e h = .ok (ds.map f) h := by
  rw [mLc_filter (fun d => some (f d)) hi hl fun d z => ?_, List.filterMap_eq_map']
  obtain ⟨e1, a, b⟩ := q d z
  unfold lcOne
  rw [a]
  show bR (me e1 h) _ = _
  rw [b]
  rfl
/-- .. over numbers -/
theorem mLc_ints {A : Type} {vs : List Nat} {mi : En → M (List DV)} {t : DV → En → Option En} {me : En → M DV} {e : En} {h : HP} {l : List A} (g : A → DV) (f : A → DV) (hi : mi e h = .ok (l.map g) h) (hl : l.length ≤ 16777216) (q : ∀ d ∈ l, ∃ e1, t (g d) (wipeE e vs) = some e1 ∧ me e1 h = .ok (f d) h) :
    mLc vs mi t mYes me e h = .ok (l.map f) h := by
  unfold mLc
  rw [bind_app, hi, bR_ok, if_pos (by rw [List.length_map]; exact hl)]
  unfold noX
  have z : ∀ l : List A, (∀ d ∈ l, ∃ e1, t (g d) (wipeE e vs) = some e1 ∧ me e1 h = .ok (f d) h) → lcL t mYes me (wipeE e vs) (l.map g) h = .ok (l.map f) h := by
    intro l
    induction l with
    | nil => exact fun _ => rfl
    | cons x r ih =>
      intro q
      obtain ⟨e1, a, b⟩ := q x List.mem_cons_self
      rw [List.map_cons, List.map_cons, lcL_is]
      unfold lcOne
      rw [a]
      show bR (bR (me e1 h) _) _ = _
      rw [b, bR_ok, bR_ok, ih fun d z => q d (List.mem_cons_of_mem _ z), bR_ok]
  rw [z l q]
/-- one turn of a loop -/
def wR (fg : List Nat) : SRes → SRes
  | .nx e h => .nx (wipeE e fg) h
  | .ct e h => .nx (wipeE e fg) h
  | .bk e h => .bk (wipeE e fg) h
  | r => r
@[simp] theorem wR_nx (fg : List Nat) (e : En) (h : HP) : wR fg (.nx e h) = .nx (wipeE e fg) h := rfl
@[simp] theorem wR_ct (fg : List Nat) (e : En) (h : HP) : wR fg (.ct e h) = .nx (wipeE e fg) h := rfl
@[simp] theorem wR_bk (fg : List Nat) (e : En) (h : HP) : wR fg (.bk e h) = .bk (wipeE e fg) h := rfl
@[simp] theorem wR_rt (fg : List Nat) (d : DV) (h : HP) : wR fg (.rt d h) = .rt d h := rfl
@[simp] theorem wR_exc (fg : List Nat) (x : Ex) (e : En) (h : HP) : wR fg (.exc x e h) = .exc x e h := rfl
def oR (o : Option En) (k : En → SRes) : SRes := match o with
  | some e => k e
  | none => .bad
@[simp] theorem oR_some (e : En) (k : En → SRes) : oR (some e) k = k e := rfl
def turn (t : DV → En → Option En) (b : Stm) (fg : List Nat) (d : DV) (e : En) (h : HP) : SRes := wR fg (oR (t d e) fun e1 => b e1 h)
@[simp] theorem turn_app (t : DV → En → Option En) (b : Stm) (fg : List Nat) (d : DV) (e : En) (h : HP) : turn t b fg d e h = wR fg (oR (t d e) fun e1 => b e1 h) := rfl
def lR (r : SRes) (k : Stm) : SRes := match r with
  | .nx e h => k e h
  | .bk e h => .nx e h
  | r => r
@[simp] theorem lR_nx (e : En) (h : HP) (k : Stm) : lR (.nx e h) k = k e h := rfl
@[simp] theorem lR_bk (e : En) (h : HP) (k : Stm) : lR (.bk e h) k = .nx e h := rfl
@[simp] theorem lR_rt (d : DV) (h : HP) (k : Stm) : lR (.rt d h) k = .rt d h := rfl
@[simp] theorem lR_exc (x : Ex) (e : En) (h : HP) (k : Stm) : lR (.exc x e h) k = .exc x e h := rfl
@[simp] theorem forL_nil (t : DV → En → Option En) (b : Stm) (fg : List Nat) (e : En) (h : HP) : forL t b fg [] e h = .nx e h := rfl
theorem forL_cons (t : DV → En → Option En) (b : Stm) (fg : List Nat) (d : DV) (ds : List DV) (e : En) (h : HP) : forL t b fg (d :: ds) e h = lR (turn t b fg d e h) (forL t b fg ds) := by
  conv => lhs; unfold forL
  unfold turn lR wR oR
  cases t d e with
  | none => rfl
  | some e1 =>
    simp only []
    cases b e1 h <;> rfl
/-- a loop of plain turns -/
theorem forL_fold {A S : Type} (g : A → DV) (E : S → En) (f : S → A → S) {t : DV → En → Option En} {b : Stm} {fg : List Nat} {h : HP} (P : S → List A → Prop) : ∀ (l : List A) (s : S), P s l → (∀ s x r, P s (x :: r) → P (f s x) r ∧ turn t b fg (g x) (E s) h = .nx (E (f s x)) h) →
    forL t b fg (l.map g) (E s) h = .nx (E (l.foldl f s)) h
  | [], s, _, _ => rfl
  | x :: r, s, p, q => by
    obtain ⟨p2, a⟩ := q s x r p
    rw [List.map_cons, forL_cons, a, lR_nx, forL_fold g E f P r (f s x) p2 q, List.foldl_cons]
@[simp] theorem setAll_cons (i : Nat) (is : List Nat) (d : DV) (ds : List DV) (e : En) : setAll (i :: is) (d :: ds) e = setAll is ds (e.set i (.val d)) := rfl
@[simp] theorem setAll_nil (ds : List DV) (e : En) : setAll [] ds e = e := rfl
@[simp] theorem wipeE_nil (e : En) : wipeE e [] = e := rfl
@[simp] theorem wipeE_cons (e : En) (v : Nat) (vs : List Nat) : wipeE e (v :: vs) = (wipeE e vs).set v .none := rfl
@[simp] theorem tName_app (i : Nat) (d : DV) (e : En) : tName i d e = some (e.set i (.val d)) := rfl
@[simp] theorem tTup_app2 (i j : Nat) (a b : DV) (e : En) : tTup [i, j] (.tup [a, b]) e = some ((e.set i (.val a)).set j (.val b)) := rfl
theorem rng_map (n : Nat) : rng n = (List.range n).map fun (k : Nat) => DV.int (k : Int) := rfl
@[simp] theorem zipD_nil (m : List DV) : zipD [] m = [] := rfl
@[simp] theorem zipD_nil2 (l : List DV) : zipD l [] = [] := by cases l <;> rfl
@[simp] theorem zipD_cons (x y : DV) (l m : List DV) : zipD (x :: l) (y :: m) = .tup [x, y] :: zipD l m := rfl
/-- a loop whose turns may return -/
def xR {S : Type} (E : S → En) (h : HP) : Except DV S → SRes
  | .ok s => .nx (E s) h
  | .error d => .rt d h
def runE {A S : Type} (f : S → A → Except DV S) : List A → S → Except DV S
  | [], s => .ok s
  | x :: r, s => match f s x with
    | .ok s2 => runE f r s2
    | .error d => .error d
theorem forL_run {A S : Type} (g : A → DV) (E : S → En) (f : S → A → Except DV S) {t : DV → En → Option En} {b : Stm} {fg : List Nat} {h : HP} (P : S → List A → Prop) : ∀ (l : List A) (s : S), P s l → (∀ s x r, P s (x :: r) → (∀ s2, f s x = .ok s2 → P s2 r) ∧ turn t b fg (g x) (E s) h = xR E h (f s x)) →
    forL t b fg (l.map g) (E s) h = xR E h (runE f l s)
  | [], s, _, _ => rfl
  | x :: r, s, p, q => by
    obtain ⟨p2, a⟩ := q s x r p
    rw [List.map_cons, forL_cons, a]
    unfold runE
    cases z : f s x with
    | error d => rfl
    | ok s2 =>
      show lR (.nx (E s2) h) _ = _
      rw [lR_nx, forL_run g E f P r s2 (p2 s2 z) q]
/-- turns that gather, or end -/
theorem runE_app {A B : Type} (ok : A → Bool) (f : A → B) (d : DV) (l : List A) (s : List B) : runE (fun s x => if ok x then .ok (s ++ [f x]) else .error d) l s = if l.all ok then .ok (s ++ l.map f) else .error d := by
  induction l generalizing s with
  | nil => simp [runE]
  | cons x r ih =>
    unfold runE
    cases z : ok x with
    | false => simp [z]
    | true => simp [z, ih]
theorem runE_pre {A B : Type} (ok : A → Bool) (f : A → B) (d : DV) (l : List A) (s : List B) : runE (fun s x => if ok x then .ok (f x :: s) else .error d) l s = if l.all ok then .ok ((l.map f).reverse ++ s) else .error d := by
  induction l generalizing s with
  | nil => simp [runE]
  | cons x r ih =>
    unfold runE
    cases z : ok x with
    | false => simp [z]
    | true => simp [z, ih]
theorem range_rev (n : Nat) : (List.range n).reverse = (List.range n).map fun j => n - 1 - j := by
  apply List.ext_getElem
  · simp
  · intro i h1 h2
    simp at h1 h2 ⊢
end LM

/-! Lists that change: a new one that is handed on, its items set; an own one's items set. -/
namespace LM
open PySem L2

theorem nodup_at : ∀ {l : List Addr} {i j : Nat}, l.Nodup → (hi : i < l.length) → (hj : j < l.length) → l[i] = l[j] → i = j
  | [], _, _, _, hi, _, _ => by cases hi
  | x :: r, 0, 0, _, _, _, _ => rfl
  | x :: r, 0, j + 1, n, _, hj, e => by
    have e : x = r[j]'(by simpa using hj) := e
    exact absurd (e ▸ List.getElem_mem _) (List.nodup_cons.mp n).1
  | x :: r, i + 1, 0, n, hi, _, e => by
    have e : r[i]'(by simpa using hi) = x := e
    exact absurd (e ▸ List.getElem_mem _) (List.nodup_cons.mp n).1
  | x :: r, i + 1, j + 1, n, hi, hj, e => by
    have e : r[i]'(by simpa using hi) = r[j]'(by simpa using hj) := e
    rw [nodup_at (List.nodup_cons.mp n).2 (by simpa using hi) (by simpa using hj) e]
section
variable {c : Cn} {W : Wd} {e : En} {h : HP} {s : L2.St} {H : Hp}
/-- an object on the changing heap is changed -/
theorem HSim.write {g : Glue} {p : Nat} {o o' : HObj} {a : Addr} {u u' : HO} (S : HSim g W h H) (e1 : h[p]? = some o) (e2 : W.r[p]? = some a) (eu : H a = some u) (new : Per W H W (upd H a u') → RepO g W (upd H a u') o' a) :
    Step W H W (upd H a u') ∧ HSim g W (h.set p o') (upd H a u') := by
  have st : Step W H W (upd H a u') := ⟨fun _ f => f, fun _ _ f => f, fun b w q n => by
    have hne : b ≠ a := fun z => by
      subst z
      exact n (List.mem_of_getElem? e2)
    rw [upd_ne hne]
    exact q, fun b q => by
    by_cases z : b = a
    · rw [z, upd_same] at q
      cases q
    · rw [upd_ne z] at q
      exact q, fun _ f => .inl f, fun _ f => .inl f⟩
  have pr := st.per S
  refine ⟨st, by rw [List.length_set]; exact S.len, S.nd, fun q ob b q1 q2 => ?_, fun b f => ?_⟩
  · by_cases z : q = p
    · subst z
      rw [e2] at q2
      cases q2
      have hp : q < h.length := (List.getElem?_eq_some_iff.mp e1).1
      rw [List.getElem?_set_self hp] at q1
      cases q1
      exact ⟨new pr, (S.o q o a e1 e2).2⟩
    · rw [List.getElem?_set_ne (Ne.symm z)] at q1
      obtain ⟨r, n⟩ := S.o q ob b q1 q2
      have hne : b ≠ a := fun w => by
        subst w
        have h1 := (List.getElem?_eq_some_iff.mp q2)
        have h2 := (List.getElem?_eq_some_iff.mp e2)
        obtain ⟨l1, g1⟩ := h1
        obtain ⟨l2, g2⟩ := h2
        exact z (nodup_at S.nd l1 l2 (g1.trans g2.symm))
      refine ⟨?_, n⟩
      cases ob with
      | lst l =>
        obtain ⟨vs, e3, r3⟩ := r
        exact ⟨vs, by rw [upd_ne hne]; exact e3, r3.per pr _ _⟩
      | obj k l =>
        obtain ⟨dx, vs, e3, e4, r3⟩ := r
        exact ⟨dx, vs, by rw [upd_ne hne]; exact e3, e4, r3.per pr _ _⟩
  · obtain ⟨w, q⟩ := S.fs b f
    have hne : b ≠ a := fun z => (S.o p o a e1 e2).2 (z ▸ f)
    exact ⟨w, by rw [upd_ne hne]; exact q⟩
/-- a new object comes onto the changing heap -/
theorem HSim.add {g : Glue} {a : Addr} {o : HObj} (S : HSim g W h H) (n1 : ¬ W.F a) (n2 : a ∉ W.r) (r : RepO g W H o a) : HSim g ⟨W.F, W.r ++ [a]⟩ (h ++ [o]) H := by
  have pr : Per W H ⟨W.F, W.r ++ [a]⟩ H := ⟨fun _ f => f, fun p b q => by
    show (W.r ++ [a])[p]? = some b
    rw [List.getElem?_append_left (List.getElem?_eq_some_iff.mp q).1]
    exact q, fun _ _ => rfl, fun _ _ q => q, fun _ _ _ q => q⟩
  have rp : ∀ (o : HObj) (b : Addr), RepO g W H o b → RepO g ⟨W.F, W.r ++ [a]⟩ H o b := fun o b r => by
    cases o with
    | lst l =>
      obtain ⟨vs, e3, r3⟩ := r
      exact ⟨vs, e3, r3.per pr _ _⟩
    | obj k l =>
      obtain ⟨dx, vs, e3, e4, r3⟩ := r
      exact ⟨dx, vs, e3, e4, r3.per pr _ _⟩
  refine ⟨by rw [List.length_append, List.length_append, S.len]; rfl, ?_, fun p ob b q1 q2 => ?_, S.fs⟩
  · show (W.r ++ [a]).Nodup
    rw [List.nodup_append]
    refine ⟨S.nd, by simp, fun x hx y hy z => ?_⟩
    rw [List.mem_singleton.mp hy] at z
    exact n2 (z ▸ hx)
  · have q2 : (W.r ++ [a])[p]? = some b := q2
    by_cases hp : p < h.length
    · rw [List.getElem?_append_left hp] at q1
      rw [List.getElem?_append_left (by rw [S.len]; exact hp)] at q2
      obtain ⟨r1, n⟩ := S.o p ob b q1 q2
      exact ⟨rp _ _ r1, n⟩
    · have l1 : p < (h ++ [o]).length := (List.getElem?_eq_some_iff.mp q1).1
      rw [List.length_append] at l1
      have e1 : p = h.length := by
        simp at l1
        omega
      subst e1
      rw [List.getElem?_append_right (Nat.le_refl _), Nat.sub_self] at q1
      rw [List.getElem?_append_right (by rw [S.len]; exact Nat.le_refl _), S.len, Nat.sub_self] at q2
      cases q1
      cases q2
      exact ⟨rp _ _ r, n1⟩
end

/-- a new list, handed on -/
def eNew (m : En → M (List DV)) : En → M DV := fun e h => match m e h with
  | .ok l h1 => .ok (.ref h1.length) (h1 ++ [.lst l])
  | .exc x h1 => .exc x h1
  | .bad => .bad
section
variable {X : Cx} {c : Cn} {pos : Pos} {ex : Expr} {m : En → M (List DV)}
theorem new_use {s : L2.St} {H : Hp} {Q : VK} (q : RE c (eNew m) s H Q) : RO c m s H Q := by
  obtain ⟨W, e, h, S0, q⟩ := q
  refine ⟨W, e, h, S0, ?_⟩
  unfold eNew at q
  cases z : m e h with
  | bad =>
    rw [z] at q
    exact q.elim
  | exc x h1 =>
    rw [z] at q
    exact q
  | ok l h1 =>
    rw [z] at q
    intro W1 H1 v t S1 o
    obtain ⟨a, vs, e1, e2, r, n1, n2, n3⟩ := o
    have hs := S1.hs.add n1 n2 (o := .lst l) ⟨vs, e2, r⟩
    have st : Step W H ⟨W1.F, W1.r ++ [a]⟩ H1 := ⟨t.f, fun p b q => by
      show (W1.r ++ [a])[p]? = some b
      have q1 := t.r p b q
      rw [List.getElem?_append_left (List.getElem?_eq_some_iff.mp q1).1]
      exact q1, t.k, t.th, t.nf, fun b hb => by
      rcases List.mem_append.mp hb with y | y
      · exact t.nr b y
      · rw [List.mem_singleton.mp y]
        exact .inr n3⟩
    refine q ⟨W1.F, W1.r ++ [a]⟩ H1 v st (S0.step st hs) ?_
    subst e1
    simp only [Rep]
    refine ⟨a, rfl, ?_⟩
    show (W1.r ++ [a])[h1.length]? = some a
    rw [List.getElem?_append_right (by rw [S1.hs.len]; exact Nat.le_refl _), S1.hs.len, Nat.sub_self]
    rfl
theorem c_new (h : PE X ex (RO c m)) : PE X ex (RE c (eNew m)) := pe_imp h fun s H Q q => new_use q
end

/-! ### a list's items are set -/
def putAt (l : List DV) (d : DV) : DV → Option (List DV)
  | .int k => (match ixN l.length k with
    | some j => some (l.set j d)
    | none => none)
  | _ => none
def hSet (h : HP) (o i d : DV) : Option HP := match o with
  | .ref p => (match h[p]? with
    | some (.lst l) => (match putAt l d i with
      | some l2 => some (h.set p (.lst l2))
      | none => none)
    | _ => none)
  | _ => none
def hNx (o : Option HP) (e : En) : SRes := match o with
  | some h => .nx e h
  | none => .bad
def sSetH (mv mo mi : En → M DV) : Stm := sBind mv fun d => sBind mo fun o => sBind mi fun i e h => hNx (hSet h o i d) e
def sPut (s : Nat) (d i : DV) : Stm := fun e h => match e[s]? with
  | some (.own l) => (match putAt l d i with
    | some l2 => .nx (e.set s (.own l2)) h
    | none => .bad)
  | _ => .bad
def ownAt (o : Option Slot) : Bool := match o with
  | some (.own _) => true
  | _ => false
def sSetI (s : Nat) (mv mi : En → M DV) : Stm := fun e h => if ownAt e[s]? then sBind mv (fun d => sBind mi fun i => sPut s d i) e h else .bad
theorem putAt_ok {l l2 : List DV} {d i : DV} (h : putAt l d i = some l2) : ∃ k j, i = .int k ∧ ixN l.length k = some j ∧ l2 = l.set j d := by
  unfold putAt at h
  split at h
  · rename_i k
    split at h
    · rename_i j e
      cases h
      exact ⟨k, j, rfl, e, rfl⟩
    · cases h
  · cases h
section
variable {X : Cx} {c : Cn} {pos p1 : Pos} {ex o i : Expr} {mv mo mi : En → M DV}
theorem s_setH (hv : PE X ex (RE c mv)) (ho : PE X o (RE c mo)) (hi : PE X i (RE c mi)) (hs : swapsWithSole [.Subscript o i p1] ex pos.line X.env = pure false := by rfl) (hw : swappedStores [.Subscript o i p1] ex X.env = pure none := by rfl)
    (h1 : (assignEach [.Subscript o i p1] X.env).map (·.2) = [assign (.Subscript o i p1) X.env] := by rfl)
    (ha : ∀ v, assign (.Subscript o i p1) X.env v = (do
      let ov ← holding [v] (eval o X.env)
      let iv ← holding [v, ov] (eval i X.env)
      standAt p1
      holding [v, ov, iv] (setItem ov iv v)
      release [v, ov, iv] []) := by intro _; rfl) : PS X (.Assign [.Subscript o i p1] ex pos) (RS c (sSetH mv mo mi)) :=
  ps_imp (ps_asg hv (pg_sub ho hi set_list ha) hs hw h1) fun D s H q => by
    unfold sSetH at q
    refine sb_use q fun W e W1 H1 d v h1 t1 S1 r1 q1 => ⟨W1, e, h1, S1, sb_at S1 q1 fun W2 H2 o w h2 t2 S2 r2 q2 => ⟨W2, e, h2, S2, sb_at S2 q2 fun W3 H3 i u h3 t3 S3 r3 q3 => ?_⟩⟩
    have rd := stays_V.go S2.hs t3 (stays_V.go S1.hs t2 r1)
    have ro := stays_V.go S2.hs t3 r2
    have q4 : PostS c W3 H3 (hNx (hSet h3 o i d) e) D := q3
    unfold hSet at q4
    cases o with
    | ref p =>
      simp only [] at q4
      cases z : h3[p]? with
      | none =>
        rw [z] at q4
        exact q4.elim
      | some ob =>
        rw [z] at q4
        cases ob with
        | obj k l => exact q4.elim
        | lst l =>
          simp only [] at q4
          cases z2 : putAt l d i with
          | none =>
            rw [z2] at q4
            exact q4.elim
          | some l2 =>
            rw [z2] at q4
            have q5 : PostS c W3 H3 (.nx e (h3.set p (.lst l2))) D := q4
            obtain ⟨k, j, ei, ej, el⟩ := putAt_ok z2
            subst ei el
            simp only [Rep] at ro r3
            obtain ⟨a, ew, ea⟩ := ro
            subst ew r3
            obtain ⟨⟨vs, e4, rs⟩, nF⟩ := S3.hs.o p _ a z ea
            obtain ⟨st, hs⟩ := S3.hs.write (o' := .lst (l.set j d)) (u' := .lst (vs.set j v)) z ea e4 fun pr => ⟨_, upd_same, (rs.per pr _ _).set (Rep.per pr _ _ rd) j⟩
            exact ⟨a, vs, k, j, rfl, rfl, e4, by rw [← rs.len]; exact ej, (q5.later (st.per S3.hs)).nx (S3.step st hs)⟩
    | _ => exact q4.elim
theorem s_setI {s0 : Nat} {x : Str} {p2 : Pos} (hN : X.N[s0]? = some x) (hvis : Vis X.env.scope x) (hv : PE X ex (RE c mv)) (hi : PE X i (RE c mi)) (hd : (x == ("__debug__" : Str)) = false := by decide) (hcd : (x == ("__classdict__" : Str)) = false := by decide)
    (hs : swapsWithSole [.Subscript (.Name x p2) i p1] ex pos.line X.env = pure false := by rfl) (hw : swappedStores [.Subscript (.Name x p2) i p1] ex X.env = pure none := by rfl)
    (h1 : (assignEach [.Subscript (.Name x p2) i p1] X.env).map (·.2) = [assign (.Subscript (.Name x p2) i p1) X.env] := by rfl)
    (ha : ∀ v, assign (.Subscript (.Name x p2) i p1) X.env v = (do
      let ov ← holding [v] (eval (.Name x p2) X.env)
      let iv ← holding [v, ov] (eval i X.env)
      standAt p1
      holding [v, ov, iv] (setItem ov iv v)
      release [v, ov, iv] []) := by intro _; rfl) : PS X (.Assign [.Subscript (.Name x p2) i p1] ex pos) (RS c (sSetI s0 mv mi)) :=
  ps_imp (ps_asg hv (pg_sub (pe_var hN hvis hd hcd) hi set_list ha) hs hw h1) fun D s H q => by
    obtain ⟨W, e, h, S0, q⟩ := q
    unfold sSetI at q
    by_cases z0 : ownAt e[s0]? = true
    · rw [if_pos z0] at q
      obtain ⟨l, z⟩ : ∃ l, e[s0]? = some (.own l) := by
        unfold ownAt at z0
        split at z0
        · rename_i l y
          exact ⟨l, y⟩
        · cases z0
      refine ⟨W, e, h, S0, sb_at S0 q fun W1 H1 d v h1 t1 S1 r1 q1 => ?_⟩
      obtain ⟨a, vs, e2, e3, rs, nn⟩ := S1.own s0 l z
      refine ⟨.ref a, e2, W1, e, h1, S1, sb_at S1 q1 fun W3 H3 i u h3 t3 S3 r3 q3 => ?_⟩
      have rd := stays_V.go S1.hs t3 r1
      have q4 : PostS c W3 H3 (sPut s0 d i e h3) D := q3
      unfold sPut at q4
      rw [z] at q4
      simp only [] at q4
      cases z2 : putAt l d i with
      | none =>
        rw [z2] at q4
        exact q4.elim
      | some l2 =>
        rw [z2] at q4
        have q5 : PostS c W3 H3 (.nx (e.set s0 (.own l2)) h3) D := q4
        obtain ⟨k, j, ei, ej, el⟩ := putAt_ok z2
        subst ei el
        simp only [Rep] at r3
        subst r3
        obtain ⟨a1, vs1, f2, f3, rr, n1⟩ := S3.own s0 l z
        rw [e2] at f2
        have ea : a = a1 := V.ref.inj (Option.some.inj (Option.some.inj f2))
        subst ea
        obtain ⟨S4, p4⟩ := S3.chgOwn (y := .own (l.set j d)) (o' := .lst (vs1.set j v)) z rfl e2 f3 (fun _ w => by cases w) (fun _ _ w => by cases w) n1 rfl fun p => ⟨⟨_, upd_same, (rr.per p _ _).set (Rep.per p _ _ rd) j⟩, n1⟩
        exact ⟨a, vs1, k, j, rfl, rfl, f3, by rw [← rr.len]; exact ej, (q5.later p4).nx S4⟩
    · rw [if_neg z0] at q
      exact q.elim
end
section
variable {T : Tp} {X : Cx} {c : Cn} {N : List Str} {k : Nat} {sc : Scope} {x : Str} {pos p1 p2 : Pos} {ex i : Expr} {mv mi : En → M DV}
theorem k_setI {s0 : Nat} (h : XSt T X c N k sc) (hN : N[s0]? = some x) (hvis : Vis sc x) (hv : PE X ex (RE c mv)) (hi : PE X i (RE c mi)) (hd : (x == ("__debug__" : Str)) = false := by decide) (hcd : (x == ("__classdict__" : Str)) = false := by decide)
    (hs : swapsWithSole [.Subscript (.Name x p2) i p1] ex pos.line X.env = pure false := by rfl) (hw : swappedStores [.Subscript (.Name x p2) i p1] ex X.env = pure none := by rfl)
    (h1 : (assignEach [.Subscript (.Name x p2) i p1] X.env).map (·.2) = [assign (.Subscript (.Name x p2) i p1) X.env] := by rfl)
    (ha : ∀ v, assign (.Subscript (.Name x p2) i p1) X.env v = (do
      let ov ← holding [v] (eval (.Name x p2) X.env)
      let iv ← holding [v, ov] (eval i X.env)
      standAt p1
      holding [v, ov, iv] (setItem ov iv v)
      release [v, ov, iv] []) := by intro _; rfl) : PS X (.Assign [.Subscript (.Name x p2) i p1] ex pos) (RS c (sSetI s0 mv mi)) :=
  s_setI (h.e.at hN) (h.e.vis hvis) hv hi hd hcd hs hw h1 ha
end
/-! ### what these answer -/
@[simp] theorem eNew_app (m : En → M (List DV)) (e : En) (h : HP) : eNew m e h = bR (m e h) fun l h1 => .ok (.ref h1.length) (h1 ++ [.lst l]) := by
  unfold eNew
  cases m e h <;> rfl
@[simp] theorem sSetH_app (mv mo mi : En → M DV) (e : En) (h : HP) : sSetH mv mo mi e h = uR (mv e h) e fun d e h => uR (mo e h) e fun o e h => uR (mi e h) e fun i e h => hNx (hSet h o i d) e := rfl
@[simp] theorem hNx_some (h : HP) (e : En) : hNx (some h) e = .nx e h := rfl
def putR (o : Option (List DV)) (s : Nat) (e : En) (h : HP) : SRes := match o with
  | some l => .nx (e.set s (.own l)) h
  | none => .bad
@[simp] theorem putR_some (l : List DV) (s : Nat) (e : En) (h : HP) : putR (some l) s e h = .nx (e.set s (.own l)) h := rfl
@[simp] theorem sPut_app (s : Nat) (d i : DV) (e : En) (h : HP) : sPut s d i e h = slO e[s]? fun l => putR (putAt l d i) s e h := by
  unfold sPut
  cases e[s]? with
  | none => rfl
  | some x =>
    cases x with
    | own l =>
      simp only [slO_own]
      cases putAt l d i <;> rfl
    | _ => rfl
@[simp] theorem ownAt_own (l : List DV) : ownAt (some (.own l)) = true := rfl
@[simp] theorem sSetI_app (s : Nat) (mv mi : En → M DV) (e : En) (h : HP) : sSetI s mv mi e h = if ownAt e[s]? then uR (mv e h) e fun d e h => uR (mi e h) e fun i e h => sPut s d i e h else .bad := rfl
theorem putAt_nat (l : List DV) (d : DV) (k : Nat) (hk : k < l.length) : putAt l d (.int (k : Int)) = some (l.set k d) := by
  have e : ixN l.length (k : Int) = some k := by
    unfold ixN
    rw [if_pos (Int.natCast_nonneg k), if_pos (by omega)]
    rfl
  show (match ixN l.length (k : Int) with
    | some j => some (l.set j d)
    | none => none) = _
  rw [e]
end LM

/-! zip and enumerate over lists and tuples in any mix. -/
namespace LM
open PySem L2

/-- a list (false) or a tuple (true) -/
def SqB (b : Bool) (K : PySem.W.Frag) (H : Hp) (a : Addr) (xs : List V) : Prop := match b with
  | true => SqT K H a xs
  | false => SqL K H a xs
def IsB (b : Bool) (h : Heap) (a : Addr) (items : Array Value) : Prop := match b with
  | true => h.IsTuple a items
  | false => h.IsList a items
def ItB (b : Bool) (h : Heap) (it a : Addr) (i : Nat) : Prop := match b with
  | true => h.IsTupleIter it a i
  | false => h.IsListIter it a i
theorem ItB.obj {b : Bool} {h : Heap} {it a : Addr} {i : Nat} (x : ItB b h it a i) : ∃ o vs, h.get? it = some o ∧ o.data = .fields vs := by
  cases b with
  | true =>
    obtain ⟨o, e, _, d⟩ := x
    exact ⟨o, _, e, d⟩
  | false =>
    obtain ⟨o, e, _, d⟩ := x
    exact ⟨o, _, e, d⟩
theorem ItB.keep {b : Bool} {h h' : Heap} {it a : Addr} {i : Nat} (x : ItB b h it a i) (k : ∀ o, h.get? it = some o → h'.get? it = some o) : ItB b h' it a i := by
  cases b with
  | true => exact Heap.IsTupleIter.at x k
  | false => exact Heap.IsListIter.at x k
theorem IsB.lt {b : Bool} {h : Heap} {a : Addr} {items : Array Value} (x : IsB b h a items) : a < h.objs.size := by
  cases b with
  | true =>
    obtain ⟨o, e, _⟩ := x
    exact Heap.lt_size e
  | false =>
    obtain ⟨o, e, _⟩ := x
    exact Heap.lt_size e
theorem sqB_is {X : Cx} {pins : List (Addr × Obj)} {σ : L2.St} {H : Hp} {s : Shared} {b : Bool} {a : Addr} {xs : List V} (I : Inv X pins σ H s) (q : SqB b X.K H a xs) : ∃ its : List Value, Vals xs its ∧ IsB b s.heap a its.toArray := by
  cases b with
  | true =>
    obtain ⟨its, rv, p, _⟩ := I.tuple q
    exact ⟨its, rv, p⟩
  | false =>
    obtain ⟨its, rv, p, _⟩ := I.list q
    exact ⟨its, rv, p.isList⟩
theorem sqB_inj {X : Cx} {pins : List (Addr × Obj)} {σ : L2.St} {H : Hp} {s : Shared} {b : Bool} {a : Addr} {xs ys : List V} (I : Inv X pins σ H s) (q : SqB b X.K H a xs) (r : SqB b X.K H a ys) : xs = ys := by
  cases b with
  | true => exact I.tuple_inj q r
  | false => exact I.list_inj q r
theorem drawsB {prog : Program} {w : World} {A : Around} (hh : A.handled = none) (b : Bool) (it a : Addr) (hne : a ≠ it) (items : Array Value) :
    Draws prog w A it [it, a] items.size (fun i v => items[i]? = some v) (fun i h => ItB b h it a i ∧ IsB b h a items) := by
  cases b with
  | true => exact Draws.tuple hh it a hne items
  | false => exact Draws.list hh it a hne items
def iterObj (b : Bool) (a : Addr) : Obj := match b with
  | true => { cls := .type "tuple_iterator", data := .fields #[.ref a, .int 0 0] }
  | false => { cls := .type "list_iterator", data := .fields #[.ref a, .int 0 0] }
theorem beginsB (b : Bool) (a : Addr) (items : Array Value) : Begins (.ref a) (iterObj b a) fun h => IsB b h a items := by
  cases b with
  | true => exact begins_tuple a items
  | false => exact begins_list a items
theorem itB_new {b : Bool} {h : Heap} {it a : Addr} (e : h.get? it = some (iterObj b a)) : ItB b h it a 0 := by
  cases b with
  | true => exact ⟨_, e, rfl, rfl⟩
  | false => exact ⟨_, e, rfl, rfl⟩

theorem isB_ne {b : Bool} {h : Heap} {a it : Addr} {i : Nat} {items : Array Value} (p : IsB b h a items) (x : ItB b h it a i) : a ≠ it := fun q => by
  obtain ⟨o, v, e, d⟩ := x.obj
  cases b with
  | true =>
    obtain ⟨o', e', _, n, d'⟩ := p
    rw [q, e] at e'
    cases e'
    rw [d] at d'
    cases d'
  | false =>
    obtain ⟨o', e', _, n, d'⟩ := p
    rw [q, e] at e'
    cases e'
    rw [d] at d'
    cases d'
/-! ### zip -/
def ItzB (b1 b2 : Bool) (K : PySem.W.Frag) (a b : Addr) : It :=
  ⟨fun i H => ∃ (xs ys : List V) (x y : V), SqB b1 K H a xs ∧ SqB b2 K H b ys ∧ xs[i]? = some x ∧ ys[i]? = some y,
    fun i H v H' => ∃ T x y, v = .ref T ∧ H T = none ∧ H' = upd H T (.tup [x, y]) ∧ (∀ xs, SqB b1 K H a xs → xs[i]? = some x) ∧ (∀ ys, SqB b2 K H b ys → ys[i]? = some y),
    fun i H => ∃ xs ys : List V, SqB b1 K H a xs ∧ SqB b2 K H b ys ∧ i ≤ xs.length ∧ i ≤ ys.length ∧ (i = xs.length ∨ i = ys.length)⟩
theorem five {c z TI TO i1 i2 : Addr} : c ∈ [z, TI, TO, i1, i2] ↔ c = z ∨ c = TI ∨ c = TO ∨ c = i1 ∨ c = i2 := by simp
theorem turn_zipB {P : Program} {w : World} {K : PySem.W.Frag} {elts : List Expr} {kk : Nat} {tpos : Pos} (b1 b2 : Bool) {a b z TI TO i1 i2 : Addr} (D : ZipSep2 z TI TO i1 i2 [i1, a] [i2, b]) :
    Turn P w K (.Tuple elts kk tpos) (ItzB b1 b2 K a b) [z, TI, TO, i1, i2] z
      (fun i h => IsZip h z TI TO .none ∧ IsTupOf2 h TI (.ref i1) (.ref i2) ∧ (∃ x y, IsTupOf2 h TO x y) ∧ ItB b1 h i1 a i ∧ ItB b2 h i2 b i) where
  mem := five.mpr (.inl rfl)
  obj := fun i h st c hc => by
    obtain ⟨hz, hTI, ⟨x, y, hTO⟩, h1, h2⟩ := st
    obtain ⟨o1, v1, e1, d1⟩ := h1.obj
    obtain ⟨o2, v2, e2, d2⟩ := h2.obj
    rcases five.mp hc with q | q | q | q | q <;> subst q
    · exact ⟨_, hz, fun v q => by cases q⟩
    · exact ⟨_, hTI, fun v q => by cases q⟩
    · exact ⟨_, hTO, fun v q => by cases q⟩
    · exact ⟨_, e1, fun v q => by rw [d1] at q; cases q⟩
    · exact ⟨_, e2, fun v q => by rw [d2] at q; cases q⟩
  keep := fun i h h' st k => by
    obtain ⟨hz, hTI, ⟨x, y, hTO⟩, h1, h2⟩ := st
    have kk := fun c (m : c = z ∨ c = TI ∨ c = TO ∨ c = i1 ∨ c = i2) => k c (five.mpr m)
    exact ⟨kk z (.inl rfl) _ hz, kk TI (.inr (.inl rfl)) _ hTI, ⟨x, y, kk TO (.inr (.inr (.inl rfl))) _ hTO⟩, h1.keep (kk i1 (.inr (.inr (.inr (.inl rfl))))), h2.keep (kk i2 (.inr (.inr (.inr (.inr rfl)))))⟩
  item := by
    intro X hP hw hK hc i pins s σ H E I hf st hg
    subst hP hw hK
    obtain ⟨hz, hTI, ⟨x0, y0, hTO⟩, h1, h2⟩ := st
    obtain ⟨xs, ys, x, y, qx, qy, ex, ey⟩ := hg
    obtain ⟨its, rv, p⟩ := sqB_is I qx
    obtain ⟨its2, rv2, p2⟩ := sqB_is I qy
    obtain ⟨u, hu, ru⟩ := rv.get ex
    obtain ⟨u2, hu2, ru2⟩ := rv2.get ey
    have lz : z < s.heap.objs.size := Heap.lt_size hz
    have lt1 : i < its.toArray.size := by
      have q := (List.getElem?_eq_some_iff.mp hu).1
      simpa using q
    have lt2 : i < its2.toArray.size := by
      have q := (List.getElem?_eq_some_iff.mp hu2).1
      simpa using q
    have na : a ≠ i1 := isB_ne p h1
    have nb : b ≠ i2 := isB_ne p2 h2
    have hh : X.A.in1.handled = none := I.ok.hd hc
    refine wpAny_pyNext_zipD2_item D (drawsB hh b1 i1 a na its.toArray) (drawsB hh b2 i2 b nb its2.toArray) hz hTI hTO ⟨h1, p⟩ ⟨h2, p2⟩ lt1 lt2 fun x1 x2 h' tk P1 P2 z' TO' s1' s2' hT sz k => ?_
    have e1 : x1 = u := by
      have q : its[i]? = some x1 := by simpa using P1
      exact Option.some.inj (q.symm.trans hu)
    have e2 : x2 = u2 := by
      have q : its2[i]? = some x2 := by simpa using P2
      exact Option.some.inj (q.symm.trans hu2)
    subst e1 e2
    refine ⟨_, rfl, wpAny_letOwnedTupleGo_zip (s := { s with heap := h', toks := tk }) z' fun h'' z'' sb => ?_⟩
    have hT2 : h''.get? s.heap.objs.size = some { cls := .type "tuple", data := .seq #[x1, x2] } := (sb.2 _ (Nat.ne_of_gt lz)).trans hT
    have new : ObjOk X.prog X.w (upd H s.heap.objs.size (.tup [x, y])) h'' s.heap.objs.size (.tup [x, y]) := ⟨by show 2 ≤ sizeLine; decide +kernel, [x1, x2], .cons ru (.cons ru2 .nil), ⟨_, hT2, rfl, _, rfl⟩⟩
    have I1 : Inv X pins σ (upd H s.heap.objs.size (.tup [x, y])) { s with heap := h'', toks := tk } := I.turnedNew (ch := [z, TI, TO, i1, i2]) (fun c o hb q => by
      have hb : ¬ (c = z ∨ c = TI ∨ c = TO ∨ c = i1 ∨ c = i2) := fun w => hb (five.mpr w)
      exact (sb.2 c fun w => hb (.inl w)).trans (k c o (fun w => hb (.inl w)) (fun w => hb (.inr (.inr (.inl w)))) (fun w => hb (.inr (.inr (.inr (.inl w))))) (fun w => hb (.inr (.inr (.inr (.inr w))))) q)) hf (Nat.le_refl _) new
    refine ⟨.ref s.heap.objs.size, _, I1, rfl, ⟨_, x, y, rfl, I.hok.fresh (Nat.le_refl _), rfl, fun l q => by rw [sqB_inj I q qx]; exact ex, fun l q => by rw [sqB_inj I q qy]; exact ey⟩, ⟨z'', ?_, ⟨x1, x2, ?_⟩, ?_, ?_⟩, fun c hcm => ?_⟩
    · exact (sb.2 _ D.TIz).trans (k _ _ D.TIz D.TITO D.TIi1 D.TIi2 hTI)
    · exact (sb.2 _ D.TOz).trans TO'
    · exact s1'.1.keep fun o q => (sb.2 _ (Ne.symm D.zi1)).trans q
    · exact s2'.1.keep fun o q => (sb.2 _ (Ne.symm D.zi2)).trans q
    · obtain ⟨o1, v1, g1, _⟩ := h1.obj
      obtain ⟨o2, v2, g2, _⟩ := h2.obj
      have lt : c < s.heap.objs.size := by
        rcases five.mp hcm with q | q | q | q | q <;> subst q
        · exact lz
        · exact Heap.lt_size hTI
        · exact Heap.lt_size hTO
        · exact Heap.lt_size g1
        · exact Heap.lt_size g2
      rw [upd_ne (Nat.ne_of_lt lt)]
      exact (hf c hcm).1
  done := by
    intro X hP hw hK hc i pins s σ H E I hf st hg
    subst hP hw hK
    obtain ⟨hz, hTI, ⟨x0, y0, hTO⟩, h1, h2⟩ := st
    obtain ⟨xs, ys, qx, qy, l1, l2, hend⟩ := hg
    obtain ⟨its, rv, p⟩ := sqB_is I qx
    obtain ⟨its2, rv2, p2⟩ := sqB_is I qy
    have m1 := rv.length
    have m2 := rv2.length
    have hh : X.A.in1.handled = none := I.ok.hd hc
    exact wpAny_pyNext_zipD2_end D (drawsB hh b1 i1 a (isB_ne p h1) its.toArray) (drawsB hh b2 i2 b (isB_ne p2 h2) its2.toArray) hz hTI hTO ⟨h1, p⟩ ⟨h2, p2⟩ (by simp; omega) (by simp; omega) (by
      rcases hend with q | q
      · left
        simp
        omega
      · right
        simp
        omega) fun h' tk k => ⟨rfl, I.turnedL (t' := tk) (ch := [z, TI, TO, i1, i2]) (fun c o hb q => by
      have hb : ¬ (c = z ∨ c = TI ∨ c = TO ∨ c = i1 ∨ c = i2) := fun w => hb (five.mpr w)
      exact k c o (fun w => hb (.inl w)) (fun w => hb (.inr (.inr (.inl w)))) (fun w => hb (.inr (.inr (.inr (.inl w))))) (fun w => hb (.inr (.inr (.inr (.inr w))))) q) hf⟩
  self := fun A i s Q E st h => wpAny_pyIter_zip st.1 h
theorem pairE {b e it : Addr} : b ∈ [e, it] ↔ b = e ∨ b = it := by simp
theorem sep_new (n a b : Nat) (la : a < n) (lb : b < n) : ZipSep2 (n + 4) (n + 2) (n + 3) n (n + 1) [n, a] [n + 1, b] := by
  have two : ∀ {x y z : Nat}, x ≠ y → x ≠ z → x ∉ [y, z] := fun h1 h2 m => (pairE.mp m).elim h1 h2
  have one : ∀ {x y : Nat}, x ≠ y → x ≠ y := id
  exact ⟨one (by omega), one (by omega), one (by omega), one (by omega), by simp, two (by omega) (by omega), two (by omega) (by omega), one (by omega), by simp, two (by omega) (by omega), two (by omega) (by omega), two (by omega) (by omega), two (by omega) (by omega)⟩
def iZipB (K : PySem.W.Frag) (ta : TA) : TI := fun σ H R => ta σ H fun vs H1 => ∃ b1 b2 a b xs ys, vs = [.ref a, .ref b] ∧ SqB b1 K H1 a xs ∧ SqB b2 K H1 b ys ∧ R (ItzB b1 b2 K a b) H1
theorem pi_zipB {X : Cx} {e e2 : Expr} {ta : TA} {p pos tpos : Pos} {elts : List Expr} {kk : Nat} (hg : Gl X "zip") (hm : X.mg "zip" = none) (ha : PA X [e, e2] ta)
    (hs : starEach [e, e2] X.env = (false, eval e X.env) :: starEach [e2] X.env := by rfl) (hpl : (backTo pos (starEach [e2] X.env)).any (·.1) = false := by rfl) : PI X (.Tuple elts kk tpos) (.Call (.Name "zip" p) [e, e2] [] pos) (iZipB X.K ta) := by
  refine ⟨fun pins s σ H R I h => ?_⟩
  refine PyProof.Rows.Call_ (ld_blt I hg hm PyProof.Rows.boot_zip (PyProof.Rows.callWith_type1 (thn (ha.run pos pins s σ H _ I h) fun us s1 ⟨vs, H1, I1, r1, q1⟩ => ?_) hs hpl))
  obtain ⟨b1, b2, a, b, xs, ys, ev, qx, qy, q⟩ := q1
  subst ev
  cases r1 with
  | cons r rr =>
    cases rr with
    | cons r' rr =>
      cases rr
      cases r
      cases r'
      obtain ⟨its, rv, p1⟩ := sqB_is I1 qx
      obtain ⟨its2, rv2, p2⟩ := sqB_is I1 qy
      have la := p1.lt
      have lb := p2.lt
      refine zip_begins2 (beginsB b1 a its.toArray) (beginsB b2 b its2.toArray) p1 p2 fun h' hz hTI hTO h1 h2 hsz hk => wpAny_pyIter_zip hz ?_
      have I2 : Inv X pins σ H1 { s1 with heap := h' } := I1.kept (t' := s1.toks) hk
      refine ⟨s1.heap.objs.size + 4, [s1.heap.objs.size + 4, s1.heap.objs.size + 2, s1.heap.objs.size + 3, s1.heap.objs.size, s1.heap.objs.size + 1], _, _, H1, rfl, I2, turn_zipB b1 b2 (a := a) (b := b) ?_, ⟨hz, hTI, ⟨_, _, hTO⟩, itB_new h1, itB_new h2⟩, fun c hcm => ?_, q⟩
      · exact sep_new _ _ _ la lb
      · have hle : s1.heap.objs.size ≤ c := by
          rcases five.mp hcm with w | w | w | w | w <;> rw [w] <;> first
            | exact Nat.le_add_right _ _
            | exact Nat.le_refl _
        exact I1.fpOk hle (I1.hok.fresh hle)
/-- zip of two sequences -/
def itZM (x y : DV) : M (List DV) := itS x >>= fun l => itS y >>= fun m => pure (zipD l m)
theorem LsF.per {K : PySem.W.Frag} {W W2 : Wd} {H H2 : Hp} {a : Addr} {xs : List V} (p : Per W H W2 H2) (f : LsF K W H a xs) : SqL K H2 a xs := p.sqL f
/-- .. of whatever kind, behind a step -/
def SB (K : PySem.W.Frag) (W : Wd) (H : Hp) (b : Bool) (a : Addr) (vs : List V) : Prop := match b with
  | true => SqT K H a vs
  | false => LsF K W H a vs
theorem SB.per {K : PySem.W.Frag} {W W2 : Wd} {H H2 : Hp} {b : Bool} {a : Addr} {xs : List V} (p : Per W H W2 H2) (f : SB K W H b a xs) : SqB b K H2 a xs := by
  cases b with
  | true => exact p.sqT f
  | false => exact p.sqL f
theorem SB.now {K : PySem.W.Frag} {W : Wd} {H : Hp} {b : Bool} {a : Addr} {xs : List V} (f : SB K W H b a xs) : SqB b K H a xs := SB.per (Per.refl _ _) f
section
variable {X : Cx} {c : Cn} {pos p1 : Pos} {a b tg : Expr} {ma mb : En → M DV}
theorem wk_zipB {W : Wd} {H : Hp} {b1 b2 : Bool} {p q : Addr} {vs ws : List V} {ds es : List DV} (f : SB c.g.K W H b1 p vs) (f2 : SB c.g.K W H b2 q ws) (r : Reps c.g W H ds vs) (r2 : Reps c.g W H es ws) : Wk c W H (ItzB b1 b2 c.g.K p q) (zipD ds es) where
  go := fun W2 H2 pr i d e => by
    have sq := f.per pr
    have sq2 := f2.per pr
    obtain ⟨x, y, e1, e2, e3⟩ := zipD_get e
    obtain ⟨v, g1, rv⟩ := (r.per pr _ _).get e1
    obtain ⟨w, g2, rw'⟩ := (r2.per pr _ _).get e2
    refine ⟨⟨vs, ws, v, w, sq, sq2, g1, g2⟩, fun z H3 yl => ?_⟩
    obtain ⟨T, x', y', h1, h2, h3, h4, h5⟩ := yl
    have q1 : v = x' := some_inj2 g1 (h4 vs sq)
    have q2 : w = y' := some_inj2 g2 (h5 ws sq2)
    subst q1 q2
    exact .inr ⟨T, _, _, e3, h1, h2, h3, .cons rv (.cons rw' .nil)⟩
  st := fun W2 H2 pr => by
    refine ⟨vs, ws, f.per pr, f2.per pr, ?_⟩
    rw [zipD_len, r.len, r2.len]
    omega
/-- what an iterable is -/
theorem itS_src {W : Wd} {e : En} {h h' : HP} {s : L2.St} {H : Hp} {d : DV} {v : V} {l : List DV} (S : Sim c W e h s H) (r : Rep c.g W H d v) (z : itS d h = .ok l h') : h' = h ∧ ∃ b p vs, v = .ref p ∧ Reps c.g W H l vs ∧ SB c.g.K W H b p vs := by
  cases d with
  | tup l2 =>
    simp only [Rep] at r
    obtain ⟨p, vs, e1, sq, rs⟩ := r
    cases z
    exact ⟨rfl, true, p, vs, e1, rs, sq⟩
  | lst l2 =>
    simp only [Rep] at r
    obtain ⟨p, vs, e1, f, sq, rs⟩ := r
    cases z
    exact ⟨rfl, false, p, vs, e1, rs, .inl ⟨f, sq⟩⟩
  | scr l2 =>
    simp only [Rep] at r
    obtain ⟨p, e1, sq⟩ := r
    cases z
    exact ⟨rfl, false, p, _, e1, reps_ints l2, .inr sq⟩
  | _ => cases z
theorem itS_exc {d : DV} {h h' : HP} {x : Ex} (z : itS d h = .exc x h') : False := by
  unfold itS at z
  split at z <;> cases z
theorem i_zipM (hk : X.K = c.g.K) (hg : Gl X "zip") (hm : X.mg "zip" = none) {elts : List Expr} {kk : Nat} {tpos : Pos} (ha : PE X a (RE c ma)) (hb : PE X b (RE c mb)) (he : starEach [a, b] X.env = (false, eval a X.env) :: starEach [b] X.env := by rfl) (he2 : starEach [b] X.env = (false, eval b X.env) :: starEach [] X.env := by rfl)
    (hpl : (backTo pos (starEach [b] X.env)).any (·.1) = false := by rfl) : PI X (.Tuple elts kk tpos) (.Call (.Name "zip" p1) [a, b] [] pos) (RI c (iB2 ma mb itZM)) :=
  pi_imp (pi_zipB hg hm (pa_cons ha (pa_cons hb pa_nil he2) he) he hpl) fun s H R q => by
    unfold iB2 at q
    exact RX.bind q fun W e W1 H1 x v h1 t S rx q2 => ⟨W1, e, h1, S, q2.bind fun W2 H2 y w h2 t2 S2 ry q3 => by
      have rx2 := stays_V.go S.hs t2 rx
      unfold itZM at q3
      cases zx : itS x h2 with
      | bad =>
        rw [M.bind_def, zx] at q3
        exact q3.elim
      | exc z h3 => exact (itS_exc zx).elim
      | ok l h3 =>
        rw [M.bind_def, zx] at q3
        obtain ⟨eh, b1, p, vs, e1, rs, cx⟩ := itS_src S2 rx2 zx
        subst eh
        have q4 : Post c (fun W H ds J => Wk c W H J ds) e s W2 H2 ((itS y >>= fun m => pure (zipD l m)) h3) R := q3
        cases zy : itS y h3 with
        | bad =>
          rw [M.bind_def, zy] at q4
          exact q4.elim
        | exc z h4 => exact (itS_exc zy).elim
        | ok m h4 =>
          rw [M.bind_def, zy] at q4
          obtain ⟨eh, b2, p2, ws, e2, rs2, cy⟩ := itS_src S2 ry zy
          subst eh e1 e2
          refine ⟨b1, b2, p, p2, vs, ws, rfl, by rw [hk]; exact cx.now, by rw [hk]; exact cy.now, ?_⟩
          rw [hk]
          exact q4.ret S2 (wk_zipB cx cy rs rs2)⟩
end
@[simp] theorem itZM_app (x y : DV) (h : HP) : itZM x y h = bR (itS x h) fun l h => bR (itS y h) fun m h => .ok (zipD l m) h := rfl
/-! ### enumerate -/
theorem meets_enumT (l : Addr) (items : Array Value) (n : Nat) (dct : Option Addr) (sl : Array (Option Value)) :
    Meets (Builtin.«enumerate.__new__» ⟨[.type "enumerate", .ref l], []⟩) (fun _ R s => s.heap.get? l = some { cls := .type "tuple", dict := dct, data := .seq items n, slots := sl } ∧
      R (.ok (.ret (.ref (s.heap.push { cls := .type "tuple_iterator", data := .fields #[.ref l, .int 0 0] }).objs.size)))
        { s with heap := (s.heap.push { cls := .type "tuple_iterator", data := .fields #[.ref l, .int 0 0] }).push { cls := .type "enumerate", data := .fields #[.none, .bool false, .ref s.heap.objs.size, rawInt 0, .none, .none] } }) :=
  .of_wp fun prog w A R s h => by
    obtain ⟨hp, g, d, tk, os⟩ := s
    obtain ⟨hl, h⟩ := h
    have hsub := sub_enumerate
    have hT : Heap.IsTuple (Shared.heap ⟨hp, g, d, tk, os⟩) l items := ⟨_, hl, rfl, n, rfl⟩
    wp_walk using AutoSeq1.wpAny_loadPart' hl
    refine wpAny_stack_any fun st => wpAny_pure ?_
    split
    · rename_i cc _ _ _ _ _
      cases (cc == Value.type "enumerate")
      · wp_walk using AutoSeq1.wpAny_loadPart' hl, wpAny_pyIter_tuple hT
        exact ⟨_, rfl, h⟩
      · wp_walk using AutoSeq1.wpAny_loadPart' hl, wpAny_pyIter_tuple hT
        exact ⟨_, rfl, h⟩
    · wp_walk using AutoSeq1.wpAny_loadPart' hl, wpAny_pyIter_tuple hT
      exact ⟨_, rfl, h⟩
theorem call_enumT {prog : Program} {w : World} {A : Around} {E : Value → Shared → Prop} {s : Shared} {l : Addr} {items : Array Value} {Q : Value → Shared → Prop} (hL : s.heap.IsTuple l items)
    (h : ∀ h', IsEnum h' (s.heap.objs.size + 1) s.heap.objs.size 0 .none → h'.IsTupleIter s.heap.objs.size l 0 → h'.objs.size = s.heap.objs.size + 2 → (∀ b o, s.heap.get? b = some o → h'.get? b = some o) → Q (.ref (s.heap.objs.size + 1)) { s with heap := h' }) :
    wpAny (model prog w) A (call (.type "enumerate") [.ref l]) Q E s := by
  obtain ⟨⟨cc, dct, dt, sl⟩, hl, hc, n, hd⟩ := hL
  have hc : cc = .type "tuple" := hc
  have hd : dt = .seq items n := hd
  subst hc hd
  refine callType_new F.called_enumerate (by decide) (F.typeCall_enumerate_1 _) (F.newCall_enumerate_1 _) (fun obj => F.args_object_init_2 obj _) F.entry_enumerate_new (meets_enumT l items n dct sl) ⟨hl, ?_⟩
  have hz : (s.heap.push { cls := .type "tuple_iterator", data := .fields #[.ref l, .int 0 0] }).objs.size = s.heap.objs.size + 1 := Heap.size_push ..
  show _ ∧ _
  rw [hz]
  have he := Heap.get?_push_size (s.heap.push { cls := .type "tuple_iterator", data := .fields #[.ref l, .int 0 0] }) (o := { cls := .type "enumerate", data := .fields #[.none, .bool false, .ref s.heap.objs.size, rawInt 0, .none, .none] }) rfl
  rw [hz] at he
  exact ⟨⟨_, he, rfl⟩, h _ he ⟨_, Heap.get?_push_of_some _ (Heap.get?_push_size _ rfl), rfl, rfl⟩ (by rw [Heap.size_push, hz]) fun b o x => Heap.get?_push_of_some _ (Heap.get?_push_of_some _ x)⟩
theorem call_enumB {prog : Program} {w : World} {A : Around} {E : Value → Shared → Prop} {s : Shared} {b : Bool} {l : Addr} {items : Array Value} {Q : Value → Shared → Prop} (hL : IsB b s.heap l items)
    (h : ∀ h', IsEnum h' (s.heap.objs.size + 1) s.heap.objs.size 0 .none → ItB b h' s.heap.objs.size l 0 → h'.objs.size = s.heap.objs.size + 2 → (∀ b o, s.heap.get? b = some o → h'.get? b = some o) → Q (.ref (s.heap.objs.size + 1)) { s with heap := h' }) :
    wpAny (model prog w) A (call (.type "enumerate") [.ref l]) Q E s := by
  cases b with
  | true => exact call_enumT hL h
  | false => exact call_enumerate_list hL h
def IteB (b : Bool) (K : PySem.W.Frag) (a : Addr) : It :=
  ⟨fun i H => ∃ (xs : List V) (x : V), SqB b K H a xs ∧ xs[i]? = some x, fun i H v H' => ∃ T x, v = .ref T ∧ H T = none ∧ H' = upd H T (.tup [.int (i : Nat), x]) ∧ (∀ xs, SqB b K H a xs → xs[i]? = some x), fun i H => ∃ xs : List V, SqB b K H a xs ∧ xs.length = i⟩
theorem turn_enumB {P : Program} {w : World} {K : PySem.W.Frag} {elts : List Expr} {kk : Nat} {tpos : Pos} (b : Bool) (a e it : Addr) :
    Turn P w K (.Tuple elts kk tpos) (IteB b K a) [e, it] e (fun i h => (∃ old, IsEnum h e it ((i : Nat) : Int) old) ∧ ItB b h it a i ∧ e ≠ it ∧ e ≠ a) where
  mem := pairE.mpr (.inl rfl)
  obj := fun i h st c hc => by
    obtain ⟨⟨old, he⟩, hi, _⟩ := st
    obtain ⟨o, v, g, d⟩ := hi.obj
    rcases pairE.mp hc with q | q <;> subst q
    · exact ⟨_, he, fun v q => by cases q⟩
    · exact ⟨_, g, fun v q => by rw [d] at q; cases q⟩
  keep := fun i h h' st k => by
    obtain ⟨⟨old, he⟩, hi, ne⟩ := st
    exact ⟨⟨old, k e (pairE.mpr (.inl rfl)) _ he⟩, hi.keep (k it (pairE.mpr (.inr rfl))), ne⟩
  item := by
    intro X hP hw hK hc i pins s σ H E I hf st hg
    subst hP hw hK
    obtain ⟨⟨old, he⟩, hit, hne, hna⟩ := st
    obtain ⟨xs, x, hq, hx⟩ := hg
    obtain ⟨its, rv, p⟩ := sqB_is I hq
    obtain ⟨u, hu, ru⟩ := rv.get hx
    have lt1 : i < its.toArray.size := by
      have q := (List.getElem?_eq_some_iff.mp hu).1
      simpa using q
    have hel : e < s.heap.objs.size := Heap.lt_size he
    have hh : X.A.in1.handled = none := I.ok.hd hc
    refine wpAny_pyNext_enum_itemD (drawsB hh b it a (isB_ne p hit) its.toArray) he ⟨hit, p⟩ lt1 hne (by simp [hne, hna]) fun x1 h' tk P1 ho st' hT hsz hk => ?_
    have e1 : x1 = u := by
      have q : its[i]? = some x1 := by simpa using P1
      exact Option.some.inj (q.symm.trans hu)
    subst e1
    refine ⟨_, rfl, wpAny_letOwnedTupleGo_enum (s := { s with heap := h', toks := tk + 1 }) ho fun h'' he' sb => ?_⟩
    have hT2 : h''.get? s.heap.objs.size = some { cls := .type "tuple", data := .seq #[.int i tk, x1] } := (sb.2 _ (Nat.ne_of_gt hel)).trans hT
    have new : ObjOk X.prog X.w (upd H s.heap.objs.size (.tup [.int (i : Nat), x])) h'' s.heap.objs.size (.tup [.int (i : Nat), x]) := ⟨by show 2 ≤ sizeLine; decide +kernel, [.int i tk, x1], .cons ⟨_, rfl⟩ (.cons ru .nil), ⟨_, hT2, rfl, _, rfl⟩⟩
    have I1 : Inv X pins σ (upd H s.heap.objs.size (.tup [.int (i : Nat), x])) { s with heap := h'', toks := tk + 1 } := I.turnedNew (ch := [e, it]) (fun c ob hb q => by
      have hb : ¬ (c = e ∨ c = it) := fun w => hb (pairE.mpr w)
      exact (sb.2 c fun w => hb (.inl w)).trans (hk c ob (fun w => hb (.inl w)) (fun w => hb (.inr w)) q)) hf (Nat.le_refl _) new
    refine ⟨.ref s.heap.objs.size, _, I1, rfl, ⟨_, x, rfl, I.hok.fresh (Nat.le_refl _), rfl, fun l q => by rw [sqB_inj I q hq]; exact hx⟩, ⟨⟨x1, ?_⟩, st'.1.keep fun o q => (sb.2 it (Ne.symm hne)).trans q, hne, hna⟩, fun c hcm => ?_⟩
    · have e1 : ((i + 1 : Nat) : Int) = (i : Int) + 1 := by omega
      rw [e1]
      exact he'
    · obtain ⟨o, v, g, _⟩ := hit.obj
      have lt : c < s.heap.objs.size := by
        rcases pairE.mp hcm with q | q <;> subst q
        · exact hel
        · exact Heap.lt_size g
      rw [upd_ne (Nat.ne_of_lt lt)]
      exact (hf c hcm).1
  done := by
    intro X hP hw hK hc i pins s σ H E I hf st hg
    subst hP hw hK
    obtain ⟨⟨old, he⟩, hit, hne, hna⟩ := st
    obtain ⟨xs, hq, hl⟩ := hg
    obtain ⟨its, rv, p⟩ := sqB_is I hq
    have m := rv.length
    have hh : X.A.in1.handled = none := I.ok.hd hc
    have ei : its.toArray.size = i := by
      simp
      omega
    refine wpAny_pyNext_enum_endD (drawsB hh b it a (isB_ne p hit) its.toArray) he (by rw [ei]; exact ⟨hit, p⟩) fun h' k => ⟨rfl, I.turnedL (t' := s.toks) (ch := [e, it]) (fun c o hb q => ?_) hf⟩
    exact k c o (fun w => hb (pairE.mpr (.inr w))) q
  self := fun A i s Q E st h => by
    obtain ⟨⟨_, he⟩, _⟩ := st
    exact wpAny_pyIter_enum he h
def iEnumB (K : PySem.W.Frag) (ta : TA) : TI := fun σ H R => ta σ H fun vs H1 => ∃ b a xs, vs = [.ref a] ∧ SqB b K H1 a xs ∧ R (IteB b K a) H1
theorem pi_enumB {X : Cx} {e : Expr} {ta : TA} {p pos tpos : Pos} {elts : List Expr} {kk : Nat} (hg : Gl X "enumerate") (hm : X.mg "enumerate" = none) (ha : PA X [e] ta) (hs : starEach [e] X.env = [(false, eval e X.env)] := by rfl) :
    PI X (.Tuple elts kk tpos) (.Call (.Name "enumerate" p) [e] [] pos) (iEnumB X.K ta) := by
  refine ⟨fun pins s σ H R I h => ?_⟩
  refine PyProof.Rows.Call_ (ld_blt I hg hm PyProof.Rows.boot_enumerate (PyProof.Rows.callWith_type1 (thn (ha.run pos pins s σ H _ I h) fun us s1 ⟨vs, H1, I1, r1, q1⟩ => ?_) hs rfl))
  obtain ⟨b, a, xs, ev, hq, q⟩ := q1
  subst ev
  cases r1 with
  | cons r rr =>
    cases rr
    cases r
    obtain ⟨its, rv, p'⟩ := sqB_is I1 hq
    have la := p'.lt
    refine call_enumB p' fun h' he hit hsz hk => wpAny_pyIter_enum he ?_
    have I2 : Inv X pins σ H1 { s1 with heap := h' } := I1.kept (t' := s1.toks) hk
    refine ⟨s1.heap.objs.size + 1, [s1.heap.objs.size + 1, s1.heap.objs.size], _, _, H1, rfl, I2, turn_enumB b a (s1.heap.objs.size + 1) s1.heap.objs.size, ⟨⟨.none, he⟩, hit, Nat.succ_ne_self _, Nat.ne_of_gt (Nat.lt_succ_of_lt la)⟩, fun c hc => ?_, q⟩
    have hle : s1.heap.objs.size ≤ c := by
      rcases pairE.mp hc with w | w <;> rw [w] <;> first
        | exact Nat.le_add_right _ _
        | exact Nat.le_refl _
    exact I1.fpOk hle (I1.hok.fresh hle)
/-- the items with their places -/
def enD : Nat → List DV → List DV
  | _, [] => []
  | k, d :: ds => .tup [.int (k : Nat), d] :: enD (k + 1) ds
theorem enD_len (l : List DV) (k : Nat) : (enD k l).length = l.length := by
  induction l generalizing k with
  | nil => rfl
  | cons d ds ih => simp [enD, ih]
theorem enD_get {l : List DV} {k i : Nat} {d : DV} (h : (enD k l)[i]? = some d) : ∃ x, l[i]? = some x ∧ d = .tup [.int ((k + i : Nat) : Int), x] := by
  induction l generalizing k i with
  | nil => cases h
  | cons x r ih =>
    cases i with
    | zero =>
      have h : some (DV.tup [.int (k : Nat), x]) = some d := h
      cases h
      exact ⟨x, rfl, rfl⟩
    | succ i =>
      have h : (enD (k + 1) r)[i]? = some d := h
      obtain ⟨y, e1, e2⟩ := ih h
      refine ⟨y, e1, ?_⟩
      rw [e2, show k + 1 + i = k + (i + 1) by omega]
def itE (x : DV) : M (List DV) := itS x >>= fun l => pure (enD 0 l)
section
variable {X : Cx} {c : Cn} {pos p1 : Pos} {a tg : Expr} {ma : En → M DV}
theorem wk_enumB {W : Wd} {H : Hp} {b : Bool} {p : Addr} {vs : List V} {ds : List DV} (f : SB c.g.K W H b p vs) (r : Reps c.g W H ds vs) : Wk c W H (IteB b c.g.K p) (enD 0 ds) where
  go := fun W2 H2 pr i d e => by
    have sq := f.per pr
    obtain ⟨x, e1, e3⟩ := enD_get e
    obtain ⟨v, g1, rv⟩ := (r.per pr _ _).get e1
    refine ⟨⟨vs, v, sq, g1⟩, fun z H3 yl => ?_⟩
    obtain ⟨T, x', h1, h2, h3, h4⟩ := yl
    have q1 : v = x' := some_inj2 g1 (h4 vs sq)
    subst q1
    rw [Nat.zero_add] at e3
    exact .inr ⟨T, _, _, e3, h1, h2, h3, .cons (by simp only [Rep]) (.cons rv .nil)⟩
  st := fun W2 H2 pr => ⟨vs, f.per pr, by rw [enD_len, r.len]⟩
theorem i_enum (hk : X.K = c.g.K) (hg : Gl X "enumerate") (hm : X.mg "enumerate" = none) {elts : List Expr} {kk : Nat} {tpos : Pos} (ha : PE X a (RE c ma)) (he : starEach [a] X.env = (false, eval a X.env) :: starEach [] X.env := by rfl) (hs : starEach [a] X.env = [(false, eval a X.env)] := by rfl) :
    PI X (.Tuple elts kk tpos) (.Call (.Name "enumerate" p1) [a] [] pos) (RI c (iB ma itE)) :=
  pi_imp (pi_enumB hg hm (pa_cons ha pa_nil he) hs) fun s H R q => by
    unfold iB at q
    exact RX.bind (K := fun v H1 => ∃ b a xs, [v] = [V.ref a] ∧ SqB b X.K H1 a xs ∧ R (IteB b X.K a) H1) q fun W e W1 H1 x v h1 t S rx q2 => by
      unfold itE at q2
      cases zx : itS x h1 with
      | bad =>
        rw [M.bind_def, zx] at q2
        exact q2.elim
      | exc z h3 => exact (itS_exc zx).elim
      | ok l h3 =>
        rw [M.bind_def, zx] at q2
        obtain ⟨eh, b1, p, vs, e1, rs, cx⟩ := itS_src S rx zx
        subst eh e1
        refine ⟨b1, p, vs, rfl, by rw [hk]; exact cx.now, ?_⟩
        rw [hk]
        exact q2.ret S (wk_enumB cx rs)
end
@[simp] theorem itE_app (x : DV) (h : HP) : itE x h = bR (itS x h) fun l h => .ok (enD 0 l) h := rfl
end LM

/-! More plain laws of the mirror. -/
namespace LM
open PySem L2

/-! ### what may be compared -/
def okd (n : Nat) (d : DV) : Prop := ∃ x, toPD d = some x ∧ x.canLay0 = true ∧ x.depth ≤ n
theorem okd_int {n : Nat} (i : Int) : okd n (.int i) := ⟨.int i, rfl, rfl, Nat.zero_le _⟩
theorem okd_bl {n : Nat} (b : Bool) : okd n (.bl b) := ⟨.bool b, rfl, rfl, Nat.zero_le _⟩
theorem okd_non {n : Nat} : okd n .non := ⟨.none, rfl, rfl, Nat.zero_le _⟩
theorem okd_str {n : Nat} (s : Str) (h : (PyData.str s).canLay0 = true) : okd n (.str s) := ⟨.str s, rfl, h, Nat.zero_le _⟩
theorem okd_all {n : Nat} : ∀ {l : List DV}, (∀ d ∈ l, okd n d) → ∃ r, toPDs l = some r ∧ PyData.canLayAll0 r = true ∧ PyData.depthAll r ≤ n
  | [], _ => ⟨[], rfl, rfl, Nat.zero_le _⟩
  | d :: ds, h => by
    obtain ⟨x, e1, c1, n1⟩ := h d List.mem_cons_self
    obtain ⟨r, e2, c2, n2⟩ := okd_all fun y hy => h y (List.mem_cons_of_mem _ hy)
    refine ⟨x :: r, ?_, ?_, ?_⟩
    · show (match toPD d, toPDs ds with
        | some x, some r => some (x :: r)
        | _, _ => none) = _
      rw [e1, e2]
    · unfold PyData.canLayAll0
      rw [c1, c2]
      rfl
    · unfold PyData.depthAll
      exact Nat.max_le.mpr ⟨n1, n2⟩
theorem okd_tup {n : Nat} {l : List DV} (h : ∀ d ∈ l, okd n d) : okd (n + 1) (.tup l) := by
  obtain ⟨r, e, c, d⟩ := okd_all h
  refine ⟨.tuple r, ?_, ?_, ?_⟩
  · show (match toPDs l with
      | some r => some (PyData.tuple r)
      | none => none) = _
    rw [e]
  · unfold PyData.canLay0
    exact c
  · unfold PyData.depth
    omega
theorem okd_lst {n : Nat} {l : List DV} (h : ∀ d ∈ l, okd n d) : okd (n + 1) (.lst l) := by
  obtain ⟨r, e, c, d⟩ := okd_all h
  refine ⟨.list r, ?_, ?_, ?_⟩
  · show (match toPDs l with
      | some r => some (PyData.list r)
      | none => none) = _
    rw [e]
  · unfold PyData.canLay0
    exact c
  · unfold PyData.depth
    omega
theorem okd_ok {d : DV} (h : okd 64 d) : okD d = true := by
  obtain ⟨x, e, c, n⟩ := h
  unfold okD
  rw [e]
  show SeqAt.shaped x = true
  unfold SeqAt.shaped
  rw [c, decide_eq_true n]
  rfl
theorem okd_mono {m n : Nat} {d : DV} (h : okd m d) (q : m ≤ n) : okd n d := by
  obtain ⟨x, e, c, k⟩ := h
  exact ⟨x, e, c, Nat.le_trans k q⟩
theorem okd_nums {n : Nat} (l : List Int) : ∀ d ∈ nums l, okd n d := fun d hd => by
  obtain ⟨i, _, e⟩ := List.mem_map.mp hd
  rw [← e]
  exact okd_int i

/-! ### walks that are told by what stays -/
theorem forL_inv {A : Type} (g : A → DV) {t : DV → En → Option En} {b : Stm} {fg : List Nat} (I : List A → En → HP → Prop) : ∀ (l : List A) (e : En) (h : HP), I l e h → (∀ x r e h, I (x :: r) e h → ∃ e' h', turn t b fg (g x) e h = .nx e' h' ∧ I r e' h') →
    ∃ e' h', forL t b fg (l.map g) e h = .nx e' h' ∧ I [] e' h'
  | [], e, h, i, _ => ⟨e, h, rfl, i⟩
  | x :: r, e, h, i, q => by
    obtain ⟨e1, h1, a, i1⟩ := q x r e h i
    obtain ⟨e2, h2, b2, i2⟩ := forL_inv g I r e1 h1 i1 q
    exact ⟨e2, h2, by rw [List.map_cons, forL_cons, a, lR_nx, b2], i2⟩
theorem lcL_some {A B : Type} (g : A → DV) (f : B → DV) {t : DV → En → Option En} {me : En → M DV} {e : En} (R : HP → Prop) (P : A → B → Prop) : ∀ (l : List A) (h : HP), R h → (∀ x ∈ l, ∀ h, R h → ∃ (e1 : En) (v : B) (h' : HP), t (g x) e = some e1 ∧ me e1 h = .ok (f v) h' ∧ P x v ∧ R h') →
    ∃ (vs : List B) (h' : HP), lcL t mYes me e (l.map g) h = .ok (vs.map f) h' ∧ vs.length = l.length ∧ (∀ v ∈ vs, ∃ x ∈ l, P x v) ∧ R h'
  | [], h, r, _ => ⟨[], h, rfl, rfl, (fun v (m : v ∈ []) => nomatch m), r⟩
  | x :: l, h, r, q => by
    obtain ⟨e1, v, h1, a, b, p, r1⟩ := q x List.mem_cons_self h r
    obtain ⟨vs, h2, c, d, p2, r2⟩ := lcL_some g f R P l h1 r1 fun y hy => q y (List.mem_cons_of_mem _ hy)
    refine ⟨v :: vs, h2, ?_, by rw [List.length_cons, List.length_cons, d], fun w hw => ?_, r2⟩
    · rw [List.map_cons, lcL_is]
      unfold lcOne
      rw [a]
      show bR (bR (me e1 h) _) _ = _
      rw [b, bR_ok, bR_ok, c, bR_ok]
      rfl
    · rcases List.mem_cons.mp hw with z | z
      · rw [z]
        exact ⟨x, List.mem_cons_self, p⟩
      · obtain ⟨y, hy, py⟩ := p2 w z
        exact ⟨y, List.mem_cons_of_mem _ hy, py⟩
theorem mLc_some {A B : Type} (g : A → DV) (f : B → DV) {vs : List Nat} {mi : En → M (List DV)} {t : DV → En → Option En} {me : En → M DV} {e : En} {h h1 : HP} {l : List A} (R : HP → Prop) (P : A → B → Prop) (hi : mi e h = .ok (l.map g) h1) (hl : l.length ≤ 16777216) (r : R h1)
    (q : ∀ x ∈ l, ∀ h, R h → ∃ (e1 : En) (v : B) (h' : HP), t (g x) (wipeE e vs) = some e1 ∧ me e1 h = .ok (f v) h' ∧ P x v ∧ R h') : ∃ (ws : List B) (h' : HP), mLc vs mi t mYes me e h = .ok (ws.map f) h' ∧ ws.length = l.length ∧ (∀ v ∈ ws, ∃ x ∈ l, P x v) ∧ R h' := by
  obtain ⟨ws, h2, a, b, c, d⟩ := lcL_some g f R P l h1 r q
  refine ⟨ws, h2, ?_, b, c, d⟩
  unfold mLc
  rw [bind_app, hi, bR_ok, if_pos (by rw [List.length_map]; exact hl)]
  unfold noX
  rw [a]
@[simp] theorem tTup_app3 (i j k : Nat) (a b c : DV) (e : En) : tTup [i, j, k] (.tup [a, b, c]) e = some (((e.set i (.val a)).set j (.val b)).set k (.val c)) := rfl
theorem getI0 (a : DV) (l : List DV) (h : HP) : getI (a :: l) 0 h = .ok a h := by
  exact getI_nat h _ 0 rfl
theorem getI1 (a b : DV) (l : List DV) (h : HP) : getI (a :: b :: l) 1 h = .ok b h := by
  exact getI_nat h _ 1 rfl
theorem getI2 (a b c : DV) (l : List DV) (h : HP) : getI (a :: b :: c :: l) 2 h = .ok c h := by
  exact getI_nat h _ 2 rfl
theorem getI3 (a b c d : DV) (l : List DV) (h : HP) : getI (a :: b :: c :: d :: l) 3 h = .ok d h := by
  exact getI_nat h _ 3 rfl
/-! ### the drawn numbers: a row of a script and a place -/
def Row (ns : List Int) (h : HP) : Prop := ∃ (k : Nat) (r : List HObj), h = .lst [.scr ns, .int (k : Int)] :: r
theorem vIdx_ref (p : Nat) (i : Int) (h : HP) (l : List DV) (e : h[p]? = some (.lst l)) : vIdx (.ref p) (.int i) h = getI l i h := by
  show (match asL h (.ref p) with
    | some l => getI l i h
    | none => .bad) = _
  have q : asL h (.ref p) = some l := by
    show (match h[p]? with
      | some (.lst l) => some l
      | _ => none) = _
    rw [e]
  rw [q]
theorem zipD_map {A B : Type} (f : A → DV) (g : B → DV) (l : List A) (m : List B) : zipD (l.map f) (m.map g) = (l.zip m).map fun q => .tup [f q.1, g q.2] := by
  induction l generalizing m with
  | nil => rfl
  | cons x r ih =>
    cases m with
    | nil => rfl
    | cons y t =>
      simp [zipD_cons, ih]
theorem zipD_nums {A : Type} (f : A → DV) (l : List A) (m : List Int) : zipD (l.map f) (nums m) = (l.zip m).map fun q => .tup [f q.1, .int q.2] := zipD_map f DV.int l m
theorem zipD_nums2 (l m : List Int) : zipD (nums l) (nums m) = (l.zip m).map fun q => .tup [.int q.1, .int q.2] := zipD_map DV.int DV.int l m
theorem lMul_one (d : DV) (n : Nat) (hn : n ≤ 16777216) (h : HP) : lMul (.lst [d]) (.int (n : Int)) h = .ok (List.replicate n d) h := by
  have e : (List.replicate n [d]).flatten = List.replicate n d := by
    induction n with
    | zero => rfl
    | succ k ih => simp [List.replicate_succ, ih (by omega)]
  show (if (Nat.ble n 16777216 && Nat.ble ([d].length * n) 16777216) = true then (pure (List.replicate n [d]).flatten : M (List DV)) else M.bad) h = _
  rw [if_pos (by
    rw [Bool.and_eq_true, Nat.ble_eq, Nat.ble_eq]
    exact ⟨hn, by simpa using hn⟩), e]
  rfl
theorem lMulE (a b : En → M DV) (e : En) (h : HP) (d : DV) (n : Nat) (ha : a e h = .ok (.lst [d]) h) (hb : b e h = .ok (.int (n : Int)) h) (hn : n ≤ 16777216) : iB2 a b lMul e h = .ok (List.replicate n d) h := by
  unfold iB2
  rw [bind_app, ha, bR_ok, bind_app, hb, bR_ok, lMul_one d n hn]
theorem nums_rep (n : Nat) (i : Int) : List.replicate n (DV.int i) = nums (List.replicate n i) := by
  unfold nums
  rw [List.map_replicate]
theorem nums_set (l : List Int) (k : Nat) (i : Int) : (nums l).set k (.int i) = nums (l.set k i) := by
  unfold nums
  rw [List.map_set]
/-- a list as data, each a number -/
theorem mLc_nums {A : Type} (g : A → DV) {vs : List Nat} {mi : En → M (List DV)} {t : DV → En → Option En} {me : En → M DV} {e : En} {h h1 : HP} {l : List A} (R : HP → Prop) (P : A → Int → Prop) (hi : mi e h = .ok (l.map g) h1) (hl : l.length ≤ 16777216) (r : R h1)
    (q : ∀ x ∈ l, ∀ h, R h → ∃ (e1 : En) (v : Int) (h' : HP), t (g x) (wipeE e vs) = some e1 ∧ me e1 h = .ok (.int v) h' ∧ P x v ∧ R h') : ∃ (ws : List Int) (h' : HP), mLc vs mi t mYes me e h = .ok (nums ws) h' ∧ ws.length = l.length ∧ (∀ v ∈ ws, ∃ x ∈ l, P x v) ∧ R h' :=
  mLc_some g DV.int R P hi hl r q
/-- the sum of products -/
def dot (l m : List Int) : Int := (List.zipWith (· * ·) l m).sum
@[simp] theorem dot_nil (m : List Int) : dot [] m = 0 := rfl
@[simp] theorem dot_cons (x y : Int) (l m : List Int) : dot (x :: l) (y :: m) = x * y + dot l m := rfl
theorem dot_set : ∀ (l s : List Int) (k : Nat) (v : Int), k < l.length → k < s.length → dot l (s.set k v) = dot l s + l.getD k 0 * (v - s.getD k 0)
  | [], _, _, _, h, _ => by cases h
  | _ :: _, [], _, _, _, h => by cases h
  | x :: l, y :: s, 0, v, _, _ => by
    simp [Int.mul_sub]
    omega
  | x :: l, y :: s, k + 1, v, h1, h2 => by
    have e := dot_set l s k v (by simpa using h1) (by simpa using h2)
    rw [List.set_cons_succ, dot_cons, dot_cons, e, List.getD_cons_succ, List.getD_cons_succ]
    omega
theorem dot_zero (l : List Int) (n : Nat) : dot l (List.replicate n 0) = 0 := by
  induction l generalizing n with
  | nil => rfl
  | cons x r ih =>
    cases n with
    | zero => rfl
    | succ k => simp [List.replicate_succ, ih]
/-- products of two rows, as a comprehension makes them -/
theorem mLc_dot {vs : List Nat} {mi : En → M (List DV)} {t : DV → En → Option En} {me : En → M DV} {e : En} {h : HP} (l m : List Int) (hi : mi e h = .ok (zipD (nums l) (nums m)) h) (hl : l.length ≤ 16777216)
    (q : ∀ a b, a ∈ l → b ∈ m → ∃ e1, t (.tup [.int a, .int b]) (wipeE e vs) = some e1 ∧ me e1 h = .ok (.int (a * b)) h) : mLc vs mi t mYes me e h = .ok (nums (List.zipWith (· * ·) l m)) h := by
  rw [zipD_nums2] at hi
  rw [mLc_ints (A := Int × Int) (l := l.zip m) (fun q => .tup [.int q.1, .int q.2]) (fun q => .int (q.1 * q.2)) hi (by rw [List.length_zip]; omega) fun p hp => q p.1 p.2 (List.of_mem_zip hp).1 (List.of_mem_zip hp).2]
  rw [← nums_map (fun q : Int × Int => q.1 * q.2), List.zip, List.map_zipWith]
theorem foldl_app2 {A B : Type} (f : A → B) (l : List A) (s : List B) : l.foldl (fun s k => s ++ [f k]) s = s ++ l.map f := by
  induction l generalizing s with
  | nil => simp
  | cons x r ih => simp [ih]
end LM

/-! list(reversed(a list)). -/
namespace LM
open PySem L2
section
variable {prog : Program} {w : World} {A : Around} {E : Value → Shared → Prop} {s : Shared}
theorem list_init_rev {R : Result → Shared → Prop} {it l : Addr} {items : Array Value} (hh : A.handled = none) (hit : s.heap.IsRevIter it l ((items.size : Int) - 1)) (hl : s.heap.IsList l items) (hne : l ≠ it) (hn : items.size ≤ sizeLine) (S : Addr) (hS : s.heap.get? S = some { cls := .type "list", data := .seq #[] }) (n1 : S ≠ it) (n2 : S ≠ l)
    (hR : ∀ (h' : Heap) (tk : Nat) (acc : Array Value) (c : Nat), (∀ b o, b ≠ S → b ≠ it → s.heap.get? b = some o → h'.get? b = some o) → h'.get? S = some { cls := .type "list", dict := none, data := .seq acc c, slots := #[] } → ItemsOf (fun i v => items[items.size - 1 - i]? = some v) acc items.size → R (.ok (.ret .none)) { s with heap := h', toks := tk }) :
    wpAny (model prog w) A.in1 (Builtin.«list.__init__» ⟨[.ref S, .ref it], []⟩)
      (fun fin s' => match fin with | .done f => R (.ok f) s' | .again c' => c'.quiet = true ∧ codeAny (model prog w) A c' R s') (fun e s' => R (.error e) s') s := by
  have W := (Walks.listRev (prog := prog) (w := w) (A := A.in1) hh it l hne items).toS
  have hSf : S ∉ [it, l] := fun m => (pairE.mp m).elim n1 n2
  show wpAny _ _ (do
    let old ← Builtin.List.listItems (.ref S)
    Builtin.List.listUpdate (.ref S) (fun _ => #[])
    letGo old.toList.reverse
    Builtin.List.listExtendWith (.ref S) (.ref it) .none) _ _ s
  refine wpAny_bind ?_
  unfold Builtin.List.listItems
  refine wpAny_bind (wpAny_seqItems hS rfl (wpAny_pure ?_))
  show wpAny _ _ (updateSeq S (fun _ => #[]) >>= fun _ => letGo (#[] : Array Value).toList.reverse >>= fun _ => Builtin.List.listExtendWith (.ref S) (.ref it) .none) _ _ s
  refine wpAny_bind (wpAny_updateSeq hS rfl ?_)
  have hS2 := Heap.get?_update_self (Obj.mapSeq (fun _ => (#[] : Array Value))) hS rfl
  have oth : ∀ b o, b ≠ S → s.heap.get? b = some o → (s.heap.update S (Obj.mapSeq (fun _ => (#[] : Array Value)))).get? b = some o := fun b o hb e => (Heap.get?_update_other _ _ (Ne.symm hb)).trans e
  refine wpAny_bind (wpAny_letGo ?_)
  have hit1 := hit.at fun o e => oth it o (Ne.symm n1) e
  have hl1 := hl.at fun o e => oth l o (Ne.symm n2) e
  have hT : ({ s with heap := s.heap.update S (Obj.mapSeq (fun _ => (#[] : Array Value))) } : Shared).TypeIs (.ref it) "list_reverseiterator" := Heap.IsRevIter.typeIs (s := { s with heap := s.heap.update S (Obj.mapSeq (fun _ => (#[] : Array Value))) }) hit1
  have h1 : Builtin.List.listSameRef (.ref S) (.ref it) = false := by simp [Builtin.List.listSameRef, n1]
  unfold Builtin.List.listExtendWith
  refine wpAny_bind (wpAny_typeOf hT ?_)
  rw [if_neg (by rw [h1]; decide)]
  refine wpAny_bind (wpAny_pyIter_revIter (s := { s with heap := s.heap.update S (Obj.mapSeq (fun _ => (#[] : Array Value))) }) hit1 ?_)
  refine wpAny_bind (wpAny_holding ?_)
  unfold Builtin.List.listLengthHint
  refine wpAny_bind (wpAny_specialOf hT RT.nolen_lri ?_)
  show wpAny _ A.in1 (specialOf (Value.ref it) (Str.ofString "__length_hint__") >>= _) _ _ _
  refine wpAny_bind (wpAny_specialOf hT RT.hint_lri ?_)
  generalize hid : ("list_reverseiterator.__length_hint__" : String) = id0
  wp_delta
  rw [show splitId id0 = some ("list_reverseiterator", "__length_hint__") from by subst hid; decide +kernel]
  subst hid
  refine wpAny_bind (wpAny_isInstance (b := true) hT (by rw [isSubtype_type]; kernel_rfl) ?_)
  refine wpAny_pure ?_
  rw [if_neg (by decide)]
  have e0 : ((items.size : Nat) : Int) - 1 - ((0 : Nat) : Int) = (items.size : Int) - 1 := by omega
  refine wpAny_pure ⟨plainId_quiet F.plain_extend_loop _, codeAny_extend_loopS W hn _ hSf _ items.size 0 _ _ _ rfl (Nat.zero_le _) ⟨Nat.zero_le _, by rw [e0]; exact hit1, hl1⟩ hS2 (ItemsOf.nil _) fun s' acc' c' hm hS' hacc => ?_⟩
  rw [Moved.eq_with hm]
  refine hR s'.heap s'.toks acc' c' (fun b o hb hbi e => hm.heap b o (fun hmem => ?_) (oth b o hb e)) hS' hacc
  rcases List.mem_cons.mp hmem with e' | hmem
  · exact hb e'
  · exact hbi (List.mem_singleton.mp hmem)
theorem call_list_rev {Q : Value → Shared → Prop} {it l : Addr} {items : Array Value} (hh : A.handled = none) (hit : s.heap.IsRevIter it l ((items.size : Int) - 1)) (hl : s.heap.IsList l items) (hne : l ≠ it) (hn : items.size ≤ sizeLine)
    (hQ : ∀ (h' : Heap) (tk : Nat) (acc : Array Value) (c : Nat), (∀ b o, b ≠ it → s.heap.get? b = some o → h'.get? b = some o) → h'.get? s.heap.objs.size = some { cls := .type "list", dict := none, data := .seq acc c, slots := #[] } → ItemsOf (fun i v => items[items.size - 1 - i]? = some v) acc items.size → Q (.ref s.heap.objs.size) { s with heap := h', toks := tk }) :
    wpAny (model prog w) A (call (.type "list") [.ref it]) Q E s := by
  refine callType_codes (Q₁ := fun obj s₁ => obj = .ref s.heap.objs.size ∧ s₁ = { s with heap := s.heap.push { cls := .type "list", data := .seq #[] } }) F.called_list (F.typeCall_list_1 _) F.entry_list_init (code_list_new _ ⟨rfl, rfl⟩) fun obj s₁ h₁ => ?_
  obtain ⟨e1, e2⟩ := h₁
  subst e1 e2
  have hS : (s.heap.push { cls := .type "list", data := .seq #[] }).get? s.heap.objs.size = some { cls := .type "list", data := .seq #[] } := Heap.get?_push_size _ rfl
  obtain ⟨oi, hoi, _⟩ := id hit
  obtain ⟨ol, hol, _⟩ := id hl
  refine ⟨⟨_, hS, rfl⟩, F.args_list_init_2 _ _, list_init_rev (A := A.in1) (s := { s with heap := s.heap.push { cls := .type "list", data := .seq #[] } }) hh (hit.at fun o e => Heap.get?_push_of_some _ e) (hl.push _) hne hn _ hS (Nat.ne_of_gt (Heap.lt_size hoi)) (Nat.ne_of_gt (Heap.lt_size hol)) fun h' tk acc c hk hS' hacc => ?_⟩
  exact ⟨rfl, hQ h' tk acc c (fun b o hb e => hk b o (Nat.ne_of_lt (Heap.lt_size e)) hb (Heap.get?_push_of_some _ e)) hS' hacc⟩
end
section
variable {X : Cx}
def tLstRev (K : PySem.W.Frag) (te : TE) : TE := fun σ H Q => te σ H fun v H1 => ∃ (a : Addr) (xs : List V), v = .ref a ∧ SqL K H1 a xs ∧ ∀ q, H1 q = none → Q (.ref q) (upd H1 q (.lst xs.reverse))
theorem pe_listRev {e : Expr} {te : TE} {p p2 pos pos2 : Pos} (hc : X.calm = true) (hg : Gl X "list") (hm : X.mg "list" = none) (hg2 : Gl X "reversed") (hm2 : X.mg "reversed" = none) (he : PE X e te) (hs : starEach [e] X.env = (false, eval e X.env) :: starEach [] X.env := by rfl)
    (hs2 : starEach [.Call (.Name "reversed" p2) [e] [] pos2] X.env = (false, eval (.Call (.Name "reversed" p2) [e] [] pos2) X.env) :: starEach [] X.env := by rfl) : PE X (.Call (.Name "list" p) [.Call (.Name "reversed" p2) [e] [] pos2] [] pos) (tLstRev X.K te) := by
  refine ⟨fun pins s σ H Q I h => ?_⟩
  refine PyProof.Rows.Call_ (ld_blt I hg hm PyProof.Rows.boot_list (PyProof.Rows.callWith_type1 (PyProof.Rows.args_cons (PyProof.Rows.Call_ (ld_blt I hg2 hm2 PyProof.Rows.boot_reversed (PyProof.Rows.callWith_type1 (PyProof.Rows.args_cons (thn (he.run pins s σ H _ I h) fun u s1 ⟨v, H1, I1, r1, q1⟩ => PyProof.Rows.args_nil ?_) hs) hs rfl))) hs2) hs2 rfl))
  obtain ⟨a, xs, ev, hq, q⟩ := q1
  subst ev
  obtain rfl : u = Value.ref a := r1
  obtain ⟨its, rv, p', hz⟩ := I1.list hq
  refine call_reversed_list p'.isList (PyProof.Rows.args_nil ?_)
  have k0 : ∀ b o, s1.heap.get? b = some o → (s1.heap.push (revObj a ((its.toArray.size : Int) - 1))).get? b = some o := fun b o e => Heap.get?_push_of_some _ e
  have I2 : Inv X pins σ H1 { s1 with heap := s1.heap.push (revObj a ((its.toArray.size : Int) - 1)) } := I1.kept (t' := s1.toks) k0
  obtain ⟨f0, f1, f2, f3, f4, f5⟩ := I1.fpOk (H' := H1) (b := s1.heap.objs.size) (Nat.le_refl _) (I1.hok.fresh (Nat.le_refl _))
  have hl := p'.isList
  obtain ⟨ol, hol, _⟩ := id hl
  have hne : a ≠ s1.heap.objs.size := Nat.ne_of_lt (Heap.lt_size hol)
  have hn : its.toArray.size ≤ sizeLine := by rw [List.size_toArray, ← rv.length]; exact hz
  refine call_list_rev (s := { s1 with heap := s1.heap.push (revObj a ((its.toArray.size : Int) - 1)) }) (I1.ok.hd hc) ⟨_, Heap.get?_push_size _ rfl, rfl, rfl⟩ (hl.push _) hne hn fun h' tk acc c hk hS' hi => ?_
  have hz1 : (s1.heap.push (revObj a ((its.toArray.size : Int) - 1))).objs.size = s1.heap.objs.size + 1 := Heap.size_push ..
  have new : ObjOk X.prog X.w (upd H1 (s1.heap.push (revObj a ((its.toArray.size : Int) - 1))).objs.size (.lst xs.reverse)) h' (s1.heap.push (revObj a ((its.toArray.size : Int) - 1))).objs.size (.lst xs.reverse) := ⟨by rw [List.length_reverse]; exact hz, acc.toList, c, RT.vals_rev rv hi, by rw [Array.toArray_toList]; exact hS'⟩
  have I3 := I2.turnedNew (t' := tk) (ch := [s1.heap.objs.size]) (fun b o hb e => hk b o (fun z => hb (List.mem_singleton.mpr z)) e) (fun b hb => by
    rw [List.mem_singleton.mp hb]
    exact ⟨f0, f1, f2, f3, f4, f5⟩) (Nat.le_refl _) new
  exact ⟨.ref (s1.heap.push (revObj a ((its.toArray.size : Int) - 1))).objs.size, _, I3, rfl, q _ (I2.hok.fresh (Nat.le_refl _))⟩
/-- list(reversed(a list)) -/
def lLstRev (x : DV) : M (List DV) := fun h => match asL h x with
  | some l => .ok l.reverse h
  | none => .bad
theorem c_listRev {c : Cn} {a : Expr} {ma : En → M DV} {p1 p2 pos pos2 : Pos} (hk : X.K = c.g.K) (hc : X.calm = true) (hg : Gl X "list") (hm : X.mg "list" = none) (hg2 : Gl X "reversed") (hm2 : X.mg "reversed" = none) (ha : PE X a (RB c ma)) (hs : starEach [a] X.env = (false, eval a X.env) :: starEach [] X.env := by rfl)
    (hs2 : starEach [.Call (.Name "reversed" p2) [a] [] pos2] X.env = (false, eval (.Call (.Name "reversed" p2) [a] [] pos2) X.env) :: starEach [] X.env := by rfl) :
    PE X (.Call (.Name "list" p1) [.Call (.Name "reversed" p2) [a] [] pos2] [] pos) (RO c (iB ma lLstRev)) := pe_imp (pe_listRev hc hg hm hg2 hm2 ha hs hs2) fun s H Q q => by
  unfold iB at q
  obtain ⟨W, e, h, S0, q⟩ := q
  refine ⟨W, e, h, S0, ?_⟩
  have q : Post c (rO c H) e s W H ((ma e >>= lLstRev) h) Q := q
  rw [bind_app] at q
  cases z0 : ma e h with
  | bad =>
    rw [z0] at q
    exact q.elim
  | exc x h1 =>
    rw [z0] at q
    exact q
  | ok x h1 =>
    rw [z0] at q
    intro W1 H1 v t S rx
    have q2 : Post c (rO c H) e s W H (lLstRev x h1) Q := q
    unfold lLstRev at q2
    cases z : asL h1 x with
    | none =>
      rw [z] at q2
      exact q2.elim
    | some l =>
      rw [z] at q2
      obtain ⟨p, vs, e1, sq, r⟩ := asL_ok S rx z
      refine ⟨p, vs, e1, hk ▸ sq, fun d hd => ?_⟩
      exact post_own (q2.later t) S r.rev hd (t.th d hd)
end
@[simp] theorem lLstRev_lst (l : List DV) (h : HP) : lLstRev (.lst l) h = .ok l.reverse h := rfl
end LM

/-! Tables of the module, calls of what they hold; a wider look at the top. -/
namespace LM
open PySem L2

/-! ### the hook -/
section
variable {fa : List He.Fa} {fn : List He.DefD} {ts : List He.Tab} {ck : PySem.W.Frag → Bool} {w : World} {K : PySem.W.Frag}
theorem SaysL.t (c : SaysL fa fn ts ck w K) : He.SaysT fa fn ts w K := congrArg (fun z : AlL => z.1) c
theorem SaysL.d (c : SaysL fa fn ts ck w K) : He.SaysD fa fn K := c.t.d
theorem SaysL.c (c : SaysL fa fn ts ck w K) : ck K = true := congrArg (fun z : AlL => z.2) c
end
theorem end_ofL {l : PySem.W.OpenLaw} {k : Nat} {q : Program} {loose : List Str} {XP : (Str → Option Value) → Heap → Prop} {d : DefRec} {x : Str} {fa : List He.Fa} {fn : List He.DefD} {ts : List He.Tab} {ck : PySem.W.Frag → Bool} {nb : Nat} {gl : PySem.W.Frag → Glue} {m : List DV → M DV}
    (hn : l.most = some 63) (hdf : d.params.defaults = []) (hd : d.name = ("law" : Str)) (hr : Room k callerA) (hK : ∀ K, (gl K).K = K)
    (hF : ∀ (w : World) (mg : Str → Option Value) (h : Heap) (K : PySem.W.Frag), K.In h → h.Ns mainGlobals mg → SaysL fa fn ts ck w K → mg "law" = some (.ref (He.ga K "law")) ∧
      ∃ fd, (∀ (s : Shared) (u : Value), BindsTo s fd ⟨[u], []⟩ [(x, u)]) ∧ ∀ base : Heap, K.In base → base.Ns mainGlobals mg → FnOk l.prog w K mg base (L2N.CX l.prog w) k (He.ga K "law") fd [x] (spF (gl K) 1 m))
    (good : ∀ ns : List Int, ns.length ≤ 63 → (∀ k ∈ ns, Builtin.Int.intBits k ≤ 1048576) → ∃ h', m [.scr ns] [] = .ok (.bl true) h') :
    PySem.W.WalkO q loose XP (hookL nb fa fn ts ck).says l.row.toRowW d [] (fun f vs => PySem.call f vs) := by
  refine Att.attach_callB hn hdf fun w s₀ s₁ mg mb f o pm cd doc a vs ns G Y ho hd2 hcd hmg hobj hints hlen hbits hg => ?_
  obtain ⟨K, KX, c⟩ := Y
  rw [hd] at hmg
  obtain ⟨e, fd, hb, hf⟩ := hF w mg _ K KX G.T.g c
  rw [e] at hmg
  cases hmg
  refine law_call KX G.T.g G.T.b G.T.builtins G.T.nolimit hg hobj hints (Nat.le_trans hlen (by decide +kernel)) hr (fun base h1 h2 => hf base h1 h2) hb (fun H hO hS => ?_) fun H e2 s2 z => cx_no z
  exact sp_good hO (by rw [hK]; exact hS) (good ns hlen hbits)

/-! ### tables -/
/-- what a table's entry holds: a def, by name and number; a tuple of numbers -/
def Te.dv : Te → DV
  | .fn _ id => .fn id
  | .tup l => .tup (nums l)
  | .int i => .int i
  | .str z => .str z
theorem isInts_ok : ∀ {l : List Int} {vs : List Value}, isInts l vs = true → Vals (l.map V.int) vs
  | [], [], _ => .nil
  | [], _ :: _, h => by cases h
  | i :: r, v :: s, h => by
    cases v with
    | int j t =>
      obtain ⟨a, b⟩ := He.ba (show (decide (i = j) && isInts r s) = true from h)
      have e : i = j := of_decide_eq_true a
      subst e
      exact .cons ⟨t, rfl⟩ (isInts_ok b)
    | _ => cases h
  | _ :: _, [], h => by cases h
/-- the table at a -/
theorem reps_nums {g : Glue} {W : Wd} {H : Hp} (l : List Int) : Reps g W H (nums l) (l.map V.int) := reps_ints l
theorem Te.rep {g : Glue} {t : Te} {u : Value} (hf : ∀ x id, t = .fn x id → He.ga g.K x = g.fA id) (h : t.is g.K u = true) : ∃ v, RelV v u ∧ ∀ W H, Rep g W H t.dv v := by
  cases t with
  | fn x id =>
    cases u with
    | ref a =>
      have e : a = He.ga g.K x := of_decide_eq_true h
      refine ⟨.ref a, rfl, fun W H => ?_⟩
      simp only [Te.dv, Rep]
      rw [e, hf x id rfl]
    | _ => cases h
  | int i =>
    cases u with
    | int j t =>
      have e : i = j := of_decide_eq_true h
      subst e
      refine ⟨.int i, ⟨t, rfl⟩, fun W H => ?_⟩
      simp only [Te.dv, Rep]
    | _ => cases h
  | str y =>
    cases u with
    | str z t =>
      have e : y = z := of_decide_eq_true h
      subst e
      refine ⟨.str y, ⟨t, rfl⟩, fun W H => ?_⟩
      simp only [Te.dv, Rep]
    | _ => cases h
  | tup l =>
    cases u with
    | ref a =>
      have h1 : (match g.K.lookup a with
        | some ⟨.type c, _, .seq its _, _⟩ => decide (c = "tuple") && (Nat.ble its.size 1000 && isInts l its.toList)
        | _ => false) = true := h
      cases q : g.K.lookup a with
      | none =>
        rw [q] at h1
        cases h1
      | some o =>
        obtain ⟨oc, od, dt, osl⟩ := o
        rw [q] at h1
        cases oc with
        | type c =>
          cases dt with
          | seq its n =>
            obtain ⟨h2, h3⟩ := He.ba (show (decide (c = "tuple") && (Nat.ble its.size 1000 && isInts l its.toList)) = true from h1)
            obtain ⟨h4, h5⟩ := He.ba h3
            have ec : c = "tuple" := of_decide_eq_true h2
            have sz : its.size ≤ 1000 := Nat.le_of_ble_eq_true h4
            refine ⟨.ref a, rfl, fun W H => ?_⟩
            simp only [Te.dv, Rep]
            refine ⟨a, l.map V.int, rfl, .inr ⟨_, its, n, q, by rw [ec], rfl, ?_, isInts_ok h5⟩, reps_nums l⟩
            rw [line_LN]
            show its.size ≤ 16777216
            omega
          | _ => cases h1
        | _ => cases dt <;> cases h1
    | _ => cases h
/-- the module's name x is such a table -/
structure TabOk (T : Tp) (x : Str) (es : List (Str × Te)) : Prop where
  ex : ∃ d, T.mg x = some (.ref d) ∧ ∀ z t, es.lookup z = some t → ∃ v, KDct T.g.K T.w d z v ∧ ∀ W H, Rep T.g W H t.dv v
theorem mem_of_lookup {A : Type} : ∀ {es : List (Str × A)} {z : Str} {t : A}, es.lookup z = some t → (z, t) ∈ es
  | [], _, _, h => by cases h
  | (y, u) :: r, z, t, h => by
    rw [List.lookup_cons] at h
    cases q : (z == y) with
    | true =>
      rw [q] at h
      have e1 : z = y := eq_of_beq q
      have e2 : u = t := Option.some.inj h
      subst e1 e2
      exact List.mem_cons_self
    | false =>
      rw [q] at h
      exact List.mem_cons_of_mem _ (mem_of_lookup h)
theorem tab_of {T : Tp} {x : Str} {es : List (Str × Te)} {d : Addr} {en : Array DictEntry} {n : Nat} (hm : T.mg x = some (.ref d)) (D : KDict T.g.K T.w d en n) (b : tabB T.g.K d es = true) (hf : ∀ q ∈ es, ∀ x id, q.2 = .fn x id → He.ga T.g.K x = T.g.fA id) : TabOk T x es := by
  refine ⟨d, hm, fun z t e => ?_⟩
  have m := mem_of_lookup e
  have b1 := List.all_eq_true.mp b (z, t) m
  cases q : PySem.W.nsIn T.g.K d z with
  | none =>
    simp only [q] at b1
    cases b1
  | some r =>
    cases r with
    | none =>
      simp only [q] at b1
      cases b1
    | some u =>
      simp only [q] at b1
      obtain ⟨v, rv, rp⟩ := Te.rep (hf (z, t) m) b1
      exact ⟨v, ⟨en, n, u, D.at_, D.lit, q, rv⟩, rp⟩
def vTab (es : List (Str × Te)) (x : DV) : M DV := match x with
  | .str z => (match es.lookup z with
    | some t => pure t.dv
    | none => M.bad)
  | _ => M.bad
section
variable {T : Tp} {X : Cx} {c : Cn} {N : List Str} {k : Nat} {sc : Scope} {x : Str} {pos p1 : Pos} {b : Expr} {mb : En → M DV}
theorem k_tab {es : List (Str × Te)} (hX : XEx T X c N k sc) (t : TabOk T x es) (hg : Gl X x) (hb : PE X b (RE c mb)) (hs : PlainIx b := by intro _ _; rfl) (hd : (x == ("__debug__" : Str)) = false := by decide) : PE X (.Subscript (.Name x p1) b pos) (RE c (e1 (vTab es) mb)) := by
  obtain ⟨d, hm, H⟩ := t.ex
  refine pe_imp (pe_ix ix_kdict (pe_glob (v := .ref d) hg (by rw [hX.pm]; exact hm) rfl hd) hb hs) fun s Hh Q q => ?_
  show RE c mb s Hh fun v H1 => rIxD X.K X.w (.ref d) v H1 Q
  refine RX.bind (K := fun v H1 => ∃ p z v2, V.ref d = .ref p ∧ v = V.str z ∧ KDct X.K X.w p z v2 ∧ Q v2 H1) q fun W e W1 H1 y v h1 t S r q2 => ?_
  unfold vTab at q2
  cases y with
  | str z =>
    simp only [] at q2
    cases z2 : es.lookup z with
    | none =>
      rw [z2] at q2
      exact q2.elim
    | some t =>
      rw [z2] at q2
      obtain ⟨v2, kd, rp⟩ := H z t z2
      simp only [Rep] at r
      subst r
      refine ⟨d, z, v2, rfl, rfl, by rw [hX.pk, hX.pw]; exact kd, q2.ret S ?_⟩
      show Rep c.g _ _ _ _
      rw [hX.pg]
      exact rp _ _
  | _ => exact q2.elim
end
@[simp] theorem vTab_app (es : List (Str × Te)) (z : Str) (h : HP) {t : Te} (q : es.lookup z = some t) : vTab es (.str z) h = .ok t.dv h := by
  unfold vTab
  simp only [q]
  rfl

/-! ### calls of what an expression gives -/
/-- the defs that may be called -/
abbrev Fns := List (Nat × (List DV → M DV))
def fnOf (fs : Fns) (f : DV) : Option (List DV → M DV) := match f with
  | .fn i => fs.lookup i
  | _ => none
def orBad (o : Option (List DV → M DV)) (ms : M (List DV)) : M DV := match o with
  | some m => ms >>= m
  | none => M.bad
def eCallF (fs : Fns) (mf : En → M DV) (ms : En → M (List DV)) : En → M DV := fun e => mf e >>= fun f => orBad (fnOf fs f) (ms e)
/-- what is known of each -/
structure FoL (T : Tp) (k n : Nat) (fs : Fns) : Prop where
  at_ : ∀ (i : Nat) (m : List DV → M DV), (i, m) ∈ fs → ∃ x, Fo T x i k n m
theorem FoL.nil {T : Tp} {k n : Nat} : FoL T k n [] := ⟨fun _ _ h => by cases h⟩
theorem FoL.cons {T : Tp} {x : Str} {j k n i : Nat} {m : List DV → M DV} {fs : Fns} (F : Fo T x i j n m) (hj : j ≤ k) (L : FoL T k n fs) : FoL T k n ((i, m) :: fs) := ⟨fun i2 m2 h => by
  rcases List.mem_cons.mp h with e | e
  · cases e
    exact ⟨x, F.mono hj⟩
  · exact L.at_ i2 m2 e⟩
theorem mem_of_lookupN {A : Type} : ∀ {es : List (Nat × A)} {z : Nat} {t : A}, es.lookup z = some t → (z, t) ∈ es
  | [], _, _, h => by cases h
  | (y, u) :: r, z, t, h => by
    rw [List.lookup_cons] at h
    cases q : (z == y) with
    | true =>
      rw [q] at h
      have e1 : z = y := eq_of_beq q
      have e2 : u = t := Option.some.inj h
      subst e1 e2
      exact List.mem_cons_self
    | false =>
      rw [q] at h
      exact List.mem_cons_of_mem _ (mem_of_lookupN h)
section
variable {T : Tp} {X : Cx} {c : Cn} {N : List Str} {k n : Nat} {sc : Scope} {pos : Pos} {fe ex : Expr} {es : List Expr} {mf : En → M DV} {ms : En → M (List DV)} {fs : Fns}
theorem c_callF (hX : XEx T X c N k sc) (L : FoL T k n fs) (hf : PE X fe (RE c mf)) (ha : PA X (ex :: es) (RA c n ms))
    (ht : eval (.Call fe (ex :: es) [] pos) X.env = (do callWith pos (← eval fe X.env) [] (backTo pos (starEach (ex :: es) X.env)) (backToKw pos (keywordEach [] X.env))) := by rfl)
    (he : starEach (ex :: es) X.env = (false, eval ex X.env) :: starEach es X.env := by rfl) (hpl : (backTo pos (starEach es X.env)).any (·.1) = false := by rfl) :
    PE X (.Call fe (ex :: es) [] pos) (RE c (eCallF fs mf ms)) := by
  refine ⟨fun pins s σ H Q I q => ?_⟩
  have q1 : RX c (rV c) mf σ H fun y H1 => ∃ f id m, y = V.ref f ∧ f = c.g.fA id ∧ (id, m) ∈ fs ∧ RX c (rVs c n) ms σ H1 fun vs H2 => spF c.g n m (vs ++ []) H2 Q (WE c.x σ) := by
    refine RX.bind (k := fun e f => orBad (fnOf fs f) (ms e)) q fun W e W1 H1 f v h1 t S r q2 => ?_
    cases z : fnOf fs f with
    | none =>
      rw [z] at q2
      exact q2.elim
    | some m =>
      rw [z] at q2
      unfold fnOf at z
      cases f with
      | fn id =>
        simp only [Rep] at r
        exact ⟨_, id, m, r, rfl, mem_of_lookupN z, call_use (m := m) ⟨W1, e, h1, S, q2⟩⟩
      | _ => cases z
  refine PyProof.Rows.Call_ (thn (hf.run pins s σ H _ I q1) fun u s1 ⟨y, H1, I1, ry, f, id, m, ey, ef, mem, q2⟩ => ?_) ht
  subst ey ef
  obtain rfl : u = Value.ref (c.g.fA id) := ry
  obtain ⟨x, F⟩ := L.at_ id m mem
  obtain ⟨gl, kp, fd, ps, b, fo⟩ := F.at hX
  refine PySem.W.callWith_K (h₀ := X.base) I1.ok.mod.kin kp (thn (ha.run pos pins s1 σ H1 _ I1 q2) fun us s2 ⟨vs, H2, I2, r, q3⟩ => ⟨I2.kIn, ?_⟩) he hpl
  exact run_fnSD fo hX.room b .nil (L2N.passAt hX.tk σ) I2 r q3
theorem c_callFN {x : Str} {p1 : Pos} (hX : XEx T X c N k sc) (L : FoL T k n fs) (hf : PE X (.Name x p1) (RE c mf)) (ha : PA X (ex :: es) (RA c n ms))
    (he : starEach (ex :: es) X.env = (false, eval ex X.env) :: starEach es X.env := by rfl) (hpl : (backTo pos (starEach es X.env)).any (·.1) = false := by rfl) :
    PE X (.Call (.Name x p1) (ex :: es) [] pos) (RE c (eCallF fs mf ms)) := by
  refine ⟨fun pins s σ H Q I q => ?_⟩
  have q1 : RX c (rV c) mf σ H fun y H1 => ∃ f id m, y = V.ref f ∧ f = c.g.fA id ∧ (id, m) ∈ fs ∧ RX c (rVs c n) ms σ H1 fun vs H2 => spF c.g n m (vs ++ []) H2 Q (WE c.x σ) := by
    refine RX.bind (k := fun e f => orBad (fnOf fs f) (ms e)) q fun W e W1 H1 f v h1 t S r q2 => ?_
    cases z : fnOf fs f with
    | none =>
      rw [z] at q2
      exact q2.elim
    | some m =>
      rw [z] at q2
      unfold fnOf at z
      cases f with
      | fn id =>
        simp only [Rep] at r
        exact ⟨_, id, m, r, rfl, mem_of_lookupN z, call_use (m := m) ⟨W1, e, h1, S, q2⟩⟩
      | _ => cases z
  refine wpAny_Call_Name_kw (thn (hf.run pins s σ H _ I q1) fun u s1 ⟨y, H1, I1, ry, f, id, m, ey, ef, mem, q2⟩ => ?_)
  subst ey ef
  obtain rfl : u = Value.ref (c.g.fA id) := ry
  obtain ⟨xf, F⟩ := L.at_ id m mem
  obtain ⟨gl, kp, fd, ps, b, fo⟩ := F.at hX
  refine PySem.W.callWith_K (h₀ := X.base) I1.ok.mod.kin kp (thn (ha.run pos pins s1 σ H1 _ I1 q2) fun us s2 ⟨vs, H2, I2, r, q3⟩ => ⟨I2.kIn, ?_⟩) he hpl
  exact run_fnSD fo hX.room b .nil (L2N.passAt hX.tk σ) I2 r q3
end
@[simp] theorem eCallF_app (fs : Fns) (mf : En → M DV) (ms : En → M (List DV)) (e : En) (h : HP) : eCallF fs mf ms e h = bR (mf e h) fun f h => orBad (fnOf fs f) (ms e) h := rfl
theorem orBad_some (m : List DV → M DV) (ms : M (List DV)) (h : HP) : orBad (some m) ms h = bR (ms h) fun l h => m l h := rfl
/-! ### texts -/
@[simp] theorem vEq_str (h : HP) (a b : Str) (ha : (PyData.str a).canLay0 = true) (hb : (PyData.str b).canLay0 = true) : vEq (.str a) (.str b) h = .ok (.bl (decide (a = b))) h := by
  have sh : ∀ a : Str, (PyData.str a).canLay0 = true → SeqAt.shaped (.str a) = true := fun a h => by
    unfold SeqAt.shaped
    rw [h]
    rfl
  have e : eqD (.str a) (.str b) = some (decide (a = b)) := by
    show (if (SeqAt.shaped (.str a) && SeqAt.shaped (.str b)) = true then some (PyData.eqv (.str a) (.str b)) else none) = _
    rw [sh a ha, sh b hb, if_pos (by rfl)]
    show some (a == b) = _
    congr 1
  unfold vEq
  rw [e]
  rfl
theorem k_cint {T : Tp} {X : Cx} {c : Cn} {N : List Str} {k : Nat} {sc : Scope} {x : Str} {pos : Pos} {i : Int} (h : XEx T X c N k sc) (hg : Gl X x) (hm : ∃ t, T.mg x = some (.int i t)) (hd : (x == ("__debug__" : Str)) = false := by decide) : PE X (.Name x pos) (RE c (eC (.int i))) := by
  obtain ⟨t, e⟩ := hm
  exact c_glob hg ⟨_, .int i, by rw [h.pm]; exact e, ⟨t, rfl⟩, fun W H => by simp only [Rep]⟩ hd
end LM

/-! A list of one's own is lent to a call that does not keep it. -/
namespace LM
open PySem L2

mutual
/-- names no list, dict or object -/
def flatR : DV → Bool
  | .non => true
  | .bl _ => true
  | .int _ => true
  | .str _ => true
  | .tup l => flatRs l
  | .scr _ => true
  | .fn _ => true
  | .ref _ => true
  | _ => false
def flatRs : List DV → Bool
  | [] => true
  | d :: ds => flatR d && flatRs ds
end
def flatO : HObj → Bool
  | .lst l => flatRs l
  | .obj _ l => flatRs l
mutual
theorem Rep.flat {g : Glue} {W W' : Wd} {H : Hp} (hr : W'.r = W.r) : ∀ (d : DV) (v : V), flatR d = true → Rep g W H d v → Rep g W' H d v
  | .non, v, _, r => by simpa only [Rep] using r
  | .bl b, v, _, r => by simpa only [Rep] using r
  | .int i, v, _, r => by simpa only [Rep] using r
  | .str s, v, _, r => by simpa only [Rep] using r
  | .tup l, v, q, r => by
    simp only [Rep] at r ⊢
    obtain ⟨a, vs, e, s, rs⟩ := r
    exact ⟨a, vs, e, s, Reps.flat hr l vs (by unfold flatR at q; exact q) rs⟩
  | .scr l, v, _, r => by simpa only [Rep] using r
  | .fn f, v, _, r => by simpa only [Rep] using r
  | .ref p, v, _, r => by
    simp only [Rep] at r ⊢
    rw [hr]
    exact r
  | .lst l, v, q, r => by
    unfold flatR at q
    cases q
  | .dct ks l, v, q, r => by
    unfold flatR at q
    cases q
  | .obj k l, v, q, r => by
    unfold flatR at q
    cases q
theorem Reps.flat {g : Glue} {W W' : Wd} {H : Hp} (hr : W'.r = W.r) : ∀ (l : List DV) (vs : List V), flatRs l = true → Reps g W H l vs → Reps g W' H l vs
  | [], vs, _, r => by simpa only [Reps] using r
  | d :: ds, vs, q, r => by
    simp only [Reps] at r ⊢
    obtain ⟨v, t, e, r1, r2⟩ := r
    unfold flatRs at q
    obtain ⟨q1, q2⟩ := Bool.and_eq_true_iff.mp q
    exact ⟨v, t, e, Rep.flat hr d v q1 r1, Reps.flat hr ds t q2 r2⟩
end
/-- the world in which these are frozen -/
def Wd.frzs (W : Wd) (A : List Addr) : Wd := ⟨fun b => W.F b ∨ b ∈ A, W.r⟩
def Wd.thaw (W' W : Wd) (A : List Addr) : Wd := ⟨fun b => W'.F b ∧ (W.F b ∨ b ∉ A), W'.r⟩
section
variable {g : Glue} {W W' : Wd} {h h' : HP} {H H' : Hp} {A : List Addr}
theorem frzs_per : Per W H (W.frzs A) H := ⟨fun _ f => .inl f, fun _ _ e => e, fun _ _ => rfl, fun _ _ e => e, fun _ _ _ e => e⟩
theorem HSim.frzs (S : HSim g W h H) (ha : ∀ a ∈ A, (∃ o, H a = some o) ∧ a ∉ W.r) : HSim g (W.frzs A) h H := by
  refine ⟨S.len, S.nd, fun p o a e1 e2 => ?_, fun a f => ?_⟩
  · obtain ⟨r, n⟩ := S.o p o a e1 e2
    refine ⟨?_, fun f => f.elim n fun m => (ha a m).2 (List.mem_of_getElem? e2)⟩
    cases o with
    | lst l =>
      obtain ⟨vs, e3, r3⟩ := r
      exact ⟨vs, e3, r3.per frzs_per _ _⟩
    | obj k l =>
      obtain ⟨dx, vs, e3, e4, r3⟩ := r
      exact ⟨dx, vs, e3, e4, r3.per frzs_per _ _⟩
  · rcases f with f | f
    · exact S.fs a f
    · exact (ha a f).1
theorem Step.thaw (t : Step (W.frzs A) H W' H') : Step W H (W'.thaw W A) H' :=
  ⟨fun a f => ⟨t.f a (.inl f), .inl f⟩, t.r, t.k, t.th, fun a f => by
    rcases t.nf a f.1 with q | q | q
    · rcases q with q | q
      · exact .inl q
      · rcases f.2 with f2 | f2
        · exact .inl f2
        · exact (f2 q).elim
    · exact .inr (.inl q)
    · exact .inr (.inr q), t.nr⟩
theorem HSim.thaw (S : HSim g W' h' H') (fl : h'.all flatO = true) : HSim g (W'.thaw W A) h' H' := by
  refine ⟨S.len, S.nd, fun p o a e1 e2 => ?_, fun a f => S.fs a f.1⟩
  obtain ⟨r, n⟩ := S.o p o a e1 e2
  refine ⟨?_, fun f => n f.1⟩
  have fo := List.all_eq_true.mp fl o (List.mem_of_getElem? e1)
  cases o with
  | lst l =>
    obtain ⟨vs, e3, r3⟩ := r
    exact ⟨vs, e3, Reps.flat (W := W') (W' := W'.thaw W A) rfl _ _ fo r3⟩
  | obj k l =>
    obtain ⟨dx, vs, e3, e4, r3⟩ := r
    exact ⟨dx, vs, e3, e4, Reps.flat (W := W') (W' := W'.thaw W A) rfl _ _ fo r3⟩
end
def RepsB (g : Glue) (W : Wd) (H : Hp) : List DV → List V → Prop
  | [], vs => vs = []
  | d :: ds, vs => ∃ v r, vs = v :: r ∧ RepB g W H d v ∧ RepsB g W H ds r
abbrev rVsB (c : Cn) (n : Nat) : Rl (List DV) (List V) := fun _ W H d v => RepsB c.g W H d v ∧ d.length = n
abbrev RAB (c : Cn) (n : Nat) (m : En → M (List DV)) : TA := RX c (rVsB c n) m
/-- the addresses that are lent -/
theorem RepsB.frz {g : Glue} {W : Wd} {H : Hp} : ∀ {ds : List DV} {vs : List V}, RepsB g W H ds vs → ∃ A : List Addr, (∀ a ∈ A, (∃ o, H a = some o) ∧ a ∉ W.r) ∧ ∀ B, (∀ a ∈ A, a ∈ B) → Reps g (W.frzs B) H ds vs
  | [], vs, r => by
    have e : vs = [] := r
    rw [e]
    exact ⟨[], (fun a (m : a ∈ []) => nomatch m), fun B _ => Reps.nil⟩
  | d :: ds, vs, r => by
    obtain ⟨v, t, e, r1, r2⟩ := r
    subst e
    obtain ⟨A, h1, h2⟩ := RepsB.frz r2
    rcases r1 with r1 | ⟨l, a, us, e1, e2, e3, r3, n⟩ | ⟨ks, l, a, us, e1, e2, e3, e4, r3, n⟩
    · exact ⟨A, h1, fun B hB => .cons (r1.per frzs_per _ _) (h2 B hB)⟩
    · subst e1 e2
      refine ⟨a :: A, fun b hb => ?_, fun B hB => .cons ?_ (h2 B fun b hb => hB b (List.mem_cons_of_mem _ hb))⟩
      · rcases List.mem_cons.mp hb with z | z
        · rw [z]
          exact ⟨⟨_, e3⟩, n⟩
        · exact h1 b z
      · simp only [Rep]
        exact ⟨a, us, rfl, .inr (hB a List.mem_cons_self), e3, r3.per frzs_per _ _⟩
    · subst e1 e2
      refine ⟨a :: A, fun b hb => ?_, fun B hB => .cons ?_ (h2 B fun b hb => hB b (List.mem_cons_of_mem _ hb))⟩
      · rcases List.mem_cons.mp hb with z | z
        · rw [z]
          exact ⟨⟨_, e3⟩, n⟩
        · exact h1 b z
      · simp only [Rep]
        exact ⟨a, us, rfl, .inr (hB a List.mem_cons_self), e3, e4, r3.per frzs_per _ _⟩
def flatM (m : M DV) : M DV := fun h => match m h with
  | .ok d h' => if flatR d && h'.all flatO then .ok d h' else .bad
  | .exc x h' => if flatRs x.l && h'.all flatO then .exc x h' else .bad
  | .bad => .bad
/-- f(e, ..), some of these lent -/
def eCallL (m : List DV → M DV) (ms : En → M (List DV)) : En → M DV := fun e => ms e >>= fun l => flatM (m l)
section
variable {T : Tp} {X : Cx} {c : Cn} {N : List Str} {k n : Nat} {sc : Scope} {pos p1 : Pos} {ex : Expr} {es : List Expr} {m1 : En → M DV} {ms : En → M (List DV)}
theorem stays_Bs {c : Cn} : Stays c (fun W H d v => RepsB c.g W H d v) := ⟨fun {W W' H H' h d v} S t r => by
  induction d generalizing v with
  | nil => exact r
  | cons x l ih =>
    obtain ⟨u, w, e, r1, r2⟩ := r
    exact ⟨u, w, e, stays_B.go S t r1, ih r2⟩⟩
theorem cb_nil : PA X [] (RAB c 0 aNil) := pa_imp pa_nil fun s H Q q => by
  obtain ⟨W, e, h, S, q⟩ := q
  exact q.ret S ⟨rfl, rfl⟩
theorem cb_cons (ha : PE X ex (RB c m1)) (hr : PA X es (RAB c n ms)) (hs : starEach (ex :: es) X.env = (false, eval ex X.env) :: starEach es X.env := by rfl) : PA X (ex :: es) (RAB c (n + 1) (aCons m1 ms)) :=
  pa_imp (pa_cons ha hr hs) fun s H Q q => RX.bind q fun W e W1 H1 x v h1 t S rx q2 => ⟨W1, e, h1, S, q2.bind fun W2 H2 xs vs h2 t2 S2 rs q3 => by
    have r1 := stays_B.go S.hs t2 rx
    exact q3.ret S2 ⟨⟨v, vs, rfl, r1, rs.1⟩, by rw [List.length_cons, rs.2]⟩⟩
theorem callL_use {m : List DV → M DV} {s : L2.St} {H : Hp} {Q : VK} (q : RE c (eCallL m ms) s H Q) : RX c (rVsB c n) ms s H fun vs H1 => spF c.g n m (vs ++ []) H1 Q (WE c.x s) := RX.bind (k := fun _ l => flatM (m l)) q fun W e W1 H1 ds vs h1 t S r q2 => by
  rw [List.append_nil]
  obtain ⟨A, hA, rA⟩ := r.1.frz
  refine ⟨W1.frzs A, h1, ds, S.hs.frzs hA, rA A fun _ h => h, r.2, ?_⟩
  unfold flatM at q2
  generalize m ds h1 = z at q2 ⊢
  cases z with
  | ok d h' =>
    intro W' H' v t' hs' r'
    by_cases fl : (flatR d && h'.all flatO) = true
    · have q3 : Post c (rV c H1) e s W1 H1 (if (flatR d && h'.all flatO) = true then .ok d h' else .bad) Q := q2
      rw [if_pos fl] at q3
      obtain ⟨f1, f2⟩ := Bool.and_eq_true_iff.mp fl
      exact q3 _ H' v t'.thaw (S.step t'.thaw (hs'.thaw f2)) (Rep.flat (W := W') (W' := W'.thaw W1 A) rfl d v f1 r')
    · have q3 : Post c (rV c H1) e s W1 H1 (if (flatR d && h'.all flatO) = true then .ok d h' else .bad) Q := q2
      rw [if_neg fl] at q3
      exact q3.elim
  | exc x h' =>
    intro W' H' cls dd t' hs' r'
    by_cases fl : (flatRs x.l && h'.all flatO) = true
    · have q3 : Post c (rV c H1) e s W1 H1 (if (flatRs x.l && h'.all flatO) = true then .exc x h' else .bad) Q := q2
      rw [if_pos fl] at q3
      obtain ⟨f1, f2⟩ := Bool.and_eq_true_iff.mp fl
      refine q3 _ H' cls dd t'.thaw (S.step t'.thaw (hs'.thaw f2)) ?_
      obtain ⟨ec, r2⟩ := r'
      refine ⟨ec, ?_⟩
      rcases r2 with r2 | ⟨d, us, e1, e2, e3, e4, e5⟩
      · exact .inl r2
      · exact .inr ⟨d, us, e1, e2, e3, Reps.flat (W := W') (W' := W'.thaw W1 A) rfl _ _ f1 e4, e5⟩
    · have q3 : Post c (rV c H1) e s W1 H1 (if (flatRs x.l && h'.all flatO) = true then .exc x h' else .bad) Q := q2
      rw [if_neg fl] at q3
      exact q3.elim
  | bad => exact q2
theorem c_callL {x : Str} {id j : Nat} {m : List DV → M DV} (hX : XEx T X c N k sc) (F : Fo T x id j n m) (hj : j ≤ k) (hg : Gl X x) (ha : PA X (ex :: es) (RAB c n ms))
    (hdb : (x == ("__debug__" : Str)) = false := by decide) (he : starEach (ex :: es) X.env = (false, eval ex X.env) :: starEach es X.env := by rfl) (hpl : (backTo pos (starEach es X.env)).any (·.1) = false := by rfl) :
    PE X (.Call (.Name x p1) (ex :: es) [] pos) (RE c (eCallL m ms)) := by
  obtain ⟨gl, kp, fd, ps, b, f⟩ := F.at hX
  exact pe_imp (pe_callSD f (hX.room.mono hj) hg gl kp b .nil (fun s => L2N.passAt hX.tk s) ha hdb he hpl) fun s H Q q => callL_use q
end
def flR (r : Res DV) : Res DV := match r with
  | .ok d h' => if flatR d && h'.all flatO then .ok d h' else .bad
  | .exc x h' => if flatRs x.l && h'.all flatO then .exc x h' else .bad
  | .bad => .bad
@[simp] theorem eCallL_app (m : List DV → M DV) (ms : En → M (List DV)) (e : En) (h : HP) : eCallL m ms e h = bR (ms e h) fun l h => flR (m l h) := rfl
theorem flR_ok {d : DV} {h : HP} (q : (flatR d && h.all flatO) = true) : flR (.ok d h) = .ok d h := by
  unfold flR
  simp only []
  rw [if_pos q]
theorem flR_exc {x : Ex} {h : HP} (q : (flatRs x.l && h.all flatO) = true) : flR (.exc x h) = .exc x h := by
  unfold flR
  simp only []
  rw [if_pos q]
end LM

/-! raise of own exceptions. -/
namespace LM
open PySem L2

/-- what __init__(self, x, y): self.f = x; self.g = y keeps -/
def spI2 (K : PySem.W.Frag) (f1 f2 : Str) : Sp := fun vs H Q E => ∃ (a C : Addr) (y1 y2 : V), vs = [.ref a, y1, y2] ∧ OexC K C ∧ PySem.W.findIn K (.ref C) f1 = some none ∧ PySem.W.findIn K (.ref C) f2 = some none ∧ H a = some (exo a C none) ∧
  ∀ dx, H dx = none → dx ≠ a → Q .non (upd (upd (upd H dx (exd dx [(f1, y1)])) a (exo a C (some dx))) dx (exd dx [(f2, y2), (f1, y1)]))
def spI1 (K : PySem.W.Frag) (f1 : Str) : Sp := fun vs H Q E => ∃ (a C : Addr) (y1 : V), vs = [.ref a, y1] ∧ OexC K C ∧ PySem.W.findIn K (.ref C) f1 = some none ∧ H a = some (exo a C none) ∧
  ∀ dx, H dx = none → dx ≠ a → Q .non (upd (upd H dx (exd dx [(f1, y1)])) a (exo a C (some dx)))
theorem init2_ok {P : Program} {w : World} {K : PySem.W.Frag} {mg : Str → Option Value} {base : Heap} {CX : CXT} {qual : Str} {params : Arguments} {scope : Scope} {kws : List (Str × V)} {f : Addr} {fd : FuncData} {x1 x2 f1 f2 : Str} {a1 a2 a3 a4 b1 b2 b3 b4 : Pos}
    (F : FunD K "__init__" qual params [.Assign [.Attribute (.Name "self" a1) f1 a2] (.Name x1 a3) a4, .Assign [.Attribute (.Name "self" b1) f2 b2] (.Name x2 b3) b4] scope [] kws f fd) (S : FnScope ["self", x1, x2] ["self", x1, x2] scope)
    (v0 : Vis scope "self") (v1 : Vis scope x1) (v2 : Vis scope x2) (d1 : (x1 == ("__debug__" : Str)) = false) (d2 : (x2 == ("__debug__" : Str)) = false) (c1 : (x1 == ("__classdict__" : Str)) = false) (c2 : (x2 == ("__classdict__" : Str)) = false) :
    FnOk P w K mg base CX 1 f fd ["self", x1, x2] (spI2 K f1 f2) := by
  refine F.ok S (fun vs H Q E h => ?_) (fun cdv A outer s H vs Q E hr h => ⟨_, PSs.nox (pss_cons (ps_ost (pe_var (i := 0) rfl v0) (pe_var (i := 1) rfl v1 d1 c1)) (pss_one (ps_ost (pe_var (i := 0) rfl v0) (pe_var (i := 2) rfl v2 d2 c2)))), ?_⟩)
  · obtain ⟨a, C, y1, y2, rfl, _⟩ := h
    rfl
  · obtain ⟨a, C, y1, y2, rfl, T, n1, n2, ha, q⟩ := h
    refine ⟨y1, rfl, .ref a, rfl, a, C, rfl, T, n1, .inl ⟨ha, fun dx hd hne => ?_⟩⟩
    refine ⟨y2, rfl, .ref a, rfl, a, C, rfl, T, n2, .inr ⟨dx, [(f1, y1)], upd_same, ?_, (by show 1 ≤ 900; decide), q dx hd hne⟩⟩
    rw [upd_ne hne]
    exact upd_same
theorem init1_ok {P : Program} {w : World} {K : PySem.W.Frag} {mg : Str → Option Value} {base : Heap} {CX : CXT} {qual : Str} {params : Arguments} {scope : Scope} {kws : List (Str × V)} {f : Addr} {fd : FuncData} {x1 f1 : Str} {a1 a2 a3 a4 : Pos}
    (F : FunD K "__init__" qual params [.Assign [.Attribute (.Name "self" a1) f1 a2] (.Name x1 a3) a4] scope [] kws f fd) (S : FnScope ["self", x1] ["self", x1] scope)
    (v0 : Vis scope "self") (v1 : Vis scope x1) (d1 : (x1 == ("__debug__" : Str)) = false) (c1 : (x1 == ("__classdict__" : Str)) = false) : FnOk P w K mg base CX 1 f fd ["self", x1] (spI1 K f1) := by
  refine F.ok S (fun vs H Q E h => ?_) (fun cdv A outer s H vs Q E hr h => ⟨_, PSs.nox (pss_one (ps_ost (pe_var (i := 0) rfl v0) (pe_var (i := 1) rfl v1 d1 c1))), ?_⟩)
  · obtain ⟨a, C, y1, rfl, _⟩ := h
    rfl
  · obtain ⟨a, C, y1, rfl, T, n1, ha, q⟩ := h
    exact ⟨y1, rfl, .ref a, rfl, a, C, rfl, T, n1, .inl ⟨ha, fun dx hd hne => q dx hd hne⟩⟩

/-- what is known of an own exception's class, number cid; two fields -/
structure Eo2 (T : Tp) (x : Str) (cid : Nat) (f1 f2 : Str) : Prop where
  gl : T.mg x = some (.ref (T.g.cA cid))
  fl : T.g.flds cid = [f2, f1]
  oc : OexC T.g.K (T.g.cA cid)
  n1 : PySem.W.findIn T.g.K (.ref (T.g.cA cid)) f1 = some none
  n2 : PySem.W.findIn T.g.K (.ref (T.g.cA cid)) f2 = some none
  ini : ∃ fI fd ps, PySem.W.findIn T.g.K (.ref (T.g.cA cid)) "__init__" = some (some (.ref fI)) ∧ PySem.W.typeIn T.g.K (.ref fI) = some (.type "function") ∧ Binds T.g.K fd ps [] ∧ FnOk T.P T.w T.g.K T.mg T.base (L2N.CX T.P T.w) 1 fI fd ps (spI2 T.g.K f1 f2)
structure Eo1 (T : Tp) (x : Str) (cid : Nat) (f1 : Str) : Prop where
  gl : T.mg x = some (.ref (T.g.cA cid))
  fl : T.g.flds cid = [f1]
  oc : OexC T.g.K (T.g.cA cid)
  n1 : PySem.W.findIn T.g.K (.ref (T.g.cA cid)) f1 = some none
  ini : ∃ fI fd ps, PySem.W.findIn T.g.K (.ref (T.g.cA cid)) "__init__" = some (some (.ref fI)) ∧ PySem.W.typeIn T.g.K (.ref fI) = some (.type "function") ∧ Binds T.g.K fd ps [] ∧ FnOk T.P T.w T.g.K T.mg T.base (L2N.CX T.P T.w) 1 fI fd ps (spI1 T.g.K f1)
def sRaise (cid : Nat) (ms : En → M (List DV)) : Stm := sBind ms fun l e h => .exc ⟨cid, l.reverse⟩ e h
theorem no_pass {P : Program} {w : World} {X : Cx} : Passes (L2N.CX P w) X (fun _ _ _ => False) := fun _ _ _ _ _ _ _ h => by
  obtain ⟨_, _, _, _, _, _, _, _, _, _, _, _, z⟩ := h
  exact z.elim
/-- C(e, ..) of an own class whose __init__ keeps sp; its context is None -/
theorem pmkN_oex {Y : Cx} {CY : CXT} {xn : Str} {ce : Expr} {ces : List Expr} {np cp : Pos} {ta : TA} {C fI : Addr} {kk : Nat} {fd : FuncData} {qs : List Str} {sp : Sp} {us0 : List Value} {vs0 : List V} (T : OexC Y.K C) (iC : PySem.W.findIn Y.K (.ref C) "__init__" = some (some (.ref fI))) (tI : PySem.W.typeIn Y.K (.ref fI) = some (.type "function"))
    (F1 : FnOk Y.prog Y.w Y.K Y.mg Y.base CY kk fI fd qs sp) (rm : Room (kk + 1) Y.A) (bd : Binds Y.K fd qs us0) (vd : Vals vs0 us0) (px : Passes CY Y (fun _ _ _ => False)) (gx : Gl Y xn) (mx : Y.mg xn = some (.ref C)) (pa : PA Y (ce :: ces) ta)
    (nb : (xn == ("__debug__" : Str)) = false := by decide) (se : starEach (ce :: ces) Y.env = (false, eval ce Y.env) :: starEach ces Y.env := by rfl) (ns : (backTo cp (starEach ces Y.env)).any (·.1) = false := by rfl) :
    L2N.PMk Y (.Call (.Name xn np) (ce :: ces) [] cp) (tMkO C sp vs0 ta) := by
  intro pins s σ H Q I0 w0
  obtain ⟨nm, q, N, bs, bm, sn, sub, ab, col, dd, k0, k1, k2, k3, k5, cC, rbm⟩ := T.cls
  refine wpAny_Call_Name_kw (ld_glob I0 gx mx ?_ nb)
  refine PySem.W.callWith_K (h₀ := Y.base) I0.ok.mod.kin T.kC (thn (pa.run cp pins s σ H _ I0 w0) fun us s1 ⟨vs, H1, I1, r1, lz, w1⟩ => ⟨I1.kIn, ?_⟩) se ns
  show wpAny _ _ (call (.ref C) us) _ _ _
  obtain ⟨hh, gg, dr, tk, os⟩ := s1
  have up1 : hh.objs.size ≤ hh.objs.size + 1 := Nat.le_succ _
  have fr1 : H1 (hh.objs.size + 1) = none := I1.hok.fresh up1
  have w2 := w1 (hh.objs.size + 1) fr1
  have old : ∀ b o, hh.get? b = some o → ((hh.push (PySem.W.kdv_tup us)).push (PySem.HandSPX.excO C hh.objs.size)).get? b = some o := fun b o z => Heap.get?_push_of_some _ (Heap.get?_push_of_some _ z)
  have mine : ((hh.push (PySem.W.kdv_tup us)).push (PySem.HandSPX.excO C hh.objs.size)).get? (hh.objs.size + 1) = some (PySem.HandSPX.excO C hh.objs.size) := by heap_get
  have I2 : Inv Y pins σ (upd H1 (hh.objs.size + 1) (exo (hh.objs.size + 1) C none)) ⟨(hh.push (PySem.W.kdv_tup us)).push (PySem.HandSPX.excO C hh.objs.size), gg, dr, tk, os⟩ :=
    I1.laid (t' := tk) (a := hh.objs.size + 1) (o := exo (hh.objs.size + 1) C none) (h' := (hh.push (PySem.W.kdv_tup us)).push (PySem.HandSPX.excO C hh.objs.size)) old up1 (exo_ok mine)
  have r2 : Vals (V.ref (hh.objs.size + 1) :: (vs ++ vs0)) (Value.ref (hh.objs.size + 1) :: (us ++ us0)) := .cons rfl (r1.append vd)
  have len : (Value.ref (hh.objs.size + 1) :: us ++ us0).length = qs.length := by
    have z := r2.length
    rw [F1.len _ _ _ _ w2] at z
    exact z.symm
  have few : us.length ≤ sizeLine := by
    rw [← Paired.length r1, sizeLine_eq]
    omega
  refine wpAny_call (PySem.HandSPX.call_own F.excBase_ValueError (fun Z => PySem.HandSPX.refsVE_contains Z bm rbm) (I1.kIn _ _ cC) (PySem.W.looks_findIn I1.kIn iC) (fun me => PySem.W.bind_fn I1.kIn me tI) few
    (codeAny_mono (F1.run _ Y.stack _ _ ⟨Value.ref (hh.objs.size + 1) :: us, []⟩ (Value.ref (hh.objs.size + 1) :: (us ++ us0)) _ _ (fun _ _ _ => False) (rm.make C us []) (I2.env0.make C us []) (bd _ (Value.ref (hh.objs.size + 1) :: us) I2.kIn len) r2 w2) fun r s' w3 => ?_))
  cases r with
  | error er => exact px pins σ _ _ er s' I2 w3
  | ok fl =>
    cases fl with
    | ret u =>
      obtain ⟨v, H2, o2, b2, un2, ok2, rv, ev, d, fs, ea, ed, hd1, w4⟩ := w3
      subst ev
      obtain ⟨h2, g2, d2, t2, os'⟩ := s'
      obtain ⟨t0, G, J, kG, ge, me, na⟩ := mk_end0 (d2 := d2) (t2 := t2) I1 up1 old un2 ok2 o2 b2 ea ed hd1
      exact ⟨rv, hh.objs.size + 1, _, _, ⟨G, g2, d2, t2, os'⟩, _, .ref C, some d, rfl, J, kG, ge, me, ⟨rfl, rfl, fun vs z => by
        cases z
        rfl⟩, rfl, rfl, na, rfl, b2, raises_own T.exC T.tyC, w4⟩
    | next => exact w3.elim
    | brk => exact w3.elim
    | cont => exact w3.elim
section
variable {T : Tp} {X : Cx} {c : Cn} {N : List Str} {k : Nat} {sc : Scope} {x : Str} {pos p p1 : Pos} {e1 e2 : Expr} {ms : En → M (List DV)} {cid : Nat} {f1 f2 : Str}
/-- the exception's dict stands -/
theorem raise_end {C : Addr} {W1 : Wd} {e : En} {h1 : HP} {s : L2.St} {H1 H2 : Hp} {D : Ends} {l : List DV} {vs : List V} {dx : Addr} (S1 : Sim c W1 e h1 s H1) (q : PostS c W1 H1 (.exc ⟨cid, l⟩ e h1) D) (hC : C = c.g.cA cid) (hd : H1 dx = none)
    (eH : H2 = upd H1 dx (.xd ((c.g.flds cid).zip vs))) (hl : vs.length = (c.g.flds cid).length) (r : Reps c.g W1 H1 l vs) : c.x (.ref C) (some dx) s H2 := by
  subst eH
  obtain ⟨t, S2⟩ := S1.new (o := .xd ((c.g.flds cid).zip vs)) hd
  have pr := t.per S1.hs
  refine q W1 s _ (.ref C) (some dx) pr S2 ⟨by rw [hC], .inr ⟨dx, vs, rfl, upd_same, hl, r.per pr _ _, not_r S1.hs hd⟩⟩
theorem s_raise2 (hX : XSt T X c N k sc) (o : Eo2 T x cid f1 f2) (hk : 2 ≤ k) (hg : Gl X x) (ha : PA X [e1, e2] (RA c 2 ms)) (hdb : (x == ("__debug__" : Str)) = false := by decide) (he : starEach [e1, e2] X.env = (false, eval e1 X.env) :: starEach [e2] X.env := by rfl)
    (hpl : (backTo p (starEach [e2] X.env)).any (·.1) = false := by rfl) : PS X (.Raise (some (.Call (.Name x p1) [e1, e2] [] p)) none pos) (RS c (sRaise cid ms)) := by
  have eg := hX.e.pg
  obtain ⟨fI, fd, ps, i1, i2, b, fo⟩ := o.ini
  have room : Room 2 X.A := hX.e.room.mono hk
  refine ps_imp (L2N.ps_raise hX.e.calm hX.e.tk (pmkN_oex (Y := X) (C := T.g.cA cid) (fI := fI) (kk := 1) (sp := spI2 T.g.K f1 f2) (by rw [hX.e.pk]; exact o.oc) (by rw [hX.e.pk]; exact i1) (by rw [hX.e.pk]; exact i2) (by rw [hX.e.pp, hX.e.pw, hX.e.pk, hX.e.pm, hX.e.pb]; exact fo) room (by rw [hX.e.pk]; exact b) .nil no_pass hg (by rw [hX.e.pm]; exact o.gl) ha hdb he hpl)) fun D s H q => ?_
  refine sb_use q fun W e W1 H1 l vs h1 t S r q1 => ?_
  obtain ⟨r, rl⟩ := r
  obtain ⟨d1, d2, el⟩ : ∃ d1 d2, l = [d1, d2] := by
    match l, rl with
    | [a, b], _ => exact ⟨a, b, rfl⟩
  subst el
  obtain ⟨y1, t1, ev, r1, r2⟩ := (show ∃ v r, vs = v :: r ∧ Rep c.g W1 H1 d1 v ∧ Reps c.g W1 H1 [d2] r by simpa only [Reps] using r)
  obtain ⟨y2, t2, ev2, r3, r4⟩ := (show ∃ v r, t1 = v :: r ∧ Rep c.g W1 H1 d2 v ∧ Reps c.g W1 H1 [] r by simpa only [Reps] using r2)
  have et : t2 = [] := by simpa only [Reps] using r4
  subst ev ev2 et
  refine ⟨by simp, fun a hna => ⟨a, T.g.cA cid, y1, y2, rfl, o.oc, o.n1, o.n2, upd_same, fun dx hd hne => ⟨rfl, dx, [(f2, y2), (f1, y1)], ?_, upd_same, ?_, ?_⟩⟩⟩
  · rw [upd_ne (Ne.symm hne)]
    exact upd_same
  · rw [upd_ne hne] at hd
    exact hd
  · rw [upd_ne hne] at hd
    have q2 : PostS c W1 H1 (.exc ⟨cid, [d2, d1]⟩ e h1) D := q1
    refine raise_end (l := [d2, d1]) (vs := [y2, y1]) (dx := dx) S q2 (by rw [eg]) hd ?_ (by rw [eg, o.fl]; rfl) (.cons r3 (.cons r1 .nil))
    rw [eg, o.fl]
    funext z
    by_cases z1 : z = dx
    · rw [z1, upd_same, upd_same]
      rfl
    · rw [upd_ne z1, upd_ne z1]
      by_cases z2 : z = a
      · rw [z2, del_same, hna]
      · rw [del_ne z2, upd_ne z1, upd_ne z2, upd_ne z1, upd_ne z2]
theorem s_raise1 (hX : XSt T X c N k sc) (o : Eo1 T x cid f1) (hk : 2 ≤ k) (hg : Gl X x) (ha : PA X [e1] (RA c 1 ms)) (hdb : (x == ("__debug__" : Str)) = false := by decide) (he : starEach [e1] X.env = (false, eval e1 X.env) :: starEach [] X.env := by rfl)
    (hpl : (backTo p (starEach [] X.env)).any (·.1) = false := by rfl) : PS X (.Raise (some (.Call (.Name x p1) [e1] [] p)) none pos) (RS c (sRaise cid ms)) := by
  have eg := hX.e.pg
  obtain ⟨fI, fd, ps, i1, i2, b, fo⟩ := o.ini
  have room : Room 2 X.A := hX.e.room.mono hk
  refine ps_imp (L2N.ps_raise hX.e.calm hX.e.tk (pmkN_oex (Y := X) (C := T.g.cA cid) (fI := fI) (kk := 1) (sp := spI1 T.g.K f1) (by rw [hX.e.pk]; exact o.oc) (by rw [hX.e.pk]; exact i1) (by rw [hX.e.pk]; exact i2) (by rw [hX.e.pp, hX.e.pw, hX.e.pk, hX.e.pm, hX.e.pb]; exact fo) room (by rw [hX.e.pk]; exact b) .nil no_pass hg (by rw [hX.e.pm]; exact o.gl) ha hdb he hpl)) fun D s H q => ?_
  refine sb_use q fun W e W1 H1 l vs h1 t S r q1 => ?_
  obtain ⟨r, rl⟩ := r
  obtain ⟨d1, el⟩ : ∃ d1, l = [d1] := by
    match l, rl with
    | [a], _ => exact ⟨a, rfl⟩
  subst el
  obtain ⟨y1, t1, ev, r1, r2⟩ := (show ∃ v r, vs = v :: r ∧ Rep c.g W1 H1 d1 v ∧ Reps c.g W1 H1 [] r by simpa only [Reps] using r)
  have et : t1 = [] := by simpa only [Reps] using r2
  subst ev et
  refine ⟨by simp, fun a hna => ⟨a, T.g.cA cid, y1, rfl, o.oc, o.n1, upd_same, fun dx hd hne => ⟨rfl, dx, [(f1, y1)], upd_same, ?_, ?_, ?_⟩⟩⟩
  · rw [upd_ne hne]
    exact upd_same
  · rw [upd_ne hne] at hd
    exact hd
  · rw [upd_ne hne] at hd
    have q2 : PostS c W1 H1 (.exc ⟨cid, [d1]⟩ e h1) D := q1
    refine raise_end (l := [d1]) (vs := [y1]) (dx := dx) S q2 (by rw [eg]) hd ?_ (by rw [eg, o.fl]; rfl) (.cons r1 .nil)
    rw [eg, o.fl]
    funext z
    by_cases z1 : z = dx
    · rw [z1, upd_same, upd_same]
      rfl
    · rw [upd_ne z1, upd_ne z1]
      by_cases z2 : z = a
      · rw [z2, del_same, hna]
      · rw [del_ne z2, upd_ne z2, upd_ne z1, upd_ne z2]
end
@[simp] theorem sRaise_app (cid : Nat) (ms : En → M (List DV)) (e : En) (h : HP) : sRaise cid ms e h = uR (ms e h) e fun l e h => .exc ⟨cid, l.reverse⟩ e h := rfl
end LM

/-! try .. except X as n: .. -/
namespace LM
open PySem L2 L2H

/-! ### slots without exceptions -/
def unX : Slot → Slot
  | .exn _ => .none
  | x => x
def noExn (e : En) : En := e.map unX
theorem unX_val {x : Slot} {d : DV} (h : unX x = .val d) : x = .val d := by
  cases x <;> first | exact h | cases h
theorem unX_own {x : Slot} {l : List DV} (h : unX x = .own l) : x = .own l := by
  cases x <;> first | exact h | cases h
theorem unX_dic {x : Slot} {ks : List Int} {l : List DV} (h : unX x = .dic ks l) : x = .dic ks l := by
  cases x <;> first | exact h | cases h
theorem unX_isOwn (x : Slot) : (unX x).isOwn = x.isOwn := by cases x <;> rfl
theorem noExn_at {e : En} {i : Nat} {y : Slot} (h : (noExn e)[i]? = some y) : ∃ x, e[i]? = some x ∧ unX x = y := by
  unfold noExn at h
  rw [List.getElem?_map] at h
  cases z : e[i]? with
  | none =>
    rw [z] at h
    cases h
  | some x =>
    rw [z] at h
    exact ⟨x, rfl, Option.some.inj h⟩
theorem Sim.noExn {c c' : Cn} {W : Wd} {e : En} {h : HP} {s : L2.St} {H : Hp} (S : Sim c W e h s H) (eg : c'.g = c.g) (e0 : c'.W0 = c.W0) (e1 : c'.H0 = c.H0) : Sim c' W (noExn e) h s H := by
  refine ⟨by rw [eg]; exact S.hs, by rw [e0, e1]; exact S.st, by unfold LM.noExn; rw [List.length_map]; exact S.len, fun i d q => ?_, fun i l q => ?_, fun i ks l q => ?_, fun i j a x y q1 o1 q2 o2 q3 q4 => ?_, fun i x q => ?_⟩
  · obtain ⟨x, q1, q2⟩ := noExn_at q
    rw [unX_val q2] at q1
    rw [eg]
    exact S.val i d q1
  · obtain ⟨x, q1, q2⟩ := noExn_at q
    rw [unX_own q2] at q1
    rw [eg, e1]
    exact S.own i l q1
  · obtain ⟨x, q1, q2⟩ := noExn_at q
    rw [unX_dic q2] at q1
    rw [eg, e1]
    exact S.dic i ks l q1
  · obtain ⟨x1, r1, r2⟩ := noExn_at q1
    obtain ⟨y1, r3, r4⟩ := noExn_at q2
    refine S.ne i j a x1 y1 r1 ?_ r3 ?_ q3 q4
    · rw [← unX_isOwn, r2]
      exact o1
    · rw [← unX_isOwn, r4]
      exact o2
  · obtain ⟨y, q1, q2⟩ := noExn_at q
    cases y <;> cases q2
/-! ### the statement -/
def tryR (r : SRes) (i : Nat) : SRes := match r with
  | .nx e h => .nx ((noExn e).set i .none) h
  | .rt d h => .rt d h
  | _ => .bad
def sTry (ck : Nat → Option Bool) (i : Nat) (body hd : Stm) : Stm := fun e h => match body e h with
  | .exc x e' h' => (match ck x.c with
    | some true => tryR (hd ((noExn e').set i (.exn x)) h') i
    | some false => .exc x e' h'
    | none => .bad)
  | r => r
/-- where an except suite stands -/
structure XHo (T : Tp) (X : Cx) (c : Cn) (N : List Str) (k : Nat) (sc : Scope) : Prop where
  pp : X.prog = T.P
  pw : X.w = T.w
  pk : X.K = T.g.K
  pm : X.mg = T.mg
  pb : X.base = T.base
  pg : c.g = T.g
  nm : X.N = N
  nd : N.Nodup
  sc : X.env.scope = sc
  room : RoomH k X.A
  cx : c.x = fun _ _ _ _ => False
  cur : ∃ (X0 : Cx) (a : Addr) (oe : Obj) (cls : Value) (dd : Option Addr) (pn : List (Addr × Obj)), X = X0.suite a ((a, oe) :: pn) ∧ c.cur = some (a, cls, dd) ∧ L2N.Zn cls dd oe ∧ ∃ vs, oe.data = .fields vs
section
variable {T : Tp} {X : Cx} {c : Cn} {N : List Str} {k : Nat} {sc : Scope} {x : Str}
theorem XHo.kk (h : XHo T X c N k sc) : X.K = c.g.K := by rw [h.pk, h.pg]
theorem XHo.gl (h : XHo T X c N k sc) (v : sc.names.lookup x = some .globalImplicit) : Gl X x := by
  show X.env.scope.names.lookup x = _
  rw [h.sc]
  exact v
theorem XHo.no (h : XHo T X c N k sc) (q : T.mg x = none) : X.mg x = none := by
  rw [h.pm]
  exact q
theorem XHo.hot (h : XHo T X c N k sc) : HotC X := by
  obtain ⟨X0, a, oe, cls, dd, pn, e, _, z, vs, f⟩ := h.cur
  subst e
  exact ⟨(a, oe), ⟨rfl, vs, f, z.2.2 vs f⟩, List.mem_cons_self⟩
end
/-- the classes that a clause takes -/
structure CkOk (T : Tp) (cv : Value) (ck : Nat → Option Bool) : Prop where
  ok : ∀ (i : Nat) (b : Bool), ck i = some b → PySem.W.exmOne T.g.K (.ref (T.g.cA i)) cv = some b
section
variable {T : Tp} {X : Cx} {c : Cn} {N : List Str} {k : Nat} {sc : Scope} {x n : Str} {cv : Value} {ck : Nat → Option Bool} {i : Nat} {body suite : List Stmt} {b0 : Stmt} {np pos pos' : Pos} {mb mh : Stm}
theorem s_try (hX : XSt T X c N k sc) (hi : N[i]? = some n) (hln : sc.names.lookup n = some .local) (hg : Gl X x) (hm : T.mg x = some cv) (kc : CkOk T cv ck) (hb : ∀ (X' : Cx) (c' : Cn), XSt T X' c' N k sc → PSs X' body (RS c' mb)) (hh : ∀ (X' : Cx) (c' : Cn), XHo T X' c' N k sc → PSs X' (b0 :: suite) (RS c' mh))
    (hdb : (x == ("__debug__" : Str)) = false := by decide) : PS X (.Try body [.ExceptHandler (some (.Name x np)) (some n) (b0 :: suite) pos'] [] [] pos) (RS c (sTry ck i mb mh)) := by
  have eN : X.N[i]? = some n := hX.e.at hi
  let c' : Addr → Value → Option Addr → Cn := fun a cls dd => { c with x := fun _ _ _ _ => False, cur := some (a, cls, dd) }
  refine ps_imp (L2N.ps_try_as (tb := fun W => RS (c.wx W) mb) (ts := fun a cls d => RS (c' a cls d) mh) (Wout := c.x) hX.st hX.fr hX.e.ndX eN (by
    show X.env.scope.names.lookup n = _
    rw [hX.e.sc]
    exact hln) ⟨hg, hdb, .inl (by rw [hX.e.pm]; exact hm)⟩ hX.e.tk (fun W pn xe tk pa => hb _ _ ⟨⟨hX.e.pp, hX.e.pw, hX.e.pk, hX.e.pm, hX.e.pb, hX.e.pg, hX.e.nm, hX.e.nd, hX.e.sc, hX.e.calm, hX.e.room, tk⟩, pa, hX.fn, hX.st, hX.fr⟩)
    fun a oe cls d pn hz hf => hh _ _ ⟨hX.e.pp, hX.e.pw, hX.e.pk, hX.e.pm, hX.e.pb, hX.e.pg, hX.e.nm, hX.e.nd, hX.e.sc, roomH_mark hX.e.room _, rfl, X, a, oe, cls, d, pn, rfl, rfl, hz, hf⟩) fun D s H q => ?_
  obtain ⟨W, e, h, S, q⟩ := q
  refine ⟨W, e, h, S.wx, ?_⟩
  unfold sTry at q
  cases z : mb e h with
  | nx e' h' =>
    rw [z] at q
    exact fun W' s' H' p S' => q W' s' H' p S'.ofWx
  | bk e' h' =>
    rw [z] at q
    exact fun W' s' H' p S' => q W' s' H' p S'.ofWx
  | ct e' h' =>
    rw [z] at q
    exact fun W' s' H' p S' => q W' s' H' p S'.ofWx
  | rt d h' =>
    rw [z] at q
    exact q
  | bad =>
    rw [z] at q
    exact q.elim
  | exc y e' h' =>
    rw [z] at q
    simp only [] at q
    intro W' s' H' cls dd p S' r
    have S1 := S'.ofWx
    obtain ⟨ec, rr⟩ := r
    have ec : cls = .ref (c.g.cA y.c) := ec
    cases zc : ck y.c with
    | none =>
      rw [zc] at q
      exact q.elim
    | some b =>
      rw [zc] at q
      refine ⟨b, ?_, fun hb2 a na => ?_, fun hb2 => ?_⟩
      · rw [ec, hX.e.pk, hX.e.pg]
        exact kc.ok _ _ zc
      · subst hb2
        have q1 : PostS c W H (tryR (mh ((noExn e').set i (.exn y)) h') i) D := q
        -- the exception's dict is frozen
        obtain ⟨W2, p2, hs2, t2, rF⟩ : ∃ W2, Per W' H' W2 H' ∧ HSim c.g W2 h' H' ∧ Step W' H' W2 H' ∧ XRepF c.g W2 H' y cls dd := by
          rcases rr with ⟨r1, r2⟩ | ⟨d, vs, r1, r2, r3, r4, r5⟩
          · exact ⟨W', Per.refl _ _, S1.hs, Step.refl _ _, ec, .inl ⟨r1, r2⟩⟩
          · have t : Step W' H' (W'.frz d) H' := ⟨fun _ f => .inl f, fun _ _ z => z, fun _ _ z _ => z, fun _ z => z, fun b f => f.elim .inl fun z => .inr (.inr (by
              rw [z]
              exact ⟨r5, _, r2⟩)), fun _ m => .inl m⟩
            have pr := t.per S1.hs
            exact ⟨W'.frz d, pr, S1.hs.frz r2 r5, t, ec, .inr ⟨d, vs, r1, .inr rfl, r2, r3, r4.per pr _ _⟩⟩
        have S2 := S1.step t2 hs2
        have S3 : Sim (c' a cls dd) W2 ((noExn e').set i (.exn y)) h' (s'.set i (some (.ref a))) H' := (S2.noExn (c' := c' a cls dd) rfl rfl rfl).put rfl (fun z ez => by
          cases ez
          exact ⟨a, cls, dd, rfl, rfl, rF⟩) fun d z => by cases z
        refine ⟨W2, _, h', S3, ?_⟩
        have q2 := q1.later (p.trans p2)
        cases zr : mh ((noExn e').set i (.exn y)) h' with
        | nx e3 h3 =>
          rw [zr] at q2
          have q3 : PostS c W2 H' (.nx ((noExn e3).set i .none) h3) D := q2
          exact fun W3 s3 H3 p3 S4 => q3 W3 _ H3 p3 ((S4.noExn (c' := c) rfl rfl rfl).gone)
        | rt d h3 =>
          rw [zr] at q2
          exact q2
        | bk e3 h3 =>
          rw [zr] at q2
          exact q2.elim
        | ct e3 h3 =>
          rw [zr] at q2
          exact q2.elim
        | exc x3 e3 h3 =>
          rw [zr] at q2
          exact q2.elim
        | bad =>
          rw [zr] at q2
          exact q2.elim
      · subst hb2
        exact q W' s' H' cls dd p S1 ⟨ec, rr⟩
end
end LM

/-! What an except suite says. -/
namespace LM
open PySem L2 L2H

/-- the caught exception in slot i: its field -/
def exFld (o : Option Slot) (cid j : Nat) : Option DV := match o with
  | some (.exn x) => if x.c = cid then x.l[j]? else none
  | _ => none
def ofO (o : Option DV) : M DV := match o with
  | some d => pure d
  | none => M.bad
def eXf (i cid j : Nat) : En → M DV := fun e => ofO (exFld e[i]? cid j)
def exIs (o : Option Slot) (tab : List (Nat × Bool)) : Option DV := match o with
  | some (.exn x) => (match tab.lookup x.c with
    | some b => some (.bl b)
    | none => none)
  | _ => none
def eXis (i : Nat) (tab : List (Nat × Bool)) : En → M DV := fun e => ofO (exIs e[i]? tab)
/-- a class whose instances' field f is asked -/
structure Xf (T : Tp) (cid : Nat) (f : Str) (j : Nat) : Prop where
  xf : XfC T.g.K (T.g.cA cid)
  no : PySem.W.findIn T.g.K (.ref (T.g.cA cid)) f = some none
  lk : ∀ vs : List V, vs.length = (T.g.flds cid).length → ∃ v, vs[j]? = some v ∧ ((T.g.flds cid).zip vs).lookup f = some v
/-- a class as isinstance asks it -/
structure Xi (T : Tp) (cid : Nat) (cv : Value) (b : Bool) : Prop where
  cl : (PySem.W.clsIn T.g.K (T.g.cA cid)).isSome = true
  ga : PySem.W.findIn T.g.K (.ref (T.g.cA cid)) "__getattribute__" = some (some (.builtin "BaseException.__getattribute__"))
  gt : ∃ gt, PySem.W.findIn T.g.K (.ref (T.g.cA cid)) "__getattr__" = some gt
  su : PySem.W.subIn T.g.K (.ref (T.g.cA cid)) (.type "BaseException") = some true
  ha : PySem.W.findIn T.g.K (.ref (T.g.cA cid)) "__class__" = some (some (.builtin "object.__class__"))
  hn : PySem.W.specialIn T.g.K (.builtin "object.__class__") "__get__" = some (some (.builtin "getset_descriptor.__get__"))
  tk : PySem.W.takesIn T.g.K (.builtin "object.__class__") = some true
  mr : PySem.W.mroIn T.g.K (T.g.cA cid) (.type "object") = some true
  is : PySem.W.kitOne T.g.K (.ref (T.g.cA cid)) cv = some b
def XiL (T : Tp) (tab : List (Nat × Bool)) (cv : Value) : Prop := ∀ i b, (i, b) ∈ tab → Xi T i cv b
section
variable {T : Tp} {X : Cx} {c : Cn} {N : List Str} {k : Nat} {sc : Scope} {n f x : Str} {i j cid : Nat} {pos p1 p2 p3 : Pos}
theorem suite_cur {S : L2.St} {W : Wd} {e : En} {h : HP} {H : Hp} {y : Ex} {a : Addr} {cls : Value} {dd : Option Addr} (Sm : Sim c W e h S H) (hc : c.cur = some (a, cls, dd)) (z : e[i]? = some (.exn y)) : S[i]? = some (some (.ref a)) ∧ XRepF c.g W H y cls dd := by
  obtain ⟨a2, c2, d2, e1, e2, r⟩ := Sm.exn i y z
  rw [hc] at e1
  cases e1
  exact ⟨e2, r⟩
theorem k_xf (hX : XHo T X c N k sc) (i : Nat) (hi : N[i]? = some n) (hv : Vis sc n) (xf : Xf T cid f j) (hd : (n == ("__debug__" : Str)) = false := by decide) (hcd : (n == ("__classdict__" : Str)) = false := by decide)
    (hb : attributeBase (.Name n p1) f X.env (eval (.Name n p1) X.env) = eval (.Name n p1) X.env := by rfl) : PE X (.Attribute (.Name n p1) f pos) (RE c (eXf i cid j)) := by
  obtain ⟨X0, a, oe, cls, dd, pn, eX, hc, hz, hf⟩ := hX.cur
  have pg := hX.pg
  have pv : PE X (.Name n p1) (tVar i) := pe_var (by rw [hX.nm]; exact hi) (by rw [hX.sc]; exact hv) hd hcd
  have pk := hX.pk
  subst eX
  refine pe_imp (pe_xf (X := X0) (a := a) (C := T.g.cA cid) (oe := oe) (cls := cls) (d := dd) (pn := pn) (by
    have z : X0.K = T.g.K := pk
    rw [z]
    exact xf.xf) (by
    have z : X0.K = T.g.K := pk
    rw [z]
    exact xf.no) hz.zc hf pv hb) fun s H Q q => ?_
  obtain ⟨W, e, h, S, q⟩ := q
  unfold eXf exFld at q
  cases z : e[i]? with
  | none =>
    rw [z] at q
    exact q.elim
  | some sl =>
    rw [z] at q
    cases sl with
    | exn y =>
      simp only [] at q
      by_cases ec : y.c = cid
      rotate_left
      · rw [if_neg ec] at q
        exact q.elim
      rw [if_pos ec] at q
      obtain ⟨e1, rf⟩ := suite_cur S hc z
      obtain ⟨ecl, rf⟩ := rf
      cases zl : y.l[j]? with
      | none =>
        rw [zl] at q
        exact q.elim
      | some d =>
        rw [zl] at q
        rcases rf with ⟨r1, _⟩ | ⟨dx, vs, r1, r2, r3, r4, r5⟩
        · rw [r1] at zl
          cases zl
        · rw [ec, pg] at r3 r4
          obtain ⟨v, l1, l2⟩ := xf.lk vs r4
          obtain ⟨v2, l3, rv⟩ := r5.get zl
          rw [l1] at l3
          cases l3
          exact ⟨_, e1, rfl, by rw [ecl, ec, pg], dx, _, v, r1, r3, l2, q.ret S rv⟩
    | _ => exact q.elim
/-- isinstance of what the suite holds -/
theorem call_isX {Y : Cx} {a D : Addr} {oe : Obj} {d : Option Addr} {pn : List (Addr × Obj)} {gt : Option Value} (cl : (PySem.W.clsIn Y.K D).isSome = true) (ga : PySem.W.findIn Y.K (.ref D) "__getattribute__" = some (some (.builtin "BaseException.__getattribute__"))) (gg : PySem.W.findIn Y.K (.ref D) "__getattr__" = some gt)
    (su : PySem.W.subIn Y.K (.ref D) (.type "BaseException") = some true) (ha : PySem.W.findIn Y.K (.ref D) "__class__" = some (some (.builtin "object.__class__"))) (hn : PySem.W.specialIn Y.K (.builtin "object.__class__") "__get__" = some (some (.builtin "getset_descriptor.__get__"))) (tk : PySem.W.takesIn Y.K (.builtin "object.__class__") = some true)
    (mr : PySem.W.mroIn Y.K D (.type "object") = some true) (hz : L2N.Zn (.ref D) d oe) (hf : ∃ vs, oe.data = .fields vs) :
    CallR (Y.suite a ((a, oe) :: pn)) (.builtin "isinstance") (fun xs H Q => ∃ (c : V) (cv : Value) (b : Bool), xs = [.ref a, c] ∧ (∀ u, RelV c u → u = cv) ∧ PySem.W.kitOne Y.K (.ref D) cv = some b ∧ (d = none ∨ ∃ dd fs, d = some dd ∧ H dd = some (.xd fs)) ∧ Q (.bl b) H) := by
  intro pins s σ H xs us Q I r h
  obtain ⟨cc, cv, b, ex, hcv, e, hd, q⟩ := h
  subst ex
  obtain ⟨u1, u2, eu, r1, r2⟩ := vals2 r
  subst eu
  obtain rfl : u1 = Value.ref a := r1
  have ec := hcv _ r2
  subst ec
  obtain ⟨hget, _⟩ := I.pin (a, oe) (List.mem_append_left _ List.mem_cons_self)
  obtain ⟨vs, hv⟩ := hf
  have key : ∃ od, PySem.W.InstAt s.heap a oe D od := by
    rcases hd with hd | ⟨dd, fs, hd, hx⟩
    · refine ⟨none, hget, hz.1, ?_, ?_⟩
      · unfold PySem.W.notCls
        rw [hv]
      · rw [hz.2.1, hd]
        trivial
    · have hx2 : ObjOk Y.prog Y.w H s.heap dd (.xd fs) := I.hok dd _ hx
      obtain ⟨mA, hns, hr⟩ := hx2
      obtain ⟨od, ho, hl⟩ := lookIn_ns hns
      refine ⟨some od, hget, hz.1, ?_, ?_⟩
      · unfold PySem.W.notCls
        rw [hv]
      · rw [hz.2.1, hd]
        exact ho
  obtain ⟨od, J⟩ := key
  exact PySem.W.kia_one (PySem.W.kitx_exc (od := od) cl ga gg su ha hn tk mr) I.kIn J e (fun z => nomatch z) fun tk => ⟨.bl b, H, I.kept (t' := tk) fun _ _ z => z, rfl, q⟩
theorem k_xis {C : Str} {cv : Value} {cc : V} {tab : List (Nat × Bool)} (hX : XHo T X c N k sc) (i : Nat) (hi : N[i]? = some n) (hv : Vis sc n) (gi : Gl X "isinstance") (mi : X.mg "isinstance" = none) (hc : PE X (.Name C p3) (tC cc)) (rc : ∀ u, RelV cc u → u = cv) (L : XiL T tab cv)
    (hd : (n == ("__debug__" : Str)) = false := by decide) (hcd : (n == ("__classdict__" : Str)) = false := by decide)
    (s1 : starEach [.Name n p2, .Name C p3] X.env = (false, eval (.Name n p2) X.env) :: starEach [.Name C p3] X.env := by rfl) (s2 : starEach [.Name C p3] X.env = (false, eval (.Name C p3) X.env) :: starEach [] X.env := by rfl)
    (hpl : (backTo pos (starEach [.Name C p3] X.env)).any (·.1) = false := by rfl) : PE X (.Call (.Name "isinstance" p1) [.Name n p2, .Name C p3] [] pos) (RE c (eXis i tab)) := by
  obtain ⟨X0, a, oe, cls, dd, pn, eX, hcu, hz, hf⟩ := hX.cur
  have pg := hX.pg
  have pv : PE X (.Name n p2) (tVar i) := pe_var (by rw [hX.nm]; exact hi) (by rw [hX.sc]; exact hv) hd hcd
  have pk := hX.pk
  refine ⟨fun pins s σ H Q I q => ?_⟩
  obtain ⟨W, e, h, S, q⟩ := q
  unfold eXis exIs at q
  cases z : e[i]? with
  | none =>
    rw [z] at q
    exact q.elim
  | some sl =>
    rw [z] at q
    cases sl with
    | exn y =>
      simp only [] at q
      cases zt : tab.lookup y.c with
      | none =>
        rw [zt] at q
        exact q.elim
      | some b =>
        rw [zt] at q
        obtain ⟨e1, rf⟩ := suite_cur S hcu z
        obtain ⟨ecl, rf⟩ := rf
        have xi := L y.c b (mem_of_lookupN zt)
        obtain ⟨gt, hgt⟩ := xi.gt
        rw [ecl, pg] at hz
        subst eX
        have zk : X0.K = T.g.K := pk
        refine (pe_callB (call_isX (Y := X0) (a := a) (D := T.g.cA y.c) (oe := oe) (d := dd) (pn := pn) (gt := gt) (by rw [zk]; exact xi.cl) (by rw [zk]; exact xi.ga) (by rw [zk]; exact hgt) (by rw [zk]; exact xi.su) (by rw [zk]; exact xi.ha) (by rw [zk]; exact xi.hn) (by rw [zk]; exact xi.tk) (by rw [zk]; exact xi.mr) hz hf) gi mi (by first | exact PyProof.Rows.boot_isinstance | decide +kernel) (pa_cons pv (pa_cons hc pa_nil s2) s1)).run pins s σ H Q I ?_
        refine ⟨_, e1, cc, cv, b, rfl, rc, by rw [zk]; exact xi.is, ?_, q.ret S (by simp only [rV, Rep])⟩
        rcases rf with ⟨_, r2⟩ | ⟨dx, vs, r1, r2, r3, _⟩
        · exact .inl r2
        · exact .inr ⟨dx, _, r1, r3⟩
    | _ => exact q.elim
end
@[simp] theorem ofO_some (d : DV) (h : HP) : ofO (some d) h = .ok d h := rfl
@[simp] theorem eXf_app (i cid j : Nat) (e : En) (h : HP) : eXf i cid j e h = ofO (exFld e[i]? cid j) h := rfl
@[simp] theorem eXis_app (i : Nat) (tab : List (Nat × Bool)) (e : En) (h : HP) : eXis i tab e h = ofO (exIs e[i]? tab) h := rfl
end LM

/-! Defs called within an except suite. -/
namespace LM
open PySem L2 L2H

/-- where the body of such a def stands -/
structure XHb (T : Tp) (X : Cx) (c : Cn) (N : List Str) (k : Nat) (sc : Scope) : Prop where
  pk : X.K = T.g.K
  pm : X.mg = T.mg
  pg : c.g = T.g
  nm : X.N = N
  nd : N.Nodup
  sc : X.env.scope = sc
section
variable {T : Tp} {X : Cx} {c : Cn} {N : List Str} {k : Nat} {sc : Scope} {x : Str}
theorem XHb.kk (h : XHb T X c N k sc) : X.K = c.g.K := by rw [h.pk, h.pg]
theorem XHb.gl (h : XHb T X c N k sc) (v : sc.names.lookup x = some .globalImplicit) : Gl X x := by
  show X.env.scope.names.lookup x = _
  rw [h.sc]
  exact v
theorem XHb.no (h : XHb T X c N k sc) (q : T.mg x = none) : X.mg x = none := by
  rw [h.pm]
  exact q
theorem kh_var {pos : Pos} (h : XHb T X c N k sc) (i : Nat) (hi : N[i]? = some x) (hv : Vis sc x) (hd : (x == ("__debug__" : Str)) = false := by decide) (hcd : (x == ("__classdict__" : Str)) = false := by decide) : PE X (.Name x pos) (RE c (eVar i)) := c_var (by rw [h.nm]; exact hi) (by rw [h.sc]; exact hv) hd hcd
end
/-- a def's promise by its mirror, no exception among it -/
def spN (g : Glue) (n : Nat) (m : List DV → M DV) : Sp := fun vs H Q E => ∃ W h ds, HSim g W h H ∧ Reps g W H ds vs ∧ ds.length = n ∧ match m ds h with
  | .ok d h' => ∀ W' H' v, Step W H W' H' → HSim g W' h' H' → Rep g W' H' d v → Q v H'
  | _ => False
structure FoH (T : Tp) (x : Str) (id k n : Nat) (m : List DV → M DV) : Prop where
  gl : T.mg x = some (.ref (T.g.fA id))
  kp : PySem.W.keepIn T.g.K (.ref (T.g.fA id)) = true
  ex : ∃ fd ps, Binds T.g.K fd ps [] ∧ FnH T.P T.w T.g.K T.mg T.base (L2N.CX T.P T.w) k (T.g.fA id) fd ps (spN T.g n m)
theorem fn_ruleH {T : Tp} {x qual : Str} {params : Arguments} {body : List Stmt} {scope : Scope} {kws : List (Str × V)} {f : Addr} {fd : FuncData} {N ps : List Str} {k : Nat} {m : Stm} (F : FunD T.g.K x qual params body scope [] kws f fd) (S : FnScope N ps scope)
    (hb : ∀ (X : Cx) (c : Cn), XHb T X c N k scope → PSs X body (RS c m)) : FnH T.P T.w T.g.K T.mg T.base (L2N.CX T.P T.w) (k + 1) f fd ps (spN T.g ps.length (fnM N.length m)) := by
  obtain ⟨oc, od, dV, kV, doc, pm, an, cdv, ct, osl, rfl, lk, hcd, _, _⟩ := F.ex
  refine fn_ofH lk hcd S (fun vs H Q E h => ?_) fun A outer s H vs Q E p hot hr h => ?_
  · obtain ⟨W, hh, ds, _, r, e, _⟩ := h
    rw [← e, r.len]
  · obtain ⟨W, hh, ds, hs, r, e, q⟩ := h
    refine ⟨RS ⟨T.g, W, H, fun _ _ _ _ => False, none⟩ m, hb _ ⟨T.g, W, H, fun _ _ _ _ => False, none⟩ ⟨rfl, rfl, rfl, rfl, S.nd, rfl⟩, W, _, hh, sim_start hs r, ?_⟩
    unfold fnM at q
    generalize m (ds.map .val ++ List.replicate (N.length - ds.length) .none) hh = z at q ⊢
    cases z with
    | nx e' h' => exact fun W' s' H' _ S' => q W' H' .non S'.st S'.hs (by simp only [Rep])
    | rt d h' => exact q
    | bk e' h' => exact q.elim
    | ct e' h' => exact q.elim
    | exc x e' h' => exact q.elim
    | bad => exact q.elim
def eCallH (m : List DV → M DV) (ms : En → M (List DV)) : En → M DV := fun e => ms e >>= fun l => noX (m l)
section
variable {T : Tp} {X : Cx} {c : Cn} {N : List Str} {k n : Nat} {sc : Scope} {pos p1 : Pos} {ex : Expr} {es : List Expr} {ms : En → M (List DV)}
theorem callH_use {m : List DV → M DV} {s : L2.St} {H : Hp} {Q : VK} {E : XK} (q : RE c (eCallH m ms) s H Q) : RX c (rVs c n) ms s H fun vs H1 => spN c.g n m vs H1 Q E := RX.bind (k := fun _ l => noX (m l)) q fun W e W1 H1 ds vs h1 t S r q2 => by
  refine ⟨W1, h1, ds, S.hs, r.1, r.2, ?_⟩
  unfold noX at q2
  generalize m ds h1 = z at q2 ⊢
  cases z with
  | ok d h' => exact fun W' H' v t' hs' r' => q2 W' H' v t' (S.step t' hs') r'
  | exc x h' => exact q2.elim
  | bad => exact q2.elim
theorem c_callH {x : Str} {id j : Nat} {m : List DV → M DV} (hX : XHo T X c N k sc) (F : FoH T x id j n m) (hj : j ≤ k) (hg : Gl X x) (ha : PA X (ex :: es) (RA c n ms))
    (hdb : (x == ("__debug__" : Str)) = false := by decide) (he : starEach (ex :: es) X.env = (false, eval ex X.env) :: starEach es X.env := by rfl) (hpl : (backTo pos (starEach es X.env)).any (·.1) = false := by rfl) :
    PE X (.Call (.Name x p1) (ex :: es) [] pos) (RE c (eCallH m ms)) := by
  obtain ⟨fd, ps, b, f⟩ := F.ex
  have pg := hX.pg
  have f2 : FnH X.prog X.w X.K X.mg X.base (L2N.CX X.prog X.w) j (T.g.fA id) fd ps (spN c.g n m) := by
    rw [hX.pp, hX.pw, hX.pk, hX.pm, hX.pb, pg]
    exact f
  refine pe_imp (pe_callH (E := fun _ => fun _ _ _ => False) f2 (hX.room.mono hj) hX.hot hg (by rw [hX.pm]; exact F.gl) (by rw [hX.pk]; exact F.kp) (by rw [hX.pk]; exact b) (fun σ pins H s e s' I z => by
    obtain ⟨_, _, _, _, _, _, _, _, _, _, _, _, y⟩ := z
    exact y.elim) ha hdb he hpl) fun s H Q q => callH_use q
end
@[simp] theorem eCallH_app (m : List DV → M DV) (ms : En → M (List DV)) (e : En) (h : HP) : eCallH m ms e h = bR (ms e h) fun l h => noX (m l) h := rfl
theorem noX_ok {A : Type} {m : M A} {h h' : HP} {a : A} (q : m h = .ok a h') : noX m h = .ok a h' := by
  unfold noX
  rw [q]
/-! ### looks at classes -/
theorem oexB_ok {K : PySem.W.Frag} {C : Addr} (h : oexB K C = true) : OexC K C := by
  obtain ⟨h1, h2⟩ := He.ba h
  obtain ⟨h3, h4⟩ := He.ba h2
  obtain ⟨h5, h6⟩ := He.ba h4
  obtain ⟨h7, h8⟩ := He.ba h6
  refine ⟨?_, of_decide_eq_true h3, of_decide_eq_true h5, of_decide_eq_true h7, h8⟩
  cases q : K.lookup C with
  | none =>
    rw [q] at h1
    cases h1
  | some o =>
    obtain ⟨oc, od, dt, sl⟩ := o
    rw [q] at h1
    cases oc with
    | type t =>
      cases dt with
      | cls cd =>
        obtain ⟨a1, a2⟩ := He.ba (show (decide (t = "type") && (match cd.mro, sl.toList with
          | .ref C' :: bm, [_, _, _, _, some (.builtin n), _] => decide (C' = C) && (decide (n = "ValueError.__new__") && (!cd.hasDel && (cd.hasDict && PySem.HandSPX.refsVE bm)))
          | _, _ => false)) = true from h1)
        have et : t = "type" := of_decide_eq_true a1
        split at a2
        · rename_i C' bm k0 k1 k2 k3 n k5 hm hs
          obtain ⟨b1, b2⟩ := He.ba a2
          obtain ⟨b3, b4⟩ := He.ba b2
          obtain ⟨b5, b6⟩ := He.ba b4
          obtain ⟨b7, b8⟩ := He.ba b6
          have e1 : C' = C := of_decide_eq_true b1
          have e2 : n = "ValueError.__new__" := of_decide_eq_true b3
          obtain ⟨nm, bs, mro, ns, qn, hd, sn, sub, ab, col, del⟩ := cd
          simp only [Bool.not_eq_true'] at hm b5 b7
          have hsl : sl = #[k0, k1, k2, k3, some (.builtin n), k5] := by
            obtain ⟨l⟩ := sl
            have : l = _ := hs
            rw [this]
          subst et e1 e2 hm b5 b7 hsl
          exact ⟨nm, qn, ns, bs, bm, sn, sub, ab, col, od, k0, k1, k2, k3, k5, rfl, b8⟩
        · cases a2
      | _ => cases h1
    | _ => cases dt <;> cases h1
end LM

/-! What a law never comes to. -/
namespace LM
open PySem L2
def eBad : En → M DV := fun _ _ => .bad
/-- an expression that is never evaluated -/
theorem c_bad {X : Cx} {c : Cn} {e : Expr} : PE X e (RE c eBad) := ⟨fun _ _ _ _ _ _ q => by
  obtain ⟨_, _, _, _, q⟩ := q
  exact q.elim⟩
end LM

/-! Looks at the top of a law with own exceptions. -/
namespace LM
open PySem L2 L2H

theorem ckAll_at {l : CkL} {K : PySem.W.Frag} (h : ckAll l K = true) (i : Nat) {b : PySem.W.Frag → Bool} (e : l[i]? = some b) : b K = true := List.all_eq_true.mp h b (List.mem_of_getElem? e)
/-- such an exception's class at C; its fields -/
theorem eo2_of {T : Tp} {x : Str} {cid : Nat} {f1 f2 : Str} (hm : T.mg x = some (.ref (T.g.cA cid))) (fl : T.g.flds cid = [f2, f1]) (b : eoB [f1, f2] (T.g.cA cid) T.g.K = true)
    (hf : ∃ fd ps, Binds T.g.K fd ps [] ∧ FnOk T.P T.w T.g.K T.mg T.base (L2N.CX T.P T.w) 1 (He.ma T.g.K (T.g.cA cid) "__init__") fd ps (spI2 T.g.K f1 f2)) : Eo2 T x cid f1 f2 := by
  obtain ⟨b1, b2⟩ := He.ba b
  obtain ⟨b3, b4⟩ := He.ba b2
  obtain ⟨b5, b6⟩ := He.ba b4
  obtain ⟨fd, ps, h1, h2⟩ := hf
  exact ⟨hm, fl, oexB_ok b1, of_decide_eq_true (List.all_eq_true.mp b6 f1 (by simp)), of_decide_eq_true (List.all_eq_true.mp b6 f2 (by simp)), _, fd, ps, of_decide_eq_true b3, of_decide_eq_true b5, h1, h2⟩
theorem eo1_of {T : Tp} {x : Str} {cid : Nat} {f1 : Str} (hm : T.mg x = some (.ref (T.g.cA cid))) (fl : T.g.flds cid = [f1]) (b : eoB [f1] (T.g.cA cid) T.g.K = true)
    (hf : ∃ fd ps, Binds T.g.K fd ps [] ∧ FnOk T.P T.w T.g.K T.mg T.base (L2N.CX T.P T.w) 1 (He.ma T.g.K (T.g.cA cid) "__init__") fd ps (spI1 T.g.K f1)) : Eo1 T x cid f1 := by
  obtain ⟨b1, b2⟩ := He.ba b
  obtain ⟨b3, b4⟩ := He.ba b2
  obtain ⟨b5, b6⟩ := He.ba b4
  obtain ⟨fd, ps, h1, h2⟩ := hf
  exact ⟨hm, fl, oexB_ok b1, of_decide_eq_true (List.all_eq_true.mp b6 f1 (by simp)), _, fd, ps, of_decide_eq_true b3, of_decide_eq_true b5, h1, h2⟩
theorem xf_of {T : Tp} {cid j : Nat} {f : Str} (b : xfKB f (T.g.cA cid) T.g.K = true) (lk : ∀ vs : List V, vs.length = (T.g.flds cid).length → ∃ v, vs[j]? = some v ∧ ((T.g.flds cid).zip vs).lookup f = some v) : Xf T cid f j :=
  ⟨xfB_ok (He.ba b).1, of_decide_eq_true (He.ba b).2, lk⟩
theorem xi_of {T : Tp} {cid : Nat} {cv : Value} {r : Bool} (b : xiB (T.g.cA cid) cv r T.g.K = true) : Xi T cid cv r := by
  obtain ⟨a, b⟩ := He.ba b
  obtain ⟨a1, a⟩ := He.ba a
  obtain ⟨a2, a⟩ := He.ba a
  obtain ⟨a3, a4⟩ := He.ba a
  obtain ⟨b1, b2⟩ := He.ba b
  obtain ⟨b3, b4⟩ := He.ba b1
  obtain ⟨b5, b6⟩ := He.ba b4
  obtain ⟨b7, b8⟩ := He.ba b2
  exact ⟨a1, of_decide_eq_true a2, ⟨none, of_decide_eq_true a3⟩, of_decide_eq_true a4, of_decide_eq_true b3, of_decide_eq_true b5, of_decide_eq_true b6, of_decide_eq_true b7, of_decide_eq_true b8⟩
theorem xiL_nil {T : Tp} {cv : Value} : XiL T [] cv := fun _ _ h => by cases h
theorem xiL_cons {T : Tp} {cid : Nat} {r : Bool} {tab : List (Nat × Bool)} {cv : Value} (x : Xi T cid cv r) (L : XiL T tab cv) : XiL T ((cid, r) :: tab) cv := fun i b h => by
  rcases List.mem_cons.mp h with e | e
  · cases e
    exact x
  · exact L i b e
/-- a clause's classes -/
theorem ck_of {T : Tp} {cA : PySem.W.Frag → Nat → Addr} {cv : Nat} {tab : List (Nat × Bool)} (b : ckB cA cv tab T.g.K = true) (hc : ∀ i, T.g.cA i = cA T.g.K i) : CkOk T (.ref (T.g.cA cv)) fun i => tab.lookup i := ⟨fun i r h => by
  have m := mem_of_lookupN h
  rw [hc i, hc cv]
  exact of_decide_eq_true (List.all_eq_true.mp b (i, r) m)⟩
end LM

/-! A tuple, any number of times. -/
namespace LM
open PySem L2 PySem.Spec PyProof.Rows
/-- not at all -/
theorem mulT_none (l : Addr) (its : Array Value) (n : Nat) (dd : Option Addr) (sl : Array (Option Value)) (x : Int) (u : Tok) (c0 : (decide (x < -(2 ^ 63)) || decide (x ≥ 2 ^ 63)) = false) (c1 : (its.isEmpty || x == 1) = false) (c2 : (decide (x ≤ 0) || its.isEmpty) = true) :
    Meets (Builtin.«tuple.__mul__» ⟨[.ref l, .int x u], []⟩) (fun _ R s => s.heap.get? l = some { cls := .type "tuple", dict := dd, data := .seq its n, slots := sl } ∧
      R (.ok (.ret (Value.ref s.heap.objs.size))) { s with heap := s.heap.push { cls := Value.type "tuple", data := Data.seq #[] }, toks := s.toks }) :=
  .of_wp fun P v A R s q => by
    obtain ⟨hp, gg, dr, tk, os⟩ := s
    obtain ⟨hl, q⟩ := q
    have f1 := AutoSeq1.idx_int
    wp_walk using wpAny_loadPart' hl
    repeat (first
      | (refine wpAny_ite_false (decide_eq_false (by rw [c0]; exact Bool.false_ne_true)) ?_; wp_walk using wpAny_loadPart' hl)
      | (refine wpAny_ite_false (decide_eq_false (by rw [c1]; exact Bool.false_ne_true)) ?_; wp_walk using wpAny_loadPart' hl)
      | (refine wpAny_ite_true (decide_eq_true (by rw [c2])) ?_; wp_walk using wpAny_loadPart' hl))
    exact ⟨_, rfl, q⟩
/-- once -/
theorem mulT_once (l : Addr) (its : Array Value) (n : Nat) (dd : Option Addr) (sl : Array (Option Value)) (x : Int) (u : Tok) (c0 : (decide (x < -(2 ^ 63)) || decide (x ≥ 2 ^ 63)) = false) (c1 : (its.isEmpty || x == 1) = true) :
    Meets (Builtin.«tuple.__mul__» ⟨[.ref l, .int x u], []⟩) (fun _ R s => s.heap.get? l = some { cls := .type "tuple", dict := dd, data := .seq its n, slots := sl } ∧ R (.ok (.ret (Value.ref l))) s) :=
  .of_wp fun P v A R s q => by
    obtain ⟨hp, gg, dr, tk, os⟩ := s
    obtain ⟨hl, q⟩ := q
    have f1 := AutoSeq1.idx_int
    wp_walk using wpAny_loadPart' hl
    repeat (first
      | (refine wpAny_ite_false (decide_eq_false (by rw [c0]; exact Bool.false_ne_true)) ?_; wp_walk using wpAny_loadPart' hl)
      | (refine wpAny_ite_true (decide_eq_true (by rw [c1])) ?_; wp_walk using wpAny_loadPart' hl))
    exact ⟨_, rfl, q⟩
def rMulT (K : PySem.W.Frag) : R2 := fun x y H Q => ∃ l k xs, x = .ref l ∧ y = .int k ∧ SqT K H l xs ∧ xs ≠ [] ∧ -1000 ≤ k ∧ k ≤ 1000 ∧ xs.length ≤ 1000 ∧ (k = 1 → Q (.ref l) H) ∧ (k ≠ 1 → ∀ p, H p = none → Q (.ref p) (upd H p (.tup (List.replicate k.toNat xs).flatten)))
theorem op_mulT {X : Cx} : OpR X (binaryOp .Mult) (rMulT X.K) := by
  intro pins s σ H x y v u Q I rx ry h
  obtain ⟨l, k, xs, ex, ey, hT, hne, h1, h2, hz, q1, q2⟩ := h
  by_cases big : 2 ≤ k
  · exact op_repT pins s σ H x y v u Q I rx ry ⟨l, k, xs, ex, ey, hT, hne, big, h2, hz, q2 (by omega)⟩
  subst ex ey
  cases rx
  obtain ⟨t, rfl⟩ := ry
  obtain ⟨its, r, ⟨⟨cls, dd, data, sl⟩, ho, hc, n, hd⟩, hs⟩ := I.tuple hT
  simp only at hc hd
  subst hc hd
  have hn : its ≠ [] := fun e => hne (by
    have := r.length
    rw [e] at this
    exact List.eq_nil_of_length_eq_zero this)
  have hi : its.toArray.isEmpty = false := by
    cases its with
    | nil => exact absurd rfl hn
    | cons a b => rfl
  have c0 : (decide (k < -(2 ^ 63)) || decide (k ≥ 2 ^ 63)) = false := by
    rw [decide_eq_false (by omega), decide_eq_false (by omega)] <;> rfl
  by_cases one : k = 1
  · have c1 : (its.toArray.isEmpty || k == 1) = true := by
      rw [hi, Bool.false_or]
      exact beq_iff_eq.mpr one
    refine wpAny_binaryOp_repeat_ref (T := "tuple") (U := "int") (by decide) ⟨_, ho, rfl⟩ (fun s' => typeIs_int s' k t) noFill_tuple_mul F.fills_int_mul F.slot_int_rmul repeat_tuple F.slot_int_index.lookup
      (call_meets F.slot_int_rmul (typeIs_int s k t) F.entry_int_rmul (F.args_int_rmul_2 _ _) (int_rmul_tuple k t l its.toArray n dd sl)
        ⟨ho, rfl, ⟨_, ho, rfl⟩, call_meets F.slot_tuple_mul ⟨_, ho, rfl⟩ F.entry_tuple_mul (F.args_tuple_mul_2 _ _) (mulT_once l its.toArray n dd sl k t c0 c1) ⟨ho, ?_⟩⟩)
    exact ⟨.ref l, H, I, rfl, q1 one⟩
  · have c1 : (its.toArray.isEmpty || k == 1) = false := by
      rw [hi, Bool.false_or]
      exact beq_eq_false_iff_ne.mpr one
    have c2 : (decide (k ≤ 0) || its.toArray.isEmpty) = true := by
      rw [decide_eq_true (by omega)]
      rfl
    have e0 : (List.replicate k.toNat xs).flatten = [] := by
      rw [show k.toNat = 0 by omega]
      rfl
    have q3 := q2 one
    rw [e0] at q3
    refine wpAny_binaryOp_repeat_ref (T := "tuple") (U := "int") (by decide) ⟨_, ho, rfl⟩ (fun s' => typeIs_int s' k t) noFill_tuple_mul F.fills_int_mul F.slot_int_rmul repeat_tuple F.slot_int_index.lookup
      (call_meets F.slot_int_rmul (typeIs_int s k t) F.entry_int_rmul (F.args_int_rmul_2 _ _) (int_rmul_tuple k t l its.toArray n dd sl)
        ⟨ho, rfl, ⟨_, ho, rfl⟩, call_meets F.slot_tuple_mul ⟨_, ho, rfl⟩ F.entry_tuple_mul (F.args_tuple_mul_2 _ _) (mulT_none l its.toArray n dd sl k t c0 c1 c2) ⟨ho, ?_⟩⟩)
    refine ⟨.ref s.heap.objs.size, _, I.laid (t' := s.toks) (o := .tup []) (fun b ob z => Heap.get?_push_of_some _ z) (Nat.le_refl _) ?_, rfl, q3 _ (I.hok.fresh (Nat.le_refl _))⟩
    exact ⟨by rw [sizeLine_eq]; decide, [], .nil, IsTup.new _ _⟩
/-- a tuple, so many times -/
def vMulT (x y : DV) : M DV := match x, y with
  | .tup l, .int k => if Nat.ble 1 l.length && (Nat.ble l.length 1000 && (decide (-1000 ≤ k) && decide (k ≤ 1000))) then pure (.tup (List.replicate k.toNat l).flatten) else M.bad
  | _, _ => M.bad
section
variable {X : Cx} {c : Cn} {pos : Pos} {a b : Expr} {ma mb : En → M DV}
theorem prim_mulT {K : PySem.W.Frag} (hk : c.g.K = K) : Prim2 c (pB c) (pV c) (rV c) vMulT (rMulT K) := by
  subst hk
  refine ⟨fun {W e h s H Hs x y v w Q} S rx ry nw q => ?_⟩
  unfold vMulT at q
  split at q
  · obtain ⟨a, vs, e1, s1, r1⟩ := tup_ok rx
    simp only [pV, Rep] at ry
    split at q
    · rename_i l k hz
      simp only [Bool.and_eq_true, Nat.ble_eq, decide_eq_true_eq] at hz
      obtain ⟨z1, z2, z3, z4⟩ := hz
      refine ⟨a, k, vs, e1, ry, s1, fun z => ?_, z3, z4, by rw [← r1.len]; exact z2, fun one => ?_, fun _ p hp => post_tup q S (r1.rep _) hp⟩
      · subst z
        have := r1.len
        rw [List.length_nil] at this
        omega
      · subst one e1
        refine q.ret S ?_
        simp only [rV, Rep]
        exact ⟨a, vs, rfl, s1, by simpa using r1⟩
    · exact q.elim
  · exact q.elim
theorem c_mulT (hk : X.K = c.g.K) (ha : PE X a (RB c ma)) (hb : PE X b (RE c mb)) : PE X (.BinOp a .Mult b pos) (RE c (e2 vMulT ma mb)) := c_bin op_mulT stays_B (prim_mulT hk.symm) ha hb
end
@[simp] theorem vMulT_one (d : DV) (k : Nat) (h : HP) (hk : (k : Int) ≤ 1000) : vMulT (.tup [d]) (.int (k : Int)) h = .ok (.tup (List.replicate k d)) h := by
  have e : ∀ n : Nat, (List.replicate n [d]).flatten = List.replicate n d := by
    intro n
    induction n with
    | zero => rfl
    | succ k ih => simp [List.replicate_succ, ih]
  show (if (Nat.ble 1 [d].length && (Nat.ble [d].length 1000 && (decide (-1000 ≤ (k : Int)) && decide ((k : Int) ≤ 1000)))) = true then (pure (.tup (List.replicate (k : Int).toNat [d]).flatten) : M DV) else M.bad) h = _
  rw [if_pos (by simp; omega), Int.toNat_natCast, e]
  rfl
end LM

/-! A for in an except suite. -/
namespace LM
open PySem L2 L2H
section
open HotX PyProof.Rows PySem.Spec
variable {prog : Program} {w : World} {A : Around} {E : Value → Shared → Prop} {s : Shared}
theorem pyNext_list_end_hot {it l x1 : Addr} {i : Nat} {items : Array Value} {Q : Option Value → Shared → Prop} (hot : HotAt A x1 s.heap) (nx : x1 ≠ it)
    (hit : s.heap.IsListIter it l i) (hl : s.heap.IsList l items) (hx : items[i]? = none)
    (hQ : ∀ h', Heap.ExtBut it s.heap h' → Q none { s with heap := h' }) : wpAny (model prog w) A (pyNext (.ref it)) Q E s := by
  obtain ⟨o, ho, hc, hd⟩ := id hit
  obtain ⟨ol, hol, _, nl, hdl⟩ := hl
  obtain ⟨hh, o1, vs1, h1, d1, c1⟩ := hot
  unfold pyNext
  refine wpAny_bind (wpAny_attempt (wpAny_callSpecial?_slot (name := Str.ofString "__next__") hit.typeIs slot_listiter_next
    (wpAny_call_entry slot_listiter_next hit.typeIs entry_listiter_next ?_ (args_listiter_next _))))
  show wpAny _ _ (field (.ref it) 0 >>= _) _ _ s
  refine wpAny_bind (wpAny_field ho hd (x := .ref l) rfl ?_)
  show wpAny _ _ (if (Value.ref l == Value.none) = true then _ else _) _ _ s
  rw [if_neg (show ¬ ((Value.ref l == Value.none) = true) from Bool.false_ne_true)]
  show wpAny _ _ (field (.ref it) 1 >>= _) _ _ s
  refine wpAny_bind (wpAny_field ho hd (x := .int i 0) rfl ?_)
  show wpAny _ _ (seqItems? (.ref l) >>= _) _ _ s
  refine wpAny_bind (wpAny_seqItems hol hdl ?_)
  simp only [Int.toNat_natCast, hx]
  refine wpAny_bind (wpAny_rule (wpAny_bind (wpAny_setField ho hd (by simp) ?_)))
  have h2 : ∀ f : Obj → Obj, (s.heap.update it f).get? x1 = some o1 := fun f => by
    rw [Heap.get?_update_other _ _ (Ne.symm nx)]
    exact h1
  show wpAny _ _ (newExc (.type "StopIteration") [] >>= _) _ _ _
  refine wpAny_bind ?_
  simp only [newExc, newTuple]
  refine wpAny_bind (wpAny_newObj_type ?_ (by size_fits))
  refine wpAny_bind (m := firstArgMember _ _) (wpAny_of_eq (a := Value.none) (by first | rfl | (simp only [firstArgMember]; rfl)) ?_)
  refine wpAny_newObj_type ?_ (by size_fits)
  refine raiseNew_hot ⟨hh, o1, vs1, Heap.get?_push_of_some _ (Heap.get?_push_of_some _ (h2 _)), d1, c1⟩ (Nat.ne_of_lt (Heap.lt_size (Heap.get?_push_of_some _ (h2 _)))) (Heap.get?_push_size _ rfl) rfl (by first | (simp; done) | (simp; omega) | (simp only [Array.size_append]; simp; omega)) ?_
  refine wpAny_bind (wpAny_isInstance (T := "StopIteration") (b := true) ⟨_, Heap.get?_update_self _ (Heap.get?_push_size _ rfl) rfl, rfl⟩ isSubtype_stop ?_)
  refine wpAny_pure (hQ _ fun b o hb e => ?_)
  have e1 : (s.heap.update it (Obj.mapFields fun x => x.setIfInBounds 0 Value.none)).get? b = some o := (Heap.get?_update_other _ _ (Ne.symm hb)).trans e
  rw [Heap.get?_update_other _ _ (Nat.ne_of_gt (Heap.lt_size (Heap.get?_push_of_some _ e1)))]
  exact Heap.get?_push_of_some _ (Heap.get?_push_of_some _ e1)
end
theorem turn_listH {P : Program} {w : World} {K : PySem.W.Frag} {tg : Expr} (a it : Addr) : TurnH P w K tg (Itl K a) [it] it (fun i h => h.IsListIter it a i) where
  mem := by simp
  obj := (turn_list (P := P) (w := w) (K := K) (tg := tg) a it).obj
  keep := (turn_list (P := P) (w := w) (K := K) (tg := tg) a it).keep
  item := by
    intro X hP hw hK hc i pins s σ H E I hf st hg
    subst hP hw hK
    obtain ⟨xs, x, hq, hx⟩ := hg
    obtain ⟨its, rv, p, hz⟩ := I.list hq
    obtain ⟨u, hu, ru⟩ := rv.get hx
    obtain ⟨f0, f1, f2, f3, f4, f5⟩ := hf it (by simp)
    refine wpAny_pyNext_list_item st p.isList (x := u) (by simpa using hu) fun h' st' sb => ?_
    have I1 : Inv X pins σ H { s with heap := h' } := I.turned (t' := s.toks) (fun b o hb e => (sb.2 b hb).trans e) f0 f1 f3 f4 f5
    obtain ⟨o, e, c, d⟩ := id st'
    exact ⟨u, rfl, go_of (s := { s with heap := h' }) e c d (by decide) ⟨x, H, I1, ru, ⟨rfl, fun ys hy => by rw [I.list_inj hy hq]; exact hx⟩, st', fun b hb => (hf b hb).1⟩⟩
  done := by
    intro X hP hw hK hc i pins s σ H E I hf st hg
    subst hP hw hK
    obtain ⟨xs, hq, hx⟩ := hg
    obtain ⟨its, rv, p, hz⟩ := I.list hq
    obtain ⟨f0, f1, f2, f3, f4, f5⟩ := hf it (by simp)
    have hl := rv.length
    obtain ⟨x1, hot⟩ := hc.at I
    obtain ⟨oi, ei, ci, di⟩ := id st
    have nx : x1 ≠ it := fun z => by
      obtain ⟨_, o1, vs1, h1, d1, c1⟩ := hot
      rw [z, ei] at h1
      cases h1
      rw [di] at d1
      cases d1
      simp at c1
    exact pyNext_list_end_hot hot nx st p.isList (by simp; omega) fun h' eb => ⟨rfl, I.turned (t' := s.toks) (fun b o hb e => eb b o hb e) f0 f1 f3 f4 f5⟩
  self := fun _ _ _ _ _ st h => wpAny_pyIter_listiter st h
section
variable {X : Cx} {tg : Expr}
theorem pi_listH {l : Expr} {tl : TE} (hl : PE X l tl) : PIH X tg l (iList X.K tl) := by
  refine ⟨fun pins s σ H R I h => ?_⟩
  refine thn (hl.run pins s σ H _ I h) fun v s1 ⟨x, H1, I1, r1, q1⟩ => ?_
  obtain ⟨a, e, ⟨xs, hq⟩, q⟩ := q1
  subst e
  cases r1
  obtain ⟨its, rv, p, hz⟩ := I1.list hq
  refine wpAny_pyIter_list p.isList ?_
  refine ⟨s1.heap.objs.size, [s1.heap.objs.size], _, _, H1, rfl, I1.kept (t' := s1.toks) fun b o e => Heap.get?_push_of_some _ e, turn_listH a _, ⟨_, Heap.get?_push_size _ rfl, rfl, rfl⟩, fun b hb => ?_, q⟩
  have e : b = s1.heap.objs.size := by simpa using hb
  subst e
  exact I1.fpOk (Nat.le_refl _) (I1.hok.fresh (Nat.le_refl _))
end
/-- a list -/
def itL (x : DV) : M (List DV) := match x with
  | .lst l => pure l
  | _ => M.bad
section
variable {X : Cx} {c : Cn} {tg : Expr} {a : Expr} {ma : En → M DV}
theorem pih_imp {ex : Expr} {t t' : TI} (h : PIH X tg ex t) (f : ∀ s H Q, t' s H Q → t s H Q) : PIH X tg ex t' := ⟨fun pins s σ H R I q => h.run pins s σ H R I (f σ H R q)⟩
theorem i_lstH (hk : X.K = c.g.K) (ha : PE X a (RE c ma)) : PIH X tg a (RI c (iB ma itL)) := pih_imp (pi_listH ha) fun s H R q => by
  obtain ⟨W, e, h, S, q⟩ := q
  refine ⟨W, e, h, S, bind_at q fun W1 H1 d v h1 z t S1 r q2 => ?_⟩
  cases d with
  | lst l =>
    simp only [rV, Rep] at r
    obtain ⟨p, vs, e1, f, sq, rs⟩ := r
    refine ⟨p, e1, ⟨vs, .of sq⟩, ?_⟩
    rw [hk]
    exact q2.ret S1 (wk_list (.inl ⟨f, sq⟩) rs)
  | _ => exact q2.elim
theorem for_use {mi : En → M (List DV)} {t : DV → En → Option En} {sl fg : List Nat} {b : Stm} {D : Ends} {s : L2.St} {H : Hp} (q : RS c (sFor mi t fg b) D s H) : tFor (RI c mi) (RG c t sl) (RS c b) D s H := by
  obtain ⟨W, e, h, S0, q⟩ := q
  refine ⟨W, e, h, S0, sb_at (R := fun _ W H ds J => Wk c W H J ds) S0 q fun W1 H1 ds J h1 t1 S1 wk q2 => ?_⟩
  refine ⟨fun i m s' Hc => m = ds.length - i ∧ i ≤ ds.length ∧ ∃ Wc ec hc, Per W1 H1 Wc Hc ∧ Sim c Wc ec hc s' Hc ∧ PostS c Wc Hc (forL t b fg (ds.drop i) ec hc) D,
    ⟨ds.length, rfl, Nat.zero_le _, W1, _, h1, Per.refl _ _, S1.wipe' fg, by rw [List.drop_zero]; exact q2⟩, ?_⟩
  rintro i m s' Hc ⟨em, hi, Wc, ec, hc, pc, Sc, q3⟩
  by_cases hlt : i < ds.length
  rotate_left
  · have ei : i = ds.length := by omega
    subst ei
    rw [List.drop_length] at q3
    exact .inl ⟨wk.st Wc Hc pc, q3.nx Sc⟩
  · right
    obtain ⟨d, ed⟩ : ∃ d, ds[i]? = some d := ⟨_, List.getElem?_eq_getElem hlt⟩
    obtain ⟨g1, g2⟩ := wk.go Wc Hc pc i d ed
    have ed2 : ds.drop i = d :: ds.drop (i + 1) := by
      rw [List.drop_eq_getElem_cons hlt]
      congr 1
      rw [List.getElem?_eq_getElem hlt] at ed
      exact Option.some.inj ed
    rw [ed2] at q3
    refine ⟨g1, fun s2 H2 => ∃ Wc ec hc, Per W1 H1 Wc H2 ∧ Sim c Wc ec hc s2 H2 ∧ PostS c Wc H2 (forL t b fg (ds.drop (i + 1)) ec hc) D, fun s2 H2 z => ⟨_, by omega, rfl, hlt, z⟩, fun x H' y => ?_⟩
    have item : Step Wc Hc Wc H' ∧ HSim c.g Wc hc H' ∧ Rep c.g Wc H' d x := by
      rcases g2 x H' y with ⟨e1, r⟩ | ⟨T, us, l, e1, e2, hT, e3, r⟩
      · subst e1
        exact ⟨Step.refl _ _, Sc.hs, r⟩
      · subst e1 e2 e3
        have tn : Step Wc Hc Wc (upd Hc T (.tup us)) := Step.new hT
        have pn := tn.per Sc.hs
        refine ⟨tn, Sc.hs.new hT pn, ?_⟩
        simp only [Rep]
        exact ⟨T, us, rfl, .inl (.inl upd_same), r.per pn _ _⟩
    obtain ⟨t2, s2, rd⟩ := item
    have p2 := t2.per Sc.hs
    refine ⟨Wc, ec, hc, d, Sc.step t2 s2, rd, ?_⟩
    unfold forL at q3
    cases zt : t d ec with
    | none =>
      rw [zt] at q3
      exact q3.elim
    | some e1 =>
      rw [zt] at q3
      intro s3 S3 _ _
      refine ⟨Wc, e1, hc, S3, ?_⟩
      have q4 : PostS c Wc H' (match b e1 hc with
        | .nx e2 h2 => forL t b fg (ds.drop (i + 1)) (wipeE e2 fg) h2
        | .ct e2 h2 => forL t b fg (ds.drop (i + 1)) (wipeE e2 fg) h2
        | .bk e2 h2 => .nx (wipeE e2 fg) h2
        | .rt d h2 => .rt d h2
        | .exc x e2 h2 => .exc x e2 h2
        | .bad => .bad) D := q3.later p2
      cases zb : b e1 hc with
      | nx e2 h2 =>
        rw [zb] at q4
        exact fun W' s' H2 p S' => ⟨W', _, h2, (pc.trans p2).trans p, S'.wipe' fg, q4.later p⟩
      | ct e2 h2 =>
        rw [zb] at q4
        exact fun W' s' H2 p S' => ⟨W', _, h2, (pc.trans p2).trans p, S'.wipe' fg, q4.later p⟩
      | bk e2 h2 =>
        rw [zb] at q4
        exact fun W' s' H2 p S' => q4 W' s' H2 p (S'.wipe' fg)
      | rt d h2 =>
        rw [zb] at q4
        exact q4
      | exc x e2 h2 =>
        rw [zb] at q4
        exact q4
      | bad =>
        rw [zb] at q4
        exact q4
end
section
variable {T : Tp} {X : Cx} {c : Cn} {N : List Str} {k : Nat} {sc : Scope} {x : Str} {pos : Pos}
theorem ko_for {tg iter : Expr} {body : List Stmt} {mi : En → M (List DV)} {t : DV → En → Option En} {sl : List Nat} (fg : List Nat) {bo : Stm} (h : XHo T X c N k sc) (hi : PIH X tg iter (RI c mi)) (hg : PG X tg (RG c t sl)) (hb : PSs X body (RS c bo))
    (hs : ∀ x, foldedSetIterable iter X.env x = pure x := by intro _; rfl) : PS X (.For tg iter body [] pos) (RS c (sFor mi t fg bo)) := ps_imp (ps_forH (by
      obtain ⟨X0, a, oe, cls, dd, pn, e, _⟩ := h.cur
      subst e
      exact PassesOwn.never) h.hot hi hg hb hs) fun D s H q => for_use q
theorem ko_gn {i : Nat} (h : XHo T X c N k sc) (hi : N[i]? = some x) (hx : sc.names.lookup x = some .local) : PG X (.Name x pos) (RG c (tName i) [i]) := g_name (by rw [h.nm]; exact h.nd) (by rw [h.nm]; exact hi) (by rw [h.sc]; exact .inl hx) (.inr (by rw [h.sc]; exact hx))
theorem ko_var (h : XHo T X c N k sc) (i : Nat) (hi : N[i]? = some x) (hv : Vis sc x) (hd : (x == ("__debug__" : Str)) = false := by decide) (hcd : (x == ("__classdict__" : Str)) = false := by decide) : PE X (.Name x pos) (RE c (eVar i)) := c_var (by rw [h.nm]; exact hi) (by rw [h.sc]; exact hv) hd hcd
end
@[simp] theorem itL_lst (l : List DV) (h : HP) : itL (.lst l) h = .ok l h := rfl
end LM

/-! sorted, list(range), reversed(range), max of a list or a tuple. -/
namespace LM
open PySem L2

/-! ### sorted of a tuple, at the library's level -/
section
open PyProof.Rows SrtO Calls
variable {prog : Program} {w : World} {A : Around} {E : Value → Shared → Prop} {s : Shared}
theorem collect_tuple {l : Addr} {vs : List Value} {Q : List Value → Shared → Prop} (hl : s.heap.IsTuple l vs.toArray)
    (h : Q vs { s with heap := (s.heap.push (seqObj "list" #[] 0)).update s.heap.objs.size (Obj.mapSeq (· ++ vs.toArray)) }) (hsz : vs.length ≤ sizeLine := by size_fits) :
    wpAny (model prog w) A (collect (.ref l)) Q E s := by
  obtain ⟨o, ho, hc, n, hd⟩ := id hl
  unfold collect
  refine wpAny_bind (wpAny_runValue (codeAny_builtin entry_proto_collect' ?_))
  show wpAny _ _ (do again (.builtin "list.__iadd__" ⟨[← newList [], .ref l], []⟩)) _ _ s
  refine wpAny_bind (wpAny_newList (wpAny_pure ⟨Code.quiet_builtin _ (by decide +kernel), codeAny_builtin entry_list_iadd' ?_⟩))
  show wpAny _ _ (Builtin.List.listExtendWith (.ref s.heap.objs.size) (.ref l) (.ref s.heap.objs.size)) _ _ { s with heap := s.heap.push (seqObj "list" #[] 0) }
  unfold Builtin.List.listExtendWith
  have ho' : (s.heap.push (seqObj "list" #[] 0)).get? l = some o := Heap.get?_push_of_some _ ho
  refine wpAny_bind (wpAny_typeOf (T := "tuple") ⟨o, ho', hc⟩ ?_)
  have ht : (Value.type "tuple" == Value.type "tuple") = true := by rfl
  rw [if_pos (by rw [ht]; simp)]
  refine wpAny_bind (listItems_at ho' hd ?_)
  refine wpAny_bind (listItems_at (xs := #[]) (n := 0) (Heap.get?_push_size _ rfl) rfl ?_)
  rw [if_neg (by simp)]
  refine wpAny_bind (listUpdate_at (xs := #[]) (n := 0) (Heap.get?_push_size _ rfl) rfl ?_ (Nat.zero_le _) (by show (#[] ++ vs.toArray).size ≤ sizeLine + 1; simp only [Array.size_append, List.size_toArray, List.length_nil]; omega))
  refine wpAny_pure ?_
  show wpAny (model prog w) A (do
      let o ← load s.heap.objs.size
      match o.data with
      | .seq xs _ => pure xs.toList
      | _ => unsupported "internal:collect") Q E { s with heap := (s.heap.push (seqObj "list" #[] 0)).update s.heap.objs.size (Obj.mapSeq (· ++ vs.toArray)) }
  refine wpAny_bind (wpAny_load (get?_update_seq (Heap.get?_push_size _ rfl) _) ?_)
  show wpAny _ _ (pure ((#[] : Array Value) ++ vs.toArray).toList) Q E _
  rw [show ((#[] : Array Value) ++ vs.toArray).toList = vs by simp]
  exact wpAny_pure h
theorem sorted_ordT {l : Addr} {vs : List Value} {ltv : Value → Value → Bool} {Q : Value → Shared → Prop} (O : Swo ltv) (hl : s.heap.IsTuple l vs.toArray) (hz : vs.length ≤ sizeLine)
    (hS : 2 ≤ vs.length → ∀ (h₁ : Heap) (a : Addr), h₁.get? a = some (seqObj "list" vs.toArray 0) → (∀ b o, s.heap.get? b = some o → b ≠ a ∧ h₁.get? b = some o) → SortableO prog w A.in1.in1 { s with heap := h₁ } a vs ltv)
    (h : ∀ out : List Value, Srtd ltv out → Stb ltv out vs → Q (.ref (s.heap.objs.size + 1)) { s with heap := sortedAll s.heap vs out.toArray }) :
    wpAny (model prog w) A (call (.builtin "sorted") [.ref l]) Q E s := by
  refine Calls.call_function_entry kind_sorted plain_sorted entry_sorted (args_sorted1 _) ?_
  unfold Builtin.«sorted»
  refine wpAny_bind (m := checkCount "sorted" 1 1 _) (wpAny_pure ?_)
  refine wpAny_bind (collect_tuple hl ?_ hz)
  refine wpAny_bind (wpAny_newList ?_ hz)
  have hsz : ((s.heap.push (seqObj "list" #[] 0)).update s.heap.objs.size (Obj.mapSeq (· ++ vs.toArray))).objs.size = s.heap.objs.size + 1 := by
    rw [Heap.size_update, size_push']
  have hoL : (((s.heap.push (seqObj "list" #[] 0)).update s.heap.objs.size (Obj.mapSeq (· ++ vs.toArray))).push (seqObj "list" vs.toArray 0)).get? (s.heap.objs.size + 1) = some (seqObj "list" vs.toArray 0) := by
    rw [← hsz]; exact Heap.get?_push_size _ rfl
  have keep : ∀ b o, s.heap.get? b = some o → b ≠ s.heap.objs.size + 1 ∧ (((s.heap.push (seqObj "list" #[] 0)).update s.heap.objs.size (Obj.mapSeq (· ++ vs.toArray))).push (seqObj "list" vs.toArray 0)).get? b = some o := fun b o q => by
    have hlt : b < s.heap.objs.size := Heap.lt_size q
    refine ⟨Nat.ne_of_lt (Nat.lt_succ_of_lt hlt), Heap.get?_push_of_some _ ?_⟩
    rw [Heap.get?_update_ne _ _ _ _ (Nat.ne_of_lt hlt)]
    exact Heap.get?_push_of_some _ q
  show wpAny _ _ _ _ _ { s with heap := ((s.heap.push (seqObj "list" #[] 0)).update s.heap.objs.size (Obj.mapSeq (· ++ vs.toArray))).push (seqObj "list" vs.toArray 0) }
  rw [hsz]
  refine wpAny_bind (wpAny_holding (wpAny_call_entry slot_list_sort ⟨_, hoL, rfl⟩ entry_list_sort (list_sort_ord O hoL hz (fun h2 => hS h2 _ _ hoL keep) fun out hs hb => ⟨_, rfl, ?_⟩) (args_list_sort _)))
  exact wpAny_pure ⟨_, rfl, h out hs hb⟩
end
/-- a list or a tuple of ints, sorted -/
def rSrt (K : PySem.W.Frag) : List V → Hp → VK → Prop := fun vs H Q => ∃ (a : Addr) (ns : List Int), vs = [V.ref a] ∧ (SqL K H a (ns.map V.int) ∨ SqT K H a (ns.map V.int)) ∧
  ∀ p, H p = none → Q (.ref p) (upd H p (.lst ((PySem.W.sortI ns).map V.int)))
theorem srt_eq {ns ns' : List Int} (h1 : ns'.Perm ns) (h2 : ns'.Pairwise (· ≤ ·)) : ns' = PySem.W.sortI ns :=
  List.Perm.eq_of_pairwise (fun _ _ _ _ a b => Int.le_antisymm a b) h2 (PySem.W.sortI_rises ns) (h1.trans (PySem.W.sortI_perm ns).symm)
theorem cr_srt {X : Cx} : CallR X (.builtin "sorted") (rSrt X.K) := by
  intro pins s σ H vs us Q I r h
  obtain ⟨a, ns, rfl, hs, q⟩ := h
  rcases hs with hs | hs
  · exact cr_sortedI pins s σ H _ us Q I r ⟨a, ns, rfl, hs, fun ns' p e1 e2 np => by
      rw [srt_eq e1 e2]
      exact q p np⟩
  · obtain ⟨its, rv, hl, hz⟩ := I.tuple hs
    rw [Vals.ref1 r]
    have hi := rv.ints
    refine sorted_ordT SrtO.swo_int (show s.heap.IsTuple a its.toArray from hl) (by rw [← rv.length]; exact hz) (fun h2 h₁ a' _ _ => SrtO.ints_sortable hi h2) fun out h1 h2 => ?_
    obtain ⟨k1, k2, k3⟩ := SrtO.ints_out hi h1 h2
    obtain ⟨ep, he'⟩ := PyProof.Rows.sortedAll_at s.heap its out.toArray
    have hlen : ((out.map SrtO.iv).map V.int).length ≤ sizeLine := by
      rw [List.length_map, k2.length_eq]
      rw [List.length_map] at hz
      exact hz
    refine ⟨.ref _, upd H (s.heap.objs.size + 1) (.lst ((out.map SrtO.iv).map V.int)), I.laid (t' := s.toks) (fun _ _ => PyProof.Rows.sortedAll_old) (Nat.le_succ _) ⟨hlen, out, ep, vals_of_ints k1, he'⟩, rfl, ?_⟩
    rw [srt_eq k2 k3]
    exact q _ (I.hok.fresh (Nat.le_succ _))
section
variable {X : Cx} {c : Cn} {pos p1 p2 pos2 : Pos} {a b tg : Expr} {ma mb : En → M DV}
def lSrt (x : DV) : M (List DV) := fun h => match asS h x with
  | some l => (match asInts l with
    | some ns => .ok ((PySem.W.sortI ns).map DV.int) h
    | none => .bad)
  | none => .bad
theorem prim_srt {K : PySem.W.Frag} (hk : c.g.K = K) : Prim1 c (pB c) (rO c) lSrt (rSrt K) := by
  subst hk
  refine ⟨fun {W e h s H Hs x v Q} S rx nw q => ?_⟩
  unfold lSrt at q
  cases z : asS h x with
  | none =>
    rw [z] at q
    exact q.elim
  | some l =>
    rw [z] at q
    have q1 : Post c (rO c Hs) e s W H (match asInts l with
      | some ns => .ok ((PySem.W.sortI ns).map DV.int) h
      | none => .bad) Q := q
    cases z2 : asInts l with
    | none =>
      rw [z2] at q1
      exact q1.elim
    | some ns =>
      rw [z2] at q1
      obtain ⟨p, vs, e1, sq, rs⟩ := asS_ok S rx z
      rw [asInts_map z2] at rs
      have e2 := reps_ints_inv rs
      subst e1 e2
      exact ⟨p, ns, rfl, sq, fun d hd => post_own q1 S (reps_ints _) hd (nw d hd)⟩
theorem c_sorted (hk : X.K = c.g.K) (hg : Gl X "sorted") (hm : X.mg "sorted" = none) (ha : PE X a (RB c ma)) (he : starEach (a :: []) X.env = (false, eval a X.env) :: starEach [] X.env := by rfl) : PE X (.Call (.Name "sorted" p1) [a] [] pos) (RO c (iB ma lSrt)) :=
  c_callB cr_srt (prim_srt hk.symm) hg hm (by decide +kernel) ha (by decide) (by decide) he
/-! ### list(range(n)) -/
theorem rgV_rng (n : Int) : rgV 0 n = (List.range n.toNat).map fun i => V.int ((i : Nat) : Int) := by
  unfold rgV
  rw [Int.sub_zero]
  apply List.map_congr_left
  intro i _
  rw [Int.zero_add]
theorem reps_rng {g : Glue} {W : Wd} {H : Hp} (n : Nat) : Reps g W H (rng n) ((List.range n).map fun i => V.int ((i : Nat) : Int)) := by
  unfold rng
  generalize List.range n = l
  induction l with
  | nil => exact .nil
  | cons x r ih => exact .cons (by simp only [Rep]) ih
theorem c_listRng (hk : X.K = c.g.K) (hc : X.calm = true) (hg : Gl X "list") (hm : X.mg "list" = none) (hg2 : Gl X "range") (hm2 : X.mg "range" = none) (ha : PE X a (RE c ma))
    (hs : starEach [a] X.env = (false, eval a X.env) :: starEach [] X.env := by rfl)
    (hs2 : starEach [.Call (.Name "range" p2) [a] [] pos2] X.env = (false, eval (.Call (.Name "range" p2) [a] [] pos2) X.env) :: starEach [] X.env := by rfl) :
    PE X (.Call (.Name "list" p1) [.Call (.Name "range" p2) [a] [] pos2] [] pos) (RO c (iB ma itN)) := pe_imp (pe_listRg hc hg hm (prg_1 hg2 hm2 ha hs) hs2) fun s H Q q =>
  RX.bind (R := rO c) (k := fun _ x => itN x) q fun W e W1 H1 d v h1 t S r q2 => by
    unfold itN at q2
    split at q2
    · rename_i j
      split at q2
      · rename_i hz
        simp only [Bool.and_eq_true, decide_eq_true_eq] at hz
        simp only [rV, Rep] at r
        refine ⟨j, r, ⟨by omega, by omega, by omega, by omega, by omega⟩, fun q hq => ?_⟩
        rw [rgV_rng]
        exact post_own q2 S (reps_rng _) hq (t.th q hq)
      · exact q2.elim
    · exact q2.elim
/-! ### for i in reversed(range(n)) -/
def itRR (d : DV) : M (List DV) := match d with
  | .int j => if decide (-16777216 ≤ j) && decide (j ≤ 16777216) then pure (rng j.toNat).reverse else M.bad
  | _ => M.bad
theorem wk_rrng {W : Wd} {H : Hp} (n : Nat) : Wk c W H (Itc ((n : Int) - 1) (-1) n) (rng n).reverse where
  go := fun W2 H2 pr i d e => by
    obtain ⟨h0, e0⟩ := rev_get _ e
    rw [rng_len] at h0 e0
    obtain ⟨h1, h2⟩ := rng_get e0
    refine ⟨h0, fun x H3 y => ?_⟩
    obtain ⟨y1, y2⟩ := y
    subst h2 y2
    refine .inl ⟨y1, ?_⟩
    simp only [Rep]
    congr 1
    omega
  st := fun W2 H2 pr => by
    show n ≤ (rng n).reverse.length
    rw [List.length_reverse, rng_len]
    exact Nat.le_refl _
theorem i_revRng (hg : Gl X "reversed") (hm : X.mg "reversed" = none) (hg2 : Gl X "range") (hm2 : X.mg "range" = none) (ha : PE X a (RE c ma)) (hs : starEach [a] X.env = (false, eval a X.env) :: starEach [] X.env := by rfl)
    (hs2 : starEach [.Call (.Name "range" p2) [a] [] pos2] X.env = (false, eval (.Call (.Name "range" p2) [a] [] pos2) X.env) :: starEach [] X.env := by rfl) :
    PI X tg (.Call (.Name "reversed" p1) [.Call (.Name "range" p2) [a] [] pos2] [] pos) (RI c (iB ma itRR)) :=
  pi_imp (pi_revR hg hm (prg_1 hg2 hm2 ha hs) hs2) fun s H R q => RX.bind (k := fun _ x => itRR x) q fun W e W1 H1 d v h1 t S1 r q2 => by
    unfold itRR at q2
    split at q2
    · rename_i j
      split at q2
      · rename_i hz
        simp only [Bool.and_eq_true, decide_eq_true_eq] at hz
        simp only [rV, Rep] at r
        refine ⟨j, r, by omega, by omega, by omega, by omega, ?_⟩
        rw [Int.sub_zero, Int.zero_add]
        exact q2.ret S1 (wk_rrng _)
      · exact q2.elim
    · exact q2.elim
end
@[simp] theorem lSrt_tup (l : List Int) (h : HP) : lSrt (.tup (l.map DV.int)) h = .ok ((PySem.W.sortI l).map DV.int) h := by
  show (match asInts (l.map DV.int) with
    | some ns => Res.ok ((PySem.W.sortI ns).map DV.int) h
    | none => .bad) = _
  rw [asInts_ints]
@[simp] theorem lSrt_lst (l : List Int) (h : HP) : lSrt (.lst (l.map DV.int)) h = .ok ((PySem.W.sortI l).map DV.int) h := by
  show (match asInts (l.map DV.int) with
    | some ns => Res.ok ((PySem.W.sortI ns).map DV.int) h
    | none => .bad) = _
  rw [asInts_ints]
theorem itRR_nat (n : Nat) (h : HP) (q : n ≤ 16777216) : itRR (.int (n : Int)) h = .ok (rng n).reverse h := by
  simp only [itRR]
  rw [decide_eq_true (show (-16777216 : Int) ≤ n by omega), decide_eq_true (show (n : Int) ≤ 16777216 by omega)]
  rfl
end LM

/-! tuple(reversed(a tuple)). -/
namespace LMR
open PySem PySem.Spec PyProof.Rows RT
theorem nolen_rt : typeLookup (.type "reversed") "__len__" = pure none := by rw [typeLookup_type, builtinLookup_eq_fast]; kernel_rfl
theorem slot_rt_hint : Slot "reversed" "__length_hint__" "reversed.__length_hint__" :=
  .of (owner := "reversed") (n := "__length_hint__") (by rw [typeLookup_type, builtinLookup_eq_fast]; kernel_rfl) (by decide +kernel) (by decide +kernel) (by decide +kernel)
    (by first | exact .inl (by decide +kernel) | exact .inr (by decide +kernel)) (by rw [isSubtype_type]; kernel_rfl)
theorem type_rt_hint : typeOf (.builtin "reversed.__length_hint__") = pure (.type "method_descriptor") := by show builtinType _ = _; rw [builtinType_eq_fast]; kernel_rfl
theorem entry_rt_hint : entryFor table "reversed.__length_hint__" = some Builtin.«reversed.__length_hint__» := entryFor_of_tree (by kernel_rfl)
theorem args_rt_hint (a : Value) : argsOk "reversed.__length_hint__" ⟨[a], []⟩ := by
  unfold argsOk; rw [signature?_of (id := "reversed.__length_hint__") (n := ['_', '_', 't', 'n', 'i', 'h', '_', 'h', 't', 'g', 'n', 'e', 'l', '_', '_']) (o := ['d', 'e', 's', 'r', 'e', 'v', 'e', 'r']) (by kernel_rfl) owner_rt]; kernel_rfl
section
variable {prog : Program} {w : World} {A : Around} {E : Value → Shared → Prop} {s : Shared}
theorem hint_rt {it t : Addr} {items : Array Value} {Q : Bool → Shared → Prop} (hit : IsRt s.heap it t ((items.size : Int) - 1)) (ht : IsTup s.heap t items) (hn : items.size ≤ sizeLine)
    (hQ : ∀ tk, Q (decide (items.size ≠ 0)) { s with toks := tk }) : wpAny (model prog w) A (Builtin.List.listLengthHint (.ref it)) Q E s := by
  have hT : s.TypeIs (.ref it) "reversed" := hit.typeIs
  obtain ⟨o, ho, hc, hd⟩ := id hit
  unfold Builtin.List.listLengthHint
  refine wpAny_bind (wpAny_specialOf hT nolen_rt ?_)
  show wpAny _ A (specialOf (Value.ref it) (Str.ofString "__length_hint__") >>= _) _ _ _
  refine wpAny_bind (wpAny_specialOf hT slot_rt_hint.lookup ?_)
  (generalize hid : ("reversed.__length_hint__" : String) = id0; (fail_if_success (clear hid id0)); wp_delta; rw [show splitId id0 = some ("reversed", "__length_hint__") from by subst hid; decide +kernel]; subst hid)
  refine wpAny_bind (wpAny_isInstance (b := true) hT (by rw [isSubtype_type]; kernel_rfl) ?_)
  rw [if_neg (by decide)]
  show wpAny _ A (rule "list.length-hint.hint" >>= _) _ _ _
  refine wpAny_bind (wpAny_rule ?_)
  refine wpAny_bind (m := bindSpecial _ _) ?_
  unfold bindSpecial
  rw [type_rt_hint]
  refine wpAny_bind (wpAny_pure ?_)
  rw [if_pos (by decide)]
  refine wpAny_pure ?_
  refine wpAny_bind (wpAny_attempt (wpAny_call_entry slot_rt_hint hT entry_rt_hint ?_ (args_rt_hint _)))
  unfold Builtin.«reversed.__length_hint__»
  refine wpAny_bind (wpAny_of_eq (a := Value.ref it) rfl ?_)
  refine wpAny_bind (wpAny_field ho hd (x := .ref t) rfl ?_)
  rw [if_neg (show ¬ ((Value.ref t == Value.none) = true) from Bool.false_ne_true)]
  have hn2 : (items.size : Int) < 2 ^ 63 := by
    rw [sizeLine_eq] at hn
    omega
  refine wpAny_bind (len_tuple ht hn2 ?_)
  refine wpAny_bind (m := asInt? _) (wpAny_of_eq (a := some (items.size : Int)) rfl ?_)
  refine wpAny_bind (wpAny_field (s := { s with toks := s.toks + 1 + 1 }) ho hd (x := rawInt ((items.size : Int) - 1)) rfl ?_)
  show wpAny _ _ (if (items.size : Int) < ((items.size : Int) - 1) + 1 then _ else _) _ _ _
  rw [if_neg (by omega)]
  show wpAny _ _ (retInt _) _ _ _
  unfold retInt
  refine wpAny_bind (wpAny_mkInt ?_)
  refine wpAny_pure ?_
  refine ⟨_, rfl, ?_⟩
  show wpAny _ A (asInt? (Value.int ((items.size : Int) - 1 + 1) _) >>= _) _ _ _
  refine wpAny_bind (m := asInt? _) (wpAny_of_eq (a := some ((items.size : Int) - 1 + 1)) rfl ?_)
  have en : (items.size : Int) - 1 + 1 = (items.size : Int) := by omega
  rw [en]
  have e1 : (!Builtin.List.listFitsIndex (items.size : Int)) = false := by
    unfold Builtin.List.listFitsIndex
    simp only [Bool.not_eq_false', Bool.and_eq_true, decide_eq_true_eq]
    omega
  have e2 : Builtin.List.listTooLong ((items.size : Int)).toNat = false := by
    unfold Builtin.List.listTooLong
    rw [Int.toNat_natCast, decide_eq_false_iff_not]
    omega
  try dsimp only
  rw [if_neg (by rw [e1]; decide), if_neg (by omega), if_neg (by rw [e2]; decide)]
  refine wpAny_pure ?_
  have e3 : ((items.size : Int) != 0) = decide (items.size ≠ 0) := by
    rw [bne, Bool.eq_iff_iff]
    simp
  rw [e3]
  exact hQ _
theorem walks_rt (hh : A.handled = none) (I l : Addr) (hne : l ≠ I) (items : Array Value) (hz : items.size ≤ sizeLine) :
    Walks prog w A I [I, l] [I] items.size (fun i v => items[items.size - 1 - i]? = some v) (fun i h => i ≤ items.size ∧ IsRt h I l ((items.size : Int) - 1 - (i : Int)) ∧ IsTup h l items) where
  sub := fun b hb => by simp at hb; simp [hb]
  frame := fun _ _ _ x hk => ⟨x.1, x.2.1.at fun o e => hk I (by simp) o e, by
    obtain ⟨o, e, r⟩ := x.2.2
    exact ⟨o, hk l (by simp) o e, r⟩⟩
  item := fun i s Q E hi x hQ => by
    have e : (items.size : Int) - 1 - (i : Int) = ((items.size - 1 - i : Nat) : Int) := by omega
    have hit := x.2.1
    rw [e] at hit
    have hx : items[items.size - 1 - i]? = some (items[items.size - 1 - i]'(by omega)) := Array.getElem?_eq_getElem (by omega)
    refine next_rt_item hit x.2.2 hx hz fun h' hit' hs' => ?_
    have e2 : ((items.size - 1 - i : Nat) : Int) - 1 = (items.size : Int) - 1 - ((i + 1 : Nat) : Int) := by omega
    rw [e2] at hit'
    exact hQ _ h' _ hx ⟨hi, hit', by
      obtain ⟨o, eo, r⟩ := x.2.2
      exact ⟨o, (hs'.2 l hne).trans eo, r⟩⟩ fun b o hb eo => hs'.extBut b o (fun h => hb (by simp [h])) eo
  done := fun s Q E x hQ => by
    have e : (items.size : Int) - 1 - (items.size : Int) = -1 := by omega
    have hit := x.2.1
    rw [e] at hit
    exact next_rt_end hh hit fun h' he' => hQ h' s.toks fun b o hb eo => he' b o (fun h => hb (by simp [h])) eo
  self := fun _ _ _ _ x hQ => iter_rt x.2.1 hQ
theorem collect_rt {it l : Addr} {items : Array Value} {Q : List Value → Shared → Prop} (hh : A.handled = none) (hit : IsRt s.heap it l ((items.size : Int) - 1)) (hl : IsTup s.heap l items) (hne : l ≠ it) (hn : items.size ≤ sizeLine)
    (hQ : ∀ (h' : Heap) (tk : Nat) (acc : Array Value), (∀ b o, b ≠ it → s.heap.get? b = some o → h'.get? b = some o) → ItemsOf (fun i v => items[items.size - 1 - i]? = some v) acc items.size → Q acc.toList { s with heap := h', toks := tk }) :
    wpAny (model prog w) A (collect (.ref it)) Q E s := by
  have W := (walks_rt (prog := prog) (w := w) (A := A.in1) hh it l hne items hn).toS
  obtain ⟨oi, hoi, _⟩ := id hit
  obtain ⟨ol, hol, _⟩ := id hl
  have hSi : s.heap.objs.size ≠ it := Nat.ne_of_gt (Heap.lt_size hoi)
  have hSl : s.heap.objs.size ≠ l := Nat.ne_of_gt (Heap.lt_size hol)
  have hSf : s.heap.objs.size ∉ [it, l] := by simp only [List.mem_cons, List.not_mem_nil, or_false, not_or]; exact ⟨hSi, hSl⟩
  unfold collect
  refine wpAny_bind (wpAny_runValue (codeAny_builtin F.entry_proto_collect ?_))
  rw [Around.under_plainId F.plain_proto_collect _]
  show wpAny _ A.in1 (newList [] >>= fun l' => again (.builtin "list.__iadd__" ⟨[l', .ref it], []⟩)) _ _ s
  refine wpAny_bind (wpAny_newObj_type ?_)
  refine wpAny_pure ⟨plainId_quiet F.plain_list_iadd _, codeAny_builtin F.entry_list_iadd ?_⟩
  rw [Around.under_plainId F.plain_list_iadd _]
  have hS₁ : (s.heap.push { cls := .type "list", data := .seq ([] : List Value).toArray }).get? s.heap.objs.size = some { cls := .type "list", data := .seq ([] : List Value).toArray } := Heap.get?_push_size _ rfl
  have hit1 : IsRt (s.heap.push { cls := .type "list", data := .seq ([] : List Value).toArray }) it l ((items.size : Int) - 1) := hit.at fun o e => Heap.get?_push_of_some _ e
  have hl1 : IsTup (s.heap.push { cls := .type "list", data := .seq ([] : List Value).toArray }) l items := by
    obtain ⟨o, e, r⟩ := hl
    exact ⟨o, Heap.get?_push_of_some _ e, r⟩
  have hT : ({ s with heap := s.heap.push { cls := .type "list", data := .seq ([] : List Value).toArray } } : Shared).TypeIs (.ref it) "reversed" := IsRt.typeIs (s := { s with heap := s.heap.push { cls := .type "list", data := .seq ([] : List Value).toArray } }) hit1
  have h1 : Builtin.List.listSameRef (.ref s.heap.objs.size) (.ref it) = false := by simp [Builtin.List.listSameRef, hSi]
  show wpAny _ A.in1 (Builtin.List.listExtendWith (.ref s.heap.objs.size) (.ref it) (.ref s.heap.objs.size)) _ _ _
  unfold Builtin.List.listExtendWith
  refine wpAny_bind (wpAny_typeOf hT ?_)
  rw [if_neg (by rw [h1]; decide)]
  refine wpAny_bind (iter_rt (s := { s with heap := s.heap.push { cls := .type "list", data := .seq ([] : List Value).toArray } }) hit1 ?_)
  refine wpAny_bind (wpAny_holding (hint_rt (s := { s with heap := s.heap.push { cls := .type "list", data := .seq ([] : List Value).toArray } }) hit1 hl1 hn fun tk0 => ?_))
  have e0 : ((items.size : Nat) : Int) - 1 - ((0 : Nat) : Int) = (items.size : Int) - 1 := by omega
  by_cases hz : items.size = 0
  · have er : decide (items.size ≠ 0) = false := decide_eq_false (by omega)
    rw [er]
    show wpAny _ A.in1 (again (.builtin "list.extend.loop" ⟨[.ref s.heap.objs.size, .ref it, .ref s.heap.objs.size], []⟩)) _ _ _
    have idh : ∀ b o, b ≠ s.heap.objs.size → (s.heap.push { cls := .type "list", data := .seq ([] : List Value).toArray }).get? b = some o → (s.heap.push { cls := .type "list", data := .seq ([] : List Value).toArray }).get? b = some o := fun _ _ _ e => e
    refine wpAny_pure ⟨plainId_quiet F.plain_extend_loop _, codeAny_extend_loopS W hn _ hSf _ items.size 0 _ _ _ rfl (Nat.zero_le _) ⟨Nat.zero_le _, by rw [e0]; exact hit1.at fun o e => idh it o (Ne.symm hSi) e, by
      obtain ⟨o, e, r⟩ := hl1
      exact ⟨o, idh l o (Ne.symm hSl) e, r⟩⟩ hS₁ (ItemsOf.nil _) fun s' acc' c' hm hS' hacc => ?_⟩
    show wpAny _ A (load s.heap.objs.size >>= _) _ _ s'
    refine wpAny_bind (wpAny_load hS' ?_)
    refine wpAny_pure ?_
    rw [Moved.eq_with hm]
    refine hQ s'.heap s'.toks acc' (fun b o hb e => hm.heap b o (fun hmem => ?_) (idh b o (Nat.ne_of_lt (Heap.lt_size e)) (Heap.get?_push_of_some _ e))) hacc
    rcases List.mem_cons.mp hmem with e' | hmem
    · exact absurd (Heap.lt_size e) (by rw [e']; exact Nat.lt_irrefl _)
    · exact hb (List.mem_singleton.mp hmem)
  · have er : decide (items.size ≠ 0) = true := decide_eq_true hz
    rw [er]
    show wpAny _ A.in1 (rule "list.extend.makes-room" >>= fun _ => Builtin.List.listTouch (.ref s.heap.objs.size) >>= fun _ =>
      again (.builtin "list.extend.loop" ⟨[.ref s.heap.objs.size, .ref it, .ref s.heap.objs.size], []⟩)) _ _ _
    refine wpAny_bind (wpAny_rule ?_)
    refine wpAny_bind ?_
    show wpAny _ A.in1 (updateSeq s.heap.objs.size (·.push .none) >>= fun _ => updateSeq s.heap.objs.size (·.pop)) _ _ _
    refine wpAny_bind (wpAny_updateSeq hS₁ rfl ?_)
    have hS₂ := Heap.get?_update_self (Obj.mapSeq (·.push Value.none)) hS₁ rfl
    refine wpAny_updateSeq hS₂ rfl ?_
    have hS₃ := Heap.get?_update_self (Obj.mapSeq (·.pop)) hS₂ rfl
    have oth : ∀ b o, b ≠ s.heap.objs.size → (s.heap.push { cls := .type "list", data := .seq ([] : List Value).toArray }).get? b = some o →
        (((s.heap.push { cls := .type "list", data := .seq ([] : List Value).toArray }).update s.heap.objs.size (Obj.mapSeq (·.push Value.none))).update s.heap.objs.size (Obj.mapSeq (·.pop))).get? b = some o :=
      fun b o hb e => (Heap.get?_update_other _ _ (Ne.symm hb)).trans ((Heap.get?_update_other _ _ (Ne.symm hb)).trans e)
    refine wpAny_pure ⟨plainId_quiet F.plain_extend_loop _, codeAny_extend_loopS W hn _ hSf _ items.size 0 _ _ _ rfl (Nat.zero_le _) ⟨Nat.zero_le _, by rw [e0]; exact hit1.at fun o e => oth it o (Ne.symm hSi) e, by
      obtain ⟨o, e, r⟩ := hl1
      exact ⟨o, oth l o (Ne.symm hSl) e, r⟩⟩ hS₃ (ItemsOf.nil _) fun s' acc' c' hm hS' hacc => ?_⟩
    show wpAny _ A (load s.heap.objs.size >>= _) _ _ s'
    refine wpAny_bind (wpAny_load hS' ?_)
    refine wpAny_pure ?_
    rw [Moved.eq_with hm]
    refine hQ s'.heap s'.toks acc' (fun b o hb e => hm.heap b o (fun hmem => ?_) (oth b o (Nat.ne_of_lt (Heap.lt_size e)) (Heap.get?_push_of_some _ e))) hacc
    rcases List.mem_cons.mp hmem with e' | hmem
    · exact absurd (Heap.lt_size e) (by rw [e']; exact Nat.lt_irrefl _)
    · exact hb (List.mem_singleton.mp hmem)
theorem code_tuple_new_rt {it l : Addr} {items : Array Value} {Q₁ : Value → Shared → Prop} (hh : A.handled = none) (hit : IsRt s.heap it l ((items.size : Int) - 1)) (hl : IsTup s.heap l items) (hne : l ≠ it) (hn : items.size ≤ sizeLine)
    (h : ∀ (h' : Heap) (tk : Nat) (acc : Array Value), (∀ b o, b ≠ it → s.heap.get? b = some o → h'.get? b = some o) → ItemsOf (fun i v => items[items.size - 1 - i]? = some v) acc items.size →
      Q₁ (.ref h'.objs.size) { s with heap := h'.push { cls := .type "tuple", data := .seq acc }, toks := tk }) :
    codeAny (model prog w) A (.call (.builtin "tuple.__new__") ⟨[.type "tuple", .ref it], []⟩) (wants Q₁ E) s := by
  refine codeAny_of_tree ?_
  show wpAny _ A.in1 (do checkBuiltinCall "tuple.__new__" ⟨[.type "tuple", .ref it], []⟩; again (.builtin "tuple.__new__" ⟨[.type "tuple", .ref it], []⟩)) _ _ s
  refine wpAny_bind (wpAny_of_eq (F.newCall_tuple_1 _) (wpAny_pure ⟨plainId_quiet F.plain_tuple_new _, codeAny_builtin F.entry_tuple_new ?_⟩))
  rw [Around.under_plainId F.plain_tuple_new _]
  have hsub := sub_tuple_self
  have hinit := init_tuple_lookup
  have hmh := madeHere_tuple
  have hTI : s.TypeIs (.ref it) "reversed" := hit.typeIs
  have hh1 : A.in1.handled = none := hh
  wp_walk using wpAny_typeOf hTI, collect_rt (A := A.in1) hh1 hit hl hne hn
  intro h' tk acc hk hacc
  show wpAny _ _ (Builtin.Tuple.tupleExact acc.toList.toArray >>= fun v => ret v) _ _ _
  unfold Builtin.Tuple.tupleExact
  refine wpAny_bind (wpAny_newObj_type ?_ (by show acc.toList.toArray.size ≤ sizeLine; simp only [Array.toArray_toList]; rw [hacc.1]; exact hn))
  refine wpAny_pure ?_
  have e : acc.toList.toArray = acc := by simp
  rw [e]
  exact h h' tk acc hk hacc
theorem call_tuple_rt {it l : Addr} {items : Array Value} {Q : Value → Shared → Prop} (hh : A.handled = none) (hit : IsRt s.heap it l ((items.size : Int) - 1)) (hl : IsTup s.heap l items) (hne : l ≠ it) (hn : items.size ≤ sizeLine)
    (hQ : ∀ (h' : Heap) (tk : Nat) (acc : Array Value), (∀ b o, b ≠ it → s.heap.get? b = some o → h'.get? b = some o) → ItemsOf (fun i v => items[items.size - 1 - i]? = some v) acc items.size →
      Q (.ref h'.objs.size) { s with heap := h'.push { cls := .type "tuple", data := .seq acc }, toks := tk }) :
    wpAny (model prog w) A (call (.type "tuple") [.ref it]) Q E s := by
  refine callType_codes (Q₁ := fun obj s₁ => s₁.TypeIs obj "tuple" ∧ Q obj s₁) F.called_tuple (F.typeCall_tuple_1 _) F.entry_object_init
    (code_tuple_new_rt (A := A.in1) hh hit hl hne hn fun h' tk acc hk hacc => ⟨⟨_, Heap.get?_push_size _ rfl, rfl⟩, hQ h' tk acc hk hacc⟩) fun obj s₁ h₁ => ?_
  exact ⟨h₁.1, F.args_object_init_2 obj _, object_init_meets F.called_tuple.init.lookup F.called_tuple.made (by decide) prog w A.in1 _ s₁ ⟨h₁.1, rfl, h₁.2⟩⟩
end
section
open L2
variable {X : Cx}
/-- tuple(reversed(x)), x a list or a tuple -/
def tTupRevA (K : PySem.W.Frag) (te : TE) : TE := fun σ H Q => te σ H fun v H1 => ∃ (a : Addr) (xs : List V), v = .ref a ∧ (SqL K H1 a xs ∨ SqT K H1 a xs) ∧ ∀ q, H1 q = none → Q (.ref q) (upd H1 q (.tup xs.reverse))
theorem pe_tupRevA {e : Expr} {te : TE} {p p2 pos pos2 : Pos} (hc : X.calm = true) (hg : Gl X "tuple") (hm : X.mg "tuple" = none) (hg2 : Gl X "reversed") (hm2 : X.mg "reversed" = none) (he : PE X e te)
    (hs : starEach [e] X.env = (false, eval e X.env) :: starEach [] X.env := by rfl)
    (hs2 : starEach [.Call (.Name "reversed" p2) [e] [] pos2] X.env = (false, eval (.Call (.Name "reversed" p2) [e] [] pos2) X.env) :: starEach [] X.env := by rfl) :
    PE X (.Call (.Name "tuple" p) [.Call (.Name "reversed" p2) [e] [] pos2] [] pos) (tTupRevA X.K te) := by
  refine ⟨fun pins s σ H Q I h => ?_⟩
  refine Call_ (ld_blt I hg hm boot_tuple (PyProof.Rows.callWith_type1 (args_cons (Call_ (ld_blt I hg2 hm2 PyProof.Rows.boot_reversed (PyProof.Rows.callWith_type1 (args_cons (thn (he.run pins s σ H _ I h) fun u s1 ⟨v, H1, I1, r1, q1⟩ => args_nil ?_) hs) hs rfl))) hs2) hs2 rfl))
  obtain ⟨a, xs, ev, hq, q⟩ := q1
  subst ev
  obtain rfl : u = Value.ref a := r1
  rcases hq with hq | hq
  · obtain ⟨its, rv, p', hz⟩ := I1.list hq
    refine call_reversed_list p'.isList (args_nil ?_)
    have k0 : ∀ b o, s1.heap.get? b = some o → (s1.heap.push (revObj a ((its.toArray.size : Int) - 1))).get? b = some o := fun b o e => Heap.get?_push_of_some _ e
    have I2 : Inv X pins σ H1 { s1 with heap := s1.heap.push (revObj a ((its.toArray.size : Int) - 1)) } := I1.kept (t' := s1.toks) k0
    obtain ⟨f0, f1, f2, f3, f4, f5⟩ := I1.fpOk (H' := H1) (b := s1.heap.objs.size) (Nat.le_refl _) (I1.hok.fresh (Nat.le_refl _))
    have hl := p'.isList
    obtain ⟨ol, hol, _⟩ := id hl
    have hne : a ≠ s1.heap.objs.size := Nat.ne_of_lt (Heap.lt_size hol)
    have hn : its.toArray.size ≤ sizeLine := by rw [List.size_toArray, ← rv.length]; exact hz
    refine call_tuple_rev (s := { s1 with heap := s1.heap.push (revObj a ((its.toArray.size : Int) - 1)) }) (I1.ok.hd hc) ⟨_, Heap.get?_push_size _ rfl, rfl, rfl⟩ (hl.push _) hne hn fun h' tk acc hk hi => ?_
    have I3 : Inv X pins σ H1 { s1 with heap := h', toks := tk } := I2.turned (t' := tk) (fun b o hb e => hk b o hb e) f0 f1 f3 f4 f5
    refine ⟨.ref h'.objs.size, upd H1 h'.objs.size (.tup xs.reverse), I3.laid (t' := tk) (fun c o e => Heap.get?_push_of_some _ e) (Nat.le_refl _) (show ObjOk X.prog X.w _ _ _ (.tup xs.reverse) from ⟨by rw [List.length_reverse]; exact hz, acc.toList, vals_rev rv hi, ?_⟩), rfl, q _ (I3.hok.fresh (Nat.le_refl _))⟩
    rw [Array.toArray_toList]
    exact IsTup.new _ _
  · obtain ⟨its, rv, p', hz⟩ := I1.tuple hq
    have hn : its.toArray.size ≤ sizeLine := by rw [List.size_toArray, ← rv.length]; exact hz
    have hn2 := hn
    rw [sizeLine_eq] at hn2
    refine call_reversed_tup p' (fun A E Q k => len_tuple p' (by omega) k) (args_nil ?_)
    have k0 : ∀ b o, s1.heap.get? b = some o → (s1.heap.push (rtObj a ((its.toArray.size : Int) - 1))).get? b = some o := fun b o e => Heap.get?_push_of_some _ e
    have I2 : Inv X pins σ H1 { s1 with heap := s1.heap.push (rtObj a ((its.toArray.size : Int) - 1)), toks := s1.toks + 1 + 1 } := I1.kept (t' := s1.toks + 1 + 1) k0
    obtain ⟨f0, f1, f2, f3, f4, f5⟩ := I1.fpOk (H' := H1) (b := s1.heap.objs.size) (Nat.le_refl _) (I1.hok.fresh (Nat.le_refl _))
    obtain ⟨ol, hol, r0⟩ := id p'
    have hne : a ≠ s1.heap.objs.size := Nat.ne_of_lt (Heap.lt_size hol)
    refine call_tuple_rt (s := { s1 with heap := s1.heap.push (rtObj a ((its.toArray.size : Int) - 1)), toks := s1.toks + 1 + 1 }) (I1.ok.hd hc) ⟨_, Heap.get?_push_size _ rfl, rfl, rfl⟩ ⟨ol, Heap.get?_push_of_some _ hol, r0⟩ hne hn fun h' tk acc hk hi => ?_
    have I3 : Inv X pins σ H1 { s1 with heap := h', toks := tk } := I2.turned (t' := tk) (fun b o hb e => hk b o hb e) f0 f1 f3 f4 f5
    refine ⟨.ref h'.objs.size, upd H1 h'.objs.size (.tup xs.reverse), I3.laid (t' := tk) (fun c o e => Heap.get?_push_of_some _ e) (Nat.le_refl _) (show ObjOk X.prog X.w _ _ _ (.tup xs.reverse) from ⟨by rw [List.length_reverse]; exact hz, acc.toList, vals_rev rv hi, ?_⟩), rfl, q _ (I3.hok.fresh (Nat.le_refl _))⟩
    rw [Array.toArray_toList]
    exact IsTup.new _ _
end
end LMR
namespace LM
open PySem L2
/-- tuple(reversed(x)), x a list or a tuple -/
def vTupRevA (x : DV) : M DV := fun h => match asS h x with
  | some l => .ok (.tup l.reverse) h
  | none => .bad
theorem c_tupRevA {X : Cx} {c : Cn} {pos p1 p2 pos2 : Pos} {a : Expr} {ma : En → M DV} (hk : X.K = c.g.K) (hc : X.calm = true) (hg : Gl X "tuple") (hm : X.mg "tuple" = none) (hg2 : Gl X "reversed") (hm2 : X.mg "reversed" = none) (ha : PE X a (RB c ma)) (hs : starEach [a] X.env = (false, eval a X.env) :: starEach [] X.env := by rfl)
    (hs2 : starEach [.Call (.Name "reversed" p2) [a] [] pos2] X.env = (false, eval (.Call (.Name "reversed" p2) [a] [] pos2) X.env) :: starEach [] X.env := by rfl) :
    PE X (.Call (.Name "tuple" p1) [.Call (.Name "reversed" p2) [a] [] pos2] [] pos) (RE c (e1 vTupRevA ma)) := pe_imp (LMR.pe_tupRevA hc hg hm hg2 hm2 ha hs hs2) fun s H Q q =>
  RX.bind q fun W e W1 H1 x v h1 t S rx q2 => by
    unfold vTupRevA at q2
    cases z : asS h1 x with
    | none =>
      rw [z] at q2
      exact q2.elim
    | some l =>
      rw [z] at q2
      obtain ⟨p, vs, e1, sq, r⟩ := asS_ok S rx z
      exact ⟨p, vs, e1, hk ▸ sq, fun d hd => post_tup q2 S r.rev hd⟩
@[simp] theorem vTupRevA_tup (l : List DV) (h : HP) : vTupRevA (.tup l) h = .ok (.tup l.reverse) h := rfl
@[simp] theorem vTupRevA_lst (l : List DV) (h : HP) : vTupRevA (.lst l) h = .ok (.tup l.reverse) h := rfl
end LM

/-! Instances: what they are, their fields read and stored. -/
namespace LM
open PySem L2

/-- an instance's class and fields, frozen or not -/
def clsO (h : HP) (x : DV) : Option (Nat × List DV) := match x with
  | .obj c l => some (c, l)
  | .ref p => (match h[p]? with
    | some (.obj c l) => some (c, l)
    | _ => none)
  | _ => none
theorem obj_at {g : Glue} {W : Wd} {h : HP} {H : Hp} {o : DV} {v : V} {c : Nat} {l : List DV} (S : HSim g W h H) (r : Rep g W H o v) (e : clsO h o = some (c, l)) :
    ∃ a dx vs, v = .ref a ∧ H a = some (.ins (g.cA c) dx ((g.flds c).zip vs)) ∧ vs.length ≤ (g.flds c).length ∧ Reps g W H l vs := by
  cases o with
  | obj c' l' =>
    cases e
    simp only [Rep] at r
    obtain ⟨a, dx, vs, e1, _, e2, e3, r⟩ := r
    exact ⟨a, dx, vs, e1, e2, e3, r⟩
  | ref p =>
    simp only [Rep] at r
    obtain ⟨a, e1, e2⟩ := r
    unfold clsO at e
    simp only [] at e
    cases z : h[p]? with
    | none =>
      rw [z] at e
      cases e
    | some ob =>
      rw [z] at e
      cases ob with
      | lst l => cases e
      | obj c' l' =>
        cases e
        obtain ⟨⟨dx, vs, e3, e4, r⟩, _⟩ := S.o p _ a z e2
        exact ⟨a, dx, vs, e1, e3, e4, r⟩
  | _ => cases e
theorem zip_lookup : ∀ {L : List Str} {vs : List V} {j : Nat} {f : Str} {v : V}, L.Nodup → L[j]? = some f → vs[j]? = some v → (L.zip vs).lookup f = some v
  | [], _, _, _, _, _, e, _ => by simp at e
  | x :: L, [], _, _, _, _, _, e => by simp at e
  | x :: L, y :: vs, 0, f, v, _, e1, e2 => by
    cases e1
    cases e2
    simp [List.lookup]
  | x :: L, y :: vs, j + 1, f, v, nd, e1, e2 => by
    rw [List.nodup_cons] at nd
    have e1' : L[j]? = some f := by simpa using e1
    have ne : (f == x) = false := beq_eq_false_iff_ne.mpr fun z => nd.1 (z ▸ List.mem_of_getElem? e1')
    rw [List.zip_cons_cons]
    simp only [List.lookup, ne]
    exact zip_lookup nd.2 e1' (by simpa using e2)
theorem zip_none : ∀ {L : List Str} {vs : List V} {f : Str}, f ∉ L → (L.zip vs).lookup f = none
  | [], _, _, _ => by simp
  | x :: L, [], _, _ => by simp
  | x :: L, y :: vs, f, n => by
    have ne : (f == x) = false := beq_eq_false_iff_ne.mpr fun z => n (z ▸ List.mem_cons_self)
    rw [List.zip_cons_cons]
    simp only [List.lookup, ne]
    exact zip_none fun z => n (List.mem_cons_of_mem _ z)
theorem zip_put : ∀ {L : List Str} {vs : List V} {j : Nat} {f : Str} {v : V}, L.Nodup → L[j]? = some f → j < vs.length → putF f v (L.zip vs) = L.zip (vs.set j v)
  | [], _, _, _, _, _, e, _ => by simp at e
  | x :: L, [], _, _, _, _, _, e => by simp at e
  | x :: L, y :: vs, 0, f, v, _, e1, _ => by
    cases e1
    simp [putF]
  | x :: L, y :: vs, j + 1, f, v, nd, e1, hj => by
    rw [List.nodup_cons] at nd
    have e1' : L[j]? = some f := by simpa using e1
    have ne : ¬ x = f := fun z => nd.1 (z ▸ List.mem_of_getElem? e1')
    rw [List.zip_cons_cons, List.set_cons_succ, List.zip_cons_cons]
    show (if x = f then (x, v) :: L.zip vs else (x, y) :: putF f v (L.zip vs)) = _
    rw [if_neg ne, zip_put nd.2 e1' (by simpa using hj)]

/-- what is known of class c's field f, number j -/
structure FldOk (T : Tp) (f : Str) (c j : Nat) : Prop where
  cl : Cls T.g.K (T.g.cA c)
  na : NoAttr T.g.K (T.g.cA c) f
  nd : (T.g.flds c).Nodup
  at_ : (T.g.flds c)[j]? = some f
  few : (T.g.flds c).length < 900
def FldL (T : Tp) (f : Str) (tab : List (Nat × Nat)) : Prop := ∀ c j, (c, j) ∈ tab → FldOk T f c j
theorem fldL_nil {T : Tp} {f : Str} : FldL T f [] := fun _ _ h => by cases h
theorem fldL_cons {T : Tp} {f : Str} {c j : Nat} {tab : List (Nat × Nat)} (a : FldOk T f c j) (b : FldL T f tab) : FldL T f ((c, j) :: tab) := fun c' j' h => by
  rcases List.mem_cons.mp h with e | e
  · cases e
    exact a
  · exact b _ _ e
theorem mem_of_lookup2 : ∀ {l : List (Nat × Nat)} {c j : Nat}, l.lookup c = some j → (c, j) ∈ l
  | [], _, _, e => by cases e
  | (a, b) :: r, c, j, e => by
    by_cases h : c = a
    · subst h
      simp [List.lookup] at e
      subst e
      exact List.mem_cons_self
    · have ne : (c == a) = false := beq_eq_false_iff_ne.mpr h
      simp only [List.lookup, ne] at e
      exact List.mem_cons_of_mem _ (mem_of_lookup2 e)
/-- e.f -/
def fldO (tab : List (Nat × Nat)) (o : Option (Nat × List DV)) : Option DV := match o with
  | some (c, l) => (match tab.lookup c with
    | some j => l[j]?
    | none => none)
  | none => none
def vFld (tab : List (Nat × Nat)) (x : DV) : M DV := fun h => match fldO tab (clsO h x) with
  | some d => .ok d h
  | none => .bad
section
variable {T : Tp} {X : Cx} {c : Cn} {N : List Str} {k : Nat} {sc : Scope} {pos pos' : Pos} {ex o : Expr} {f : Str} {tab : List (Nat × Nat)} {ma mo mv : En → M DV}
theorem c_fld (hX : XEx T X c N k sc) (F : FldL T f tab) (ha : PE X ex (RE c ma)) (hb : attributeBase ex f X.env (eval ex X.env) = eval ex X.env := by rfl) : PE X (.Attribute ex f pos) (RE c (e1 (vFld tab) ma)) := pe_imp (pe_fld ha hb) fun s H Q q => by
  refine RX.bind q fun W e W1 H1 o v h1 t S r q2 => ?_
  unfold vFld at q2
  cases z : clsO h1 o with
  | none =>
    rw [z] at q2
    exact q2.elim
  | some y =>
    obtain ⟨ci, l⟩ := y
    rw [z] at q2
    unfold fldO at q2
    simp only [] at q2
    cases z2 : tab.lookup ci with
    | none =>
      rw [z2] at q2
      exact q2.elim
    | some j =>
      rw [z2] at q2
      simp only [] at q2
      cases z3 : l[j]? with
      | none =>
        rw [z3] at q2
        exact q2.elim
      | some d =>
        rw [z3] at q2
        obtain ⟨a, dx, vs, e1, e2, e3, rs⟩ := obj_at S.hs r z
        obtain ⟨u, eu, ru⟩ := rs.get z3
        have fo := F ci j (mem_of_lookup2 z2)
        rw [hX.pg] at e2
        refine ⟨a, _, dx, _, u, e1, e2, by rw [hX.pk]; exact fo.cl, by rw [hX.pk]; exact fo.na, zip_lookup fo.nd fo.at_ eu, q2.ret S ru⟩
/-! ### o.f = e, o an object that is not frozen -/
def setF (tab : List (Nat × Nat)) (h : HP) (o d : DV) : Option HP := match o with
  | .ref p => (match h[p]? with
    | some (.obj c l) => (match tab.lookup c with
      | some j => if j < l.length then some (h.set p (.obj c (l.set j d))) else none
      | none => none)
    | _ => none)
  | _ => none
def sSetF (tab : List (Nat × Nat)) (mv mo : En → M DV) : Stm := sBind mv fun d => sBind mo fun o e h => hNx (setF tab h o d) e
theorem s_setF (hX : XEx T X c N k sc) (F : FldL T f tab) (ho : PE X o (RE c mo)) (hv : PE X ex (RE c mv)) (hs : swapsWith ex (some (.Attribute o f pos')) pos.line X.env = pure false := by rfl) : PS X (.Assign [.Attribute o f pos'] ex pos) (RS c (sSetF tab mv mo)) :=
  ps_imp (ps_fld ho hv hs) fun D s H q => by
    refine sb_use q fun W e W1 H1 d v h1 t S r q1 => ?_
    refine ⟨W1, e, h1, S, sb_at (R := rV c) S q1 fun W2 H2 od w h2 t2 S2 ro q2 => ?_⟩
    unfold setF at q2
    cases od with
    | ref p =>
      simp only [] at q2
      cases z : h2[p]? with
      | none =>
        rw [z] at q2
        exact q2.elim
      | some ob =>
        rw [z] at q2
        cases ob with
        | lst l => exact q2.elim
        | obj ci l =>
          simp only [] at q2
          cases z2 : tab.lookup ci with
          | none =>
            rw [z2] at q2
            exact q2.elim
          | some j =>
            rw [z2] at q2
            simp only [] at q2
            by_cases hj : j < l.length
            rotate_left
            · rw [if_neg hj] at q2
              exact q2.elim
            rw [if_pos hj] at q2
            simp only [Rep] at ro
            obtain ⟨a, ea, er⟩ := ro
            obtain ⟨⟨dx, vs, e3, e4, rs⟩, nf⟩ := S2.hs.o p _ a z er
            have fo := F ci j (mem_of_lookup2 z2)
            have hlen := rs.len
            have e3' := e3
            rw [hX.pg] at e3'
            have fl : ((T.g.flds ci).zip vs).length < 1000 := by
              rw [List.length_zip]
              have := fo.few
              omega
            refine ⟨a, _, dx, _, ea, e3', by rw [hX.pk]; exact fo.cl, by rw [hX.pk]; exact fo.na, fl, ?_⟩
            rw [zip_put fo.nd fo.at_ (by omega)]
            have r2 : Rep c.g W2 H2 d v := r.per (t2.per S.hs) _ _
            obtain ⟨st, hs⟩ := S2.hs.write (o' := .obj ci (l.set j d)) (u' := .ins (c.g.cA ci) dx ((c.g.flds ci).zip (vs.set j v))) z er e3 fun pr => ⟨dx, vs.set j v, upd_same, by rw [List.length_set]; exact e4, (rs.per pr _ _).set (Rep.per pr _ _ r2) j⟩
            have q3 : PostS c W2 H2 (.nx e (h2.set p (.obj ci (l.set j d)))) D := q2
            rw [← hX.pg]
            exact (q3.later (st.per S2.hs)).nx (S2.step st hs)
    | _ => exact q2.elim
end
end LM

/-! Methods called. -/
namespace LM
open PySem L2

/-- what is known of class c's method m; n: its parameters, self among them -/
structure MethOk (T : Tp) (m : Str) (c k n : Nat) (f : List DV → M DV) : Prop where
  cl : Cls T.g.K (T.g.cA c)
  nf : m ∉ T.g.flds c
  ex : ∃ a fd ps, Meth T.g.K (T.g.cA c) m a ∧ Binds T.g.K fd ps [] ∧ FnOk T.P T.w T.g.K T.mg T.base (L2N.CX T.P T.w) k a fd ps (spF T.g n f)
theorem MethOk.mono {T : Tp} {m : Str} {c j k n : Nat} {f : List DV → M DV} (F : MethOk T m c j n f) (h : j ≤ k) : MethOk T m c k n f := by
  obtain ⟨a, fd, ps, e, b, f⟩ := F.ex
  exact ⟨F.cl, F.nf, a, fd, ps, e, b, f.mono h⟩
def MoL (T : Tp) (m : Str) (k n : Nat) (ms : Fns) : Prop := ∀ c f, (c, f) ∈ ms → MethOk T m c k n f
theorem moL_nil {T : Tp} {m : Str} {k n : Nat} : MoL T m k n [] := fun _ _ h => by cases h
theorem moL_cons {T : Tp} {m : Str} {j k n c : Nat} {f : List DV → M DV} {ms : Fns} (F : MethOk T m c j n f) (hj : j ≤ k) (L : MoL T m k n ms) : MoL T m k n ((c, f) :: ms) := fun c' f' h => by
  rcases List.mem_cons.mp h with e | e
  · cases e
    exact F.mono hj
  · exact L _ _ e
def mthO (ms : Fns) (h : HP) (o : DV) : Option (List DV → M DV) := match clsO h o with
  | some (c, _) => ms.lookup c
  | none => none
def orM (f : Option (List DV → M DV)) (o : DV) (ma : M (List DV)) : M DV := match f with
  | some m => ma >>= fun l => m (o :: l)
  | none => M.bad
/-- o.m(e, ..) -/
def eMeth (ms : Fns) (mo : En → M DV) (ma : En → M (List DV)) : En → M DV := fun e => mo e >>= fun o h => orM (mthO ms h o) o (ma e) h
section
variable {T : Tp} {X : Cx} {c : Cn} {N : List Str} {k : Nat} {sc : Scope} {pos apos : Pos} {ex o : Expr} {es : List Expr} {m : Str} {n : Nat} {ms : Fns} {mo : En → M DV} {ma : En → M (List DV)}
theorem meth_args {W1 : Wd} {e : En} {h1 : HP} {s : L2.St} {H1 : Hp} {od : DV} {v : V} {f : List DV → M DV} {Q : VK} (S : Sim c W1 e h1 s H1) (ro : Rep c.g W1 H1 od v) (q : Post c (rV c H1) e s W1 H1 ((ma e >>= fun l => f (od :: l)) h1) Q) :
    RX c (rVs c n) ma s H1 fun vs H2 => spF c.g (n + 1) f ((v :: vs) ++ []) H2 Q (WE c.x s) :=
  ⟨W1, e, h1, S, q.bind fun W2 H2 ds vs h2 t2 S2 r q3 => by
    rw [List.append_nil]
    refine ⟨W2, h2, od :: ds, S2.hs, Reps.cons (ro.per (t2.per S.hs) _ _) r.1, by rw [List.length_cons, r.2], ?_⟩
    generalize f (od :: ds) h2 = z at q3 ⊢
    cases z with
    | ok d h' => exact fun W' H' u t' hs' r' => q3 W' H' u t' (S2.step t' hs') r'
    | exc x h' => exact fun W' H' cls dd t' hs' r' => q3 W' H' cls dd t' (S2.step t' hs') r'
    | bad => exact q3⟩
theorem meth_use {s : L2.St} {H : Hp} {Q : VK} (hX : XEx T X c N k sc) (L : MoL T m k (n + 1) ms) (q : RE c (eMeth ms mo ma) s H Q) : RX c (rV c) mo s H fun y H1 => ∃ a C dx fs g fd ps f, y = V.ref a ∧ H1 a = some (.ins C dx fs) ∧ Cls X.K C ∧ Meth X.K C m g ∧ fs.lookup m = none ∧ Binds X.K fd ps [] ∧
    FnOk X.prog X.w X.K X.mg X.base (L2N.CX X.prog X.w) k g fd ps (spF c.g (n + 1) f) ∧ RX c (rVs c n) ma s H1 fun vs H2 => spF c.g (n + 1) f ((y :: vs) ++ []) H2 Q (WE c.x s) := by
  refine RX.bind (k := fun e o h => orM (mthO ms h o) o (ma e) h) q fun W e W1 H1 od v h1 t S r q2 => ?_
  unfold orM mthO at q2
  cases z : clsO h1 od with
  | none =>
    rw [z] at q2
    exact q2.elim
  | some y =>
    obtain ⟨ci, l⟩ := y
    rw [z] at q2
    simp only [] at q2
    cases z2 : ms.lookup ci with
    | none =>
      rw [z2] at q2
      exact q2.elim
    | some f =>
      rw [z2] at q2
      obtain ⟨a, dx, vs, e1, e2, e3, rs⟩ := obj_at S.hs r z
      have fo := L ci f (mem_of_lookupN z2)
      obtain ⟨g, fd, ps, em, b, fo2⟩ := fo.ex
      rw [hX.pg] at e2
      refine ⟨a, _, dx, _, g, fd, ps, f, e1, e2, by rw [hX.pk]; exact fo.cl, by rw [hX.pk]; exact em, zip_none fo.nf, by rw [hX.pk]; exact b, by rw [hX.pp, hX.pw, hX.pk, hX.pm, hX.pb, hX.pg]; exact fo2, meth_args S r q2⟩
theorem c_meth {pl : Sem Bool} (hX : XEx T X c N k sc) (L : MoL T m k (n + 1) ms) (ho : PE X o (RE c mo)) (ha : PA X (ex :: es) (RA c n ma))
    (hst : starEach (ex :: es) X.env = (false, eval ex X.env) :: starEach es X.env := by rfl) (hpl : (backTo pos (starEach es X.env)).any (·.1) = false := by rfl)
    (ht : eval (.Call (.Attribute o m apos) (ex :: es) [] pos) X.env = (do
      let ov ← eval o X.env
      standAt apos.atName
      let (f, first) ← holding [ov] (getMethod ov m pl)
      callWith pos f first (backTo pos (starEach (ex :: es) X.env)) (backToKw pos (keywordEach [] X.env))) := by rfl) :
    PE X (.Call (.Attribute o m apos) (ex :: es) [] pos) (RE c (eMeth ms mo ma)) := by
  refine ⟨fun pins s σ H Q I q => ?_⟩
  refine PySem.W.methodCall_KW (pl := pl) (thn (ho.run pins s σ H _ I (meth_use (n := n) hX L q)) fun u s1 ⟨y, H1, I1, ry, a, C, dx, fs, g, fd, ps, f, ey, ea, cl, em, lk, b, fo, q2⟩ => ?_) ht
  subst ey
  obtain rfl : u = Value.ref a := ry
  refine getmeth_ok I1 ea cl em lk ?_
  refine PySem.W.callWith_K (first := [.ref a]) (h₀ := X.base) I.ok.mod.kin em.kp (thn (ha.run pos pins s1 σ H1 _ I1 q2) fun us s2 ⟨vs, H2, I2, r, q3⟩ => ⟨I2.kIn, ?_⟩) hst hpl
  exact run_fnSD (us := .ref a :: us) (vs := .ref a :: vs) fo hX.room b .nil (L2N.passAt hX.tk σ) I2 (.cons rfl r) q3
theorem c_meth0 {pl : Sem Bool} (hX : XEx T X c N k sc) (L : MoL T m k 1 ms) (ho : PE X o (RE c mo))
    (ht : eval (.Call (.Attribute o m apos) [] [] pos) X.env = (do
      let ov ← eval o X.env
      standAt apos.atName
      let (f, first) ← holding [ov] (getMethod ov m pl)
      callWith pos f first (backTo pos (starEach [] X.env)) (backToKw pos (keywordEach [] X.env))) := by rfl) :
    PE X (.Call (.Attribute o m apos) [] [] pos) (RE c (eMeth ms mo aNil)) := by
  refine ⟨fun pins s σ H Q I q => ?_⟩
  refine PySem.W.methodCall_KW (pl := pl) (thn (ho.run pins s σ H _ I (meth_use (n := 0) hX L q)) fun u s1 ⟨y, H1, I1, ry, a, C, dx, fs, g, fd, ps, f, ey, ea, cl, em, lk, b, fo, q2⟩ => ?_) ht
  subst ey
  obtain rfl : u = Value.ref a := ry
  refine getmeth_ok I1 ea cl em lk ?_
  have q3 : spF c.g 1 f ([V.ref a] ++ []) H1 Q (WE c.x σ) := by
    have pn : PA X [] (RA c 0 aNil) := c_nil
    obtain ⟨W, e, h, S, q4⟩ := q2
    exact q4 W H1 [] (Step.refl _ _) S ⟨.nil, rfl⟩
  exact PySem.W.callWith_K0 (first := [.ref a]) I1.kIn em.kp (run_fnSD (us := [.ref a]) (vs := [.ref a]) fo hX.room b .nil (L2N.passAt hX.tk σ) I1 (.cons rfl .nil) q3)
end
@[simp] theorem eMeth_app (ms : Fns) (mo : En → M DV) (ma : En → M (List DV)) (e : En) (h : HP) : eMeth ms mo ma e h = bR (mo e h) fun o h => orM (mthO ms h o) o (ma e) h := rfl
theorem orM_some (m : List DV → M DV) (o : DV) (ma : M (List DV)) (h : HP) : orM (some m) o ma h = bR (ma h) fun l h => m (o :: l) h := rfl
theorem mthO_obj (ms : Fns) (h : HP) (c : Nat) (l : List DV) : LM.mthO ms h (.obj c l) = ms.lookup c := rfl
end LM

/-! Instances made: __init__. -/
namespace LM
open PySem L2

/-- self, under construction at a -/
structure CSelf (c : Cn) (a C dx : Addr) (fs : List (Str × V)) : Prop where
  cur : c.cur = some (a, .ref (c.g.cA 0), none)
  at_ : c.H0 a = some (.ins C dx fs)
  nr : a ∉ c.W0.r
  nf : ¬ c.W0.F a
section
variable {c : Cn} {a C dx : Addr} {fs : List (Str × V)} {W : Wd} {e : En} {h : HP} {s : L2.St} {H : Hp}
theorem CSelf.now (K : CSelf c a C dx fs) (S : Sim c W e h s H) : H a = some (.ins C dx fs) ∧ a ∉ W.r ∧ ¬ W.F a := by
  refine ⟨S.st.k a _ K.at_ K.nr, fun m => ?_, fun f => ?_⟩
  · rcases S.st.nr a m with q | q
    · exact K.nr q
    · rw [K.at_] at q
      cases q
  · rcases S.st.nf a f with q | q | ⟨_, _, q⟩
    · exact K.nf q
    · rw [K.at_] at q
      cases q
    · rw [K.at_] at q
      cases q
/-- self's fields are others -/
theorem self_per {fs' : List (Str × V)} (ha : H a = some (.ins C dx fs)) (nf : ¬ W.F a) : Per W H W (upd H a (.ins C dx fs')) := by
  have ne : ∀ b u, H b = some u → (∀ C x fs, u ≠ .ins C x fs) → b ≠ a := fun b u eb nu z => by
    rw [z, ha] at eb
    cases eb
    exact nu _ _ _ rfl
  exact ⟨fun _ f => f, fun _ _ e => e, fun b fb => by rw [upd_ne (show b ≠ a from fun z => nf (z ▸ fb))], fun b xs eb => by
    rw [upd_ne (ne b _ eb fun _ _ _ z => by cases z)]
    exact eb, fun b o u eb => by
    rw [upd_ne (ne b _ eb fun _ _ _ z => by cases z)]
    exact eb⟩
theorem self_hs {g : Glue} {fs' : List (Str × V)} (S : HSim g W h H) (ha : H a = some (.ins C dx fs)) (nf : ¬ W.F a) (nr : a ∉ W.r) : HSim g W h (upd H a (.ins C dx fs')) := by
  have pr := self_per (fs' := fs') ha nf
  refine ⟨S.len, S.nd, fun p o b e1 e2 => ?_, fun b fb => ?_⟩
  · obtain ⟨r, n⟩ := S.o p o b e1 e2
    have hne : b ≠ a := fun z => nr (z ▸ List.mem_of_getElem? e2)
    refine ⟨?_, n⟩
    cases o with
    | lst l =>
      obtain ⟨vs, e3, r3⟩ := r
      exact ⟨vs, by rw [upd_ne hne]; exact e3, r3.per pr _ _⟩
    | obj k l =>
      obtain ⟨dx, vs, e3, e4, r3⟩ := r
      exact ⟨dx, vs, by rw [upd_ne hne]; exact e3, e4, r3.per pr _ _⟩
  · obtain ⟨w, q⟩ := S.fs b fb
    exact ⟨w, by rw [upd_ne (show b ≠ a from fun z => nf (z ▸ fb))]; exact q⟩
theorem Sim.reself (K : CSelf c a C dx fs) (S : Sim c W e h s H) (fs' : List (Str × V)) : Sim { c with H0 := upd c.H0 a (.ins C dx fs') } W e h s (upd H a (.ins C dx fs')) ∧ CSelf { c with H0 := upd c.H0 a (.ins C dx fs') } a C dx fs' := by
  obtain ⟨ha, nr, nf⟩ := K.now S
  have pr := self_per (fs' := fs') ha nf
  have hnone : ∀ b, c.H0 b = none → (upd c.H0 a (.ins C dx fs')) b = none := fun b q => by
    rw [upd_ne (ne_of_none K.at_ q).symm]
    exact q
  refine ⟨⟨self_hs S.hs ha nf nr, ?_, S.len, fun i d e1 => ?_, fun i l e1 => ?_, fun i ks l e1 => ?_, S.ne, fun i x e1 => ?_⟩, K.cur, upd_same, K.nr, K.nf⟩
  · refine ⟨S.st.f, S.st.r, fun b o q n => ?_, fun b q => ?_, fun b f => ?_, fun b m => ?_⟩
    · by_cases z : b = a
      · subst z
        have q : (upd c.H0 b (.ins C dx fs')) b = some o := q
        rw [upd_same] at q ⊢
        exact q
      · have q : (upd c.H0 a (.ins C dx fs')) b = some o := q
        rw [upd_ne z] at q ⊢
        exact S.st.k b o q n
    · show (upd c.H0 a (.ins C dx fs')) b = none
      by_cases z : b = a
      · rw [z, upd_same] at q
        cases q
      · rw [upd_ne z] at q ⊢
        exact S.st.th b q
    · rcases S.st.nf b f with q | q | ⟨q1, fs2, q2⟩
      · exact .inl q
      · exact .inr (.inl (hnone b q))
      · refine .inr (.inr ⟨q1, fs2, ?_⟩)
        show (upd c.H0 a (.ins C dx fs')) b = _
        rw [upd_ne fun z => by
          rw [z, K.at_] at q2
          cases q2]
        exact q2
    · rcases S.st.nr b m with q | q
      · exact .inl q
      · exact .inr (hnone b q)
  · obtain ⟨v, e2, r⟩ := S.val i d e1
    exact ⟨v, e2, r.per pr _ _⟩
  · obtain ⟨b, vs, e2, e3, r, n1, n2, n3⟩ := S.own i l e1
    exact ⟨b, vs, e2, by
      rw [upd_ne fun z => by
        rw [z, ha] at e3
        cases e3]
      exact e3, r.per pr _ _, n1, n2, hnone b n3⟩
  · obtain ⟨b, vs, e2, e3, l1, r, n1, n2, n3⟩ := S.dic i ks l e1
    exact ⟨b, vs, e2, by
      rw [upd_ne fun z => by
        rw [z, ha] at e3
        cases e3]
      exact e3, l1, r.per pr _ _, n1, n2, hnone b n3⟩
  · obtain ⟨b, cls, dd, e2, e3, r⟩ := S.exn i x e1
    exact ⟨b, cls, dd, e2, e3, r.per pr⟩
end
theorem putF_new : ∀ {f : Str} {v : V} {fs : List (Str × V)}, fs.lookup f = none → putF f v fs = fs ++ [(f, v)]
  | _, _, [], _ => rfl
  | f, v, (g, x) :: r, e => by
    by_cases z : f = g
    · subst z
      simp [List.lookup] at e
    · have ne : (f == g) = false := beq_eq_false_iff_ne.mpr z
      simp only [List.lookup, ne] at e
      show (if g = f then (g, v) :: r else (g, x) :: putF f v r) = _
      rw [if_neg fun y => z y.symm, putF_new e]
      rfl
theorem lookup_new : ∀ {f g : Str} {v : V} {fs : List (Str × V)}, fs.lookup f = none → f ≠ g → (fs ++ [(g, v)]).lookup f = none
  | f, g, v, [], _, n => by
    have ne : (f == g) = false := beq_eq_false_iff_ne.mpr n
    simp [List.lookup, ne]
  | f, g, v, (k, x) :: r, e, n => by
    by_cases z : f = k
    · subst z
      simp [List.lookup] at e
    · have ne : (f == k) = false := beq_eq_false_iff_ne.mpr z
      rw [List.cons_append]
      simp only [List.lookup, ne] at e ⊢
      exact lookup_new e n

/-- the names may be made fields of an instance of the class at C -/
structure MayF (K : PySem.W.Frag) (C : Addr) (fs : List (Str × V)) (names : List Str) : Prop where
  cl : Cls K C
  na : ∀ f ∈ names, NoAttr K C f ∧ fs.lookup f = none
  nd : names.Nodup
  few : fs.length + names.length ≤ 900
def PostI (c c0 : Cn) (W : Wd) (H : Hp) (a C dx : Addr) (fs : List (Str × V)) (names : List Str) (l : List DV) (h' : HP) (D : Ends) : Prop :=
  ∀ W' s' H' us, Step c.W0 (upd c.H0 a (.ins C dx (fs ++ names.zip us))) W' H' → Per W H W' H' → HSim c0.g W' h' H' → Reps c0.g W' H' l us → H' a = some (.ins C dx (fs ++ names.zip us)) → us.length = names.length → D.nx s' H'
/-- the tail of an __init__: self.f = e, .. -/
def RIt (c0 : Cn) (names : List Str) (m : En → M (List DV)) : TS := fun D s H => ∃ c W e h a C dx fs, c.g = c0.g ∧ c.x = c0.x ∧ Sim c W e h s H ∧ CSelf c a C dx fs ∧ MayF c0.g.K C fs names ∧ (match m e h with
  | .ok l h' => PostI c c0 W H a C dx fs names l h' D
  | _ => False)
def isSelf (e : En) : Bool := match (e[0]? : Option Slot) with
  | some (.exn _) => true
  | _ => false
theorem self_at {c : Cn} {a C dx : Addr} {fs : List (Str × V)} {W : Wd} {e : En} {h : HP} {s : L2.St} {H : Hp} (K : CSelf c a C dx fs) (S : Sim c W e h s H) (q : isSelf e = true) : s[0]? = some (some (.ref a)) := by
  unfold isSelf at q
  split at q
  · rename_i x z
    obtain ⟨b, cls, dd, e2, e3, _⟩ := S.exn 0 x z
    rw [K.cur] at e2
    cases e2
    exact e3
  · cases q
def iNil : En → M (List DV) := fun _ h => .ok [] h
def iSet (m : En → M DV) (r : En → M (List DV)) : En → M (List DV) := fun e h => if isSelf e = true then (match m e h with
  | .ok d h1 => (match r e h1 with
    | .ok ds h2 => .ok (d :: ds) h2
    | _ => .bad)
  | _ => .bad) else .bad
section
variable {X : Cx} {c : Cn}
theorem pe_ex {ex : Expr} {m : En → M DV} (he : ∀ c', c'.g = c.g → c'.x = c.x → PE X ex (RE c' m)) : PE X ex (fun s H Q => ∃ c', c'.g = c.g ∧ c'.x = c.x ∧ RE c' m s H Q) := ⟨fun pins s σ H Q I ⟨c', h1, h2, q⟩ => (he c' h1 h2).run pins s σ H Q I q⟩
theorem i_nil : PSs X [] (RIt c [] iNil) := pss_imp pss_nil fun D s H q => by
  obtain ⟨c1, W, e, h, a, C, dx, fs, eg, ex, S, K, F, q⟩ := q
  obtain ⟨ha, _, _⟩ := K.now S
  have es : upd c1.H0 a (.ins C dx (fs ++ ([] : List Str).zip ([] : List V))) = c1.H0 := by
    funext b
    by_cases z : b = a
    · rw [z, upd_same, K.at_]
      simp
    · rw [upd_ne z]
  have q : PostI c1 c W H a C dx fs [] [] h D := q
  exact q W s H [] (by rw [es]; exact S.st) (Per.refl _ _) (by rw [← eg]; exact S.hs) .nil (by rw [ha]; simp) rfl
theorem i_set {f : Str} {p0 p1 pos : Pos} {ex : Expr} {rest : List Stmt} {names : List Str} {me : En → M DV} {mr : En → M (List DV)} (hk : X.K = c.g.K) (hN : X.N[0]? = some ("self" : Str)) (hv : Vis X.env.scope "self") (he : ∀ c', c'.g = c.g → c'.x = c.x → PE X ex (RE c' me)) (hr : PSs X rest (RIt c names mr))
    (hs : swapsWith ex (some (.Attribute (.Name "self" p0) f p1)) pos.line X.env = pure false := by rfl) : PSs X (.Assign [.Attribute (.Name "self" p0) f p1] ex pos :: rest) (RIt c (f :: names) (iSet me mr)) :=
  pss_imp (pss_cons (ps_fld (pe_var (i := 0) hN hv) (pe_ex he) hs) hr) fun D s H q => by
    obtain ⟨c1, W, e, h, a, C, dx, fs, eg, ex, S, K, F, q⟩ := q
    unfold iSet at q
    by_cases sf : isSelf e = true
    rotate_left
    · rw [if_neg sf] at q
      exact q.elim
    rw [if_pos sf] at q
    refine ⟨c1, eg, ex, W, e, h, S, ?_⟩
    cases z : me e h with
    | bad =>
      rw [z] at q
      exact q.elim
    | exc x h1 =>
      rw [z] at q
      exact q.elim
    | ok d h1 =>
      rw [z] at q
      simp only [] at q
      intro W1 H1 v t S1 r
      obtain ⟨ha, nr, nf⟩ := K.now S1
      obtain ⟨na, nl⟩ := F.na f List.mem_cons_self
      have few := F.few
      rw [List.length_cons] at few
      obtain ⟨nd1, nd2⟩ := List.nodup_cons.mp F.nd
      refine ⟨_, self_at K S1 sf, a, C, dx, fs, rfl, ha, by rw [hk]; exact F.cl, by rw [hk]; exact na, by omega, ?_⟩
      rw [putF_new nl]
      obtain ⟨S2, K2⟩ := S1.reself K (fs ++ [(f, v)])
      refine ⟨{ c1 with H0 := upd c1.H0 a (.ins C dx (fs ++ [(f, v)])) }, W1, e, h1, a, C, dx, fs ++ [(f, v)], eg, ex, S2, K2, ⟨F.cl, fun g hg => ⟨(F.na g (List.mem_cons_of_mem _ hg)).1, lookup_new (F.na g (List.mem_cons_of_mem _ hg)).2 fun (y : g = f) => nd1 (y ▸ hg)⟩, nd2, by rw [List.length_append, List.length_singleton]; omega⟩, ?_⟩
      cases z2 : mr e h1 with
      | bad =>
        rw [z2] at q
        exact q.elim
      | exc x h2 =>
        rw [z2] at q
        exact q.elim
      | ok ds h2 =>
        rw [z2] at q
        have q : PostI c1 c W H a C dx fs (f :: names) (d :: ds) h2 D := q
        intro W' s' H' us st pr hs' rs ea el
        have p1 : Per W1 H1 W' H' := (self_per ha nf).trans pr
        have ez : fs ++ (f :: names).zip (v :: us) = (fs ++ [(f, v)]) ++ names.zip us := by simp
        refine q W' s' H' (v :: us) ?_ ((t.per S.hs).trans p1) hs' (.cons (by rw [← eg]; exact r.per p1 _ _) rs) (by rw [ez]; exact ea) (by rw [List.length_cons, List.length_cons, el])
        rw [ez]
        have st : Step c1.W0 (upd (upd c1.H0 a (.ins C dx (fs ++ [(f, v)]))) a (.ins C dx ((fs ++ [(f, v)]) ++ names.zip us))) W' H' := st
        rw [upd_upd] at st
        exact st
/-! ### the whole body -/
def RII (c : Cn) (names : List Str) (m : En → M (List DV)) : TS := fun D s H => ∃ W e h a C dx fs, Sim c W e h s H ∧ CSelf c a C dx fs ∧ MayF c.g.K C fs names ∧ (match m e h with
  | .ok l h' => PostI c c W H a C dx fs names l h' D
  | .exc x h' => ∀ W' e' s' H' cls dd, Per W H W' H' → Sim c W' e' h' s' H' → XRep c.g W' H' x cls dd → c.x cls dd s' H'
  | .bad => False)
def iTail (m : En → M (List DV)) : En → M (List DV) := fun e h => match m e h with
  | .ok l h' => .ok l h'
  | _ => .bad
def iSeq (a : Stm) (m : En → M (List DV)) : En → M (List DV) := fun e h => match a e h with
  | .nx e' h' => m e' h'
  | .exc x _ h' => .exc x h'
  | _ => .bad
theorem i_tail {b : List Stmt} {names : List Str} {m : En → M (List DV)} (h : PSs X b (RIt c names m)) : PSs X b (RII c names (iTail m)) := pss_imp h fun D s H q => by
  obtain ⟨W, e, h, a, C, dx, fs, S, K, F, q⟩ := q
  refine ⟨c, W, e, h, a, C, dx, fs, rfl, rfl, S, K, F, ?_⟩
  unfold iTail at q
  cases z : m e h with
  | ok l h' =>
    rw [z] at q
    exact q
  | exc x h' =>
    rw [z] at q
    exact q.elim
  | bad =>
    rw [z] at q
    exact q.elim
theorem i_cons {st : Stmt} {b : List Stmt} {names : List Str} {a0 : Stm} {m : En → M (List DV)} (h1 : PS X st (RS c a0)) (h2 : PSs X b (RII c names m)) : PSs X (st :: b) (RII c names (iSeq a0 m)) := pss_imp (pss_cons h1 h2) fun D s H q => by
  obtain ⟨W, e, h, a, C, dx, fs, S, K, F, q⟩ := q
  refine ⟨W, e, h, S, ?_⟩
  unfold iSeq at q
  cases z : a0 e h with
  | nx e' h' =>
    rw [z] at q
    dsimp only at q
    intro W' s' H' p S'
    refine ⟨W', e', h', a, C, dx, fs, S', K, F, ?_⟩
    cases z2 : m e' h' with
    | bad =>
      rw [z2] at q
      exact q.elim
    | ok l h2 =>
      rw [z2] at q
      have q : PostI c c W H a C dx fs names l h2 D := q
      exact fun W2 s2 H2 us st pr => q W2 s2 H2 us st (p.trans pr)
    | exc x h2 =>
      rw [z2] at q
      exact fun W2 e2 s2 H2 cls dd pr => q W2 e2 s2 H2 cls dd (p.trans pr)
  | exc x e' h' =>
    rw [z] at q
    exact fun W' s' H' cls dd p S' r => q W' e' s' H' cls dd p S' r
  | rt d h' =>
    rw [z] at q
    exact q.elim
  | bk e' h' =>
    rw [z] at q
    exact q.elim
  | ct e' h' =>
    rw [z] at q
    exact q.elim
  | bad =>
    rw [z] at q
    exact q.elim
end
/-! ### the promise -/
def spI (g : Glue) (names : List Str) (n : Nat) (m : List DV → M (List DV)) : Sp := fun vs H Q E => ∃ W h ds a C dx fs ws, vs = .ref a :: ws ∧ HSim g W h H ∧ Reps g W H ds ws ∧ ds.length = n ∧ H a = some (.ins C dx fs) ∧ a ∉ W.r ∧ ¬ W.F a ∧ MayF g.K C fs names ∧ (match m ds h with
  | .ok l h' => ∀ W' H' us, Step W (upd H a (.ins C dx (fs ++ names.zip us))) W' H' → HSim g W' h' H' → Reps g W' H' l us → H' a = some (.ins C dx (fs ++ names.zip us)) → us.length = names.length → Q .non H'
  | .exc x h' => ∀ W' H' cls dd, Step W H W' H' → HSim g W' h' H' → XRep g W' H' x cls dd → E cls dd H'
  | .bad => False)
def fnI (N : Nat) (m : En → M (List DV)) : List DV → M (List DV) := fun ds h => m (.exn ⟨0, []⟩ :: (ds.map .val ++ List.replicate (N - (ds.length + 1)) .none)) h
theorem sim_startI {g : Glue} {W : Wd} {h : HP} {H : Hp} {ds : List DV} {ws : List V} {N : List Str} {x : WX} {a : Addr} (hs : HSim g W h H) (r : Reps g W H ds ws) :
    Sim ⟨g, W, H, x, some (a, .ref (g.cA 0), none)⟩ W (.exn ⟨0, []⟩ :: (ds.map .val ++ List.replicate (N.length - (ds.length + 1)) .none)) h (L2.start N (.ref a :: ws)) H := by
  have rest : ∀ (i : Nat) (y : Slot), (ds.map Slot.val ++ List.replicate (N.length - (ds.length + 1)) Slot.none)[i]? = some y → y.isOwn = false ∧ (∀ x, y ≠ .exn x) ∧ ∀ d, y = .val d → ds[i]? = some d := fun i y e => by
    rw [List.getElem?_append] at e
    split at e
    · rw [List.getElem?_map] at e
      cases z : ds[i]? with
      | none =>
        rw [z] at e
        cases e
      | some d =>
        rw [z] at e
        cases e
        exact ⟨rfl, fun x z => (by cases z), fun d z => (by cases z; rfl)⟩
    · rw [List.getElem?_replicate] at e
      split at e
      · cases e
        exact ⟨rfl, fun x z => (by cases z), fun d z => (by cases z)⟩
      · cases e
  have own0 : ∀ (i : Nat) (y : Slot), (Slot.exn ⟨0, []⟩ :: (ds.map Slot.val ++ List.replicate (N.length - (ds.length + 1)) Slot.none))[i]? = some y → y.isOwn = false := fun i y e => by
    cases i with
    | zero =>
      cases e
      rfl
    | succ i => exact (rest i y (by simpa using e)).1
  refine ⟨hs, Step.refl _ _, ?_, fun i d e => ?_, fun i l e => ?_, fun i ks l e => ?_, fun i j b y z e1 o1 => ?_, fun i x e => ?_⟩
  · unfold L2.start
    simp only [List.length_cons, List.length_append, List.length_map, List.length_replicate, r.len]
    omega
  · cases i with
    | zero => cases e
    | succ i =>
      have q := (rest i _ (by simpa using e)).2.2 d rfl
      obtain ⟨v, e2, rv⟩ := r.get q
      refine ⟨v, ?_, rv⟩
      unfold L2.start
      rw [List.map_cons, List.cons_append, List.getElem?_cons_succ, List.getElem?_append_left (by rw [List.length_map]; exact (List.getElem?_eq_some_iff.mp e2).1), List.getElem?_map, e2]
      rfl
  · have := own0 i _ e
    cases this
  · have := own0 i _ e
    cases this
  · rw [own0 i y e1] at o1
    cases o1
  · cases i with
    | zero =>
      cases e
      refine ⟨a, _, _, rfl, ?_, rfl, .inl ⟨rfl, rfl⟩⟩
      unfold L2.start
      rfl
    | succ i => exact absurd rfl ((rest i _ (by simpa using e)).2.1 x)
theorem fn_ruleI {T : Tp} {x qual : Str} {params : Arguments} {body : List Stmt} {scope : Scope} {kws : List (Str × V)} {f : Addr} {fd : FuncData} {N ps names : List Str} {k n : Nat} {m : En → M (List DV)} (F : FunD T.g.K x qual params body scope [] kws f fd) (S : FnScope N ps scope) (hn : ps.length = n + 1)
    (hb : ∀ (X : Cx) (c : Cn), XSt T X c N k scope → PSs X body (RII c names m)) : FnOk T.P T.w T.g.K T.mg T.base (L2N.CX T.P T.w) (k + 1) f fd ps (spI T.g names n (fnI N.length m)) := by
  refine F.ok S (fun vs H Q E h => ?_) fun cdv A outer s H vs Q E hr h => ?_
  · obtain ⟨W, hh, ds, a, C, dx, fs, ws, e, _, r, el, _⟩ := h
    rw [e, List.length_cons, ← r.len, el, hn]
  · obtain ⟨W, hh, ds, a, C, dx, fs, ws, e, hs, r, el, ha, nr, nf, F, q⟩ := h
    subst e
    refine ⟨RII ⟨T.g, W, H, fun cls d _ H' => E cls d H', some (a, .ref (T.g.cA 0), none)⟩ names m, hb _ ⟨T.g, W, H, fun cls d _ H' => E cls d H', some (a, .ref (T.g.cA 0), none)⟩ ⟨⟨rfl, rfl, rfl, rfl, rfl, rfl, rfl, S.nd, rfl, rfl, hr, L2N.takes_of rfl rfl rfl rfl⟩, passes_of rfl, rfl, rfl, rfl⟩, W, _, hh, a, C, dx, fs, sim_startI hs r, ⟨rfl, ha, nr, nf⟩, F, ?_⟩
    unfold fnI at q
    generalize m (.exn ⟨0, []⟩ :: (ds.map .val ++ List.replicate (N.length - (ds.length + 1)) .none)) hh = z at q ⊢
    cases z with
    | ok l h' => exact fun W' s' H' us st pr hs' rs ea ul => q W' H' us st hs' rs ea ul
    | exc x h' => exact fun W' e' s' H' cls dd p S' r => q W' H' cls dd S'.st S'.hs r
    | bad => exact q
end LM

/-! Instances made: C(e, ..). -/
namespace LM
open PySem L2

section
variable {X : Cx} {CX : CXT} {k : Nat} {f C : Addr} {fd : FuncData} {ps : List Str} {sp : Sp} {dvs : List V} {ds : List Value} {E : St → XK}
theorem run_makeSD {pins : List (Addr × Obj)} {σ : St} {H : Hp} {s : Shared} {Q : VK} {us : List Value} {vs : List V} (M : Mk X.K C f) (F : FnOk X.prog X.w X.K X.mg X.base CX k f fd ps sp) (hr : Room (k + 1) X.A) (hb : Binds X.K fd ps ds) (hd : Vals dvs ds)
    (hx : PassesAt CX X σ (E σ)) (I : Inv X pins σ H s) (r : Vals vs us)
    (h : ∀ x dx, H x = none → H dx = none → dx ≠ x → sp (.ref x :: (vs ++ dvs)) (upd (upd H dx (.own x)) x (.ins C dx [])) (fun v H2 => v = .non ∧ Q (.ref x) H2) (E σ)) :
    wpAny (model X.prog X.w) X.A (call (.ref C) us) (EP X pins σ Q) X.xe s := by
  have hq := h (s.heap.objs.size + 1) s.heap.objs.size (I.hok.fresh (Nat.le_succ _)) (I.hok.fresh (Nat.le_refl _)) (Nat.ne_of_lt (Nat.lt_succ_self _))
  have I2 := Inv.made (C := C) I
  have r2 : Vals (V.ref (s.heap.objs.size + 1) :: (vs ++ dvs)) (Value.ref (s.heap.objs.size + 1) :: (us ++ ds)) := .cons rfl (r.append hd)
  have hl : (Value.ref (s.heap.objs.size + 1) :: us ++ ds).length = ps.length := by
    have e := r2.length
    rw [F.len _ _ _ _ hq] at e
    exact e.symm
  refine wpAny_call (make_map (f := f) I.kIn M.makes M.init (beq_iff_eq.mp M.fn) (codeAny_mono (F.run _ X.stack _ _ ⟨Value.ref (s.heap.objs.size + 1) :: us, []⟩ (Value.ref (s.heap.objs.size + 1) :: (us ++ ds)) _ _ (E σ) (hr.make C us [])
    (I2.env0.make C us []) (hb _ (Value.ref (s.heap.objs.size + 1) :: us) I2.kIn hl) r2 hq) fun r s' hq' => ?_))
  cases r with
  | error e => exact hx pins _ _ e s' I2 hq'
  | ok fl =>
    cases fl with
    | ret u =>
      obtain ⟨v, H', I3, rv, ev, q3⟩ := I2.after hq'
      subst ev
      exact ⟨rv, ⟨V.ref (s.heap.objs.size + 1), H', I3, rfl, q3⟩⟩
    | next => exact False.elim hq'
    | brk => exact False.elim hq'
    | cont => exact False.elim hq'
end
/-- what is known of a class, number c, that is made -/
structure MkOk (T : Tp) (x : Str) (c j n : Nat) (m : List DV → M (List DV)) : Prop where
  gl : T.mg x = some (.ref (T.g.cA c))
  may : MayF T.g.K (T.g.cA c) [] (T.g.flds c)
  ex : ∃ fI fd ps, Mk T.g.K (T.g.cA c) fI ∧ Binds T.g.K fd ps [] ∧ FnOk T.P T.w T.g.K T.mg T.base (L2N.CX T.P T.w) j fI fd ps (spI T.g (T.g.flds c) n m)
def mkD (c : Nat) (r : Res (List DV)) : Res DV := match r with
  | .ok us h => .ok (.obj c us) h
  | .exc x h => .exc x h
  | .bad => .bad
def mkR (c : Nat) (r : Res (List DV)) : Res DV := match r with
  | .ok us h => .ok (.ref h.length) (h ++ [.obj c us])
  | .exc x h => .exc x h
  | .bad => .bad
/-- C(e, ..), never changed again; changed later -/
def eMake (c : Nat) (m : List DV → M (List DV)) (ms : En → M (List DV)) : En → M DV := fun e => ms e >>= fun l h => mkD c (m l h)
def eMakeR (c : Nat) (m : List DV → M (List DV)) (ms : En → M (List DV)) : En → M DV := fun e => ms e >>= fun l h => mkR c (m l h)
section
variable {T : Tp} {X : Cx} {c : Cn} {N : List Str} {k : Nat} {sc : Scope} {pos p1 : Pos} {ex : Expr} {es : List Expr} {n : Nat} {ms : En → M (List DV)} {x : Str} {ci j : Nat} {m : List DV → M (List DV)}
theorem made_heap {W1 : Wd} {e : En} {h1 : HP} {s : L2.St} {H1 : Hp} {a dx C : Addr} {fs : List (Str × V)} (S : Sim c W1 e h1 s H1) (ha : H1 a = none) (hd : H1 dx = none) (ne : dx ≠ a) : Step W1 H1 W1 (upd (upd H1 dx (.own a)) a (.ins C dx fs)) ∧ Sim c W1 e h1 s (upd (upd H1 dx (.own a)) a (.ins C dx fs)) := by
  obtain ⟨t1, S1⟩ := S.new (o := .own a) hd
  obtain ⟨t2, S2⟩ := S1.new (p := a) (o := .ins C dx fs) (by rw [upd_ne (Ne.symm ne)]; exact ha)
  exact ⟨t1.trans t2, S2⟩
theorem make_use {mk : Nat → Res (List DV) → Res DV} {s : L2.St} {H : Hp} {Q : VK} (hX : XEx T X c N k sc) (M : MkOk T x ci j n m) (q : RE c (fun e => ms e >>= fun l h => mk ci (m l h)) s H Q)
    (h0 : ∀ x h, mk ci (.exc x h) = .exc x h) (h1 : mk ci .bad = .bad)
    (h2 : ∀ {W1 : Wd} {e : En} {hh : HP} {H1 : Hp} {us : List DV} {h' : HP} {W' : Wd} {H' : Hp} {a dx : Addr} {vs : List V}, Sim c W1 e hh s H1 → H1 a = none → Post c (rV c H1) e s W1 H1 (mk ci (.ok us h')) Q → Step W1 H1 W' H' → Sim c W' e h' s H' → Reps c.g W' H' us vs →
      H' a = some (.ins (c.g.cA ci) dx ((c.g.flds ci).zip vs)) → vs.length = (c.g.flds ci).length → a ∉ W'.r → ¬ W'.F a → Q (.ref a) H') :
    RX c (rVs c n) ms s H fun vs H1 => ∀ a dx, H1 a = none → H1 dx = none → dx ≠ a → spI c.g (c.g.flds ci) n m (.ref a :: (vs ++ [])) (upd (upd H1 dx (.own a)) a (.ins (c.g.cA ci) dx [])) (fun v H2 => v = .non ∧ Q (.ref a) H2) (WE c.x s) := by
  refine RX.bind (k := fun _ l h => mk ci (m l h)) q fun W e W1 H1 ds vs hh t S r q2 a dx ha hd ne => ?_
  obtain ⟨t1, S1⟩ := made_heap (C := c.g.cA ci) (fs := []) S ha hd ne
  have p1 := t1.per S.hs
  have nr := not_r S.hs ha
  have nf := not_F S.hs ha
  have may := M.may
  rw [← hX.pg] at may
  refine ⟨W1, hh, ds, a, _, dx, [], vs, by rw [List.append_nil], S1.hs, r.1.per p1 _ _, r.2, upd_same, nr, nf, may, ?_⟩
  cases z : m ds hh with
  | bad =>
    rw [z, h1] at q2
    exact q2.elim
  | exc y h' =>
    rw [z, h0] at q2
    exact fun W' H' cls dd t' hs' r' => q2 W' H' cls dd (t1.trans t') (S1.step t' hs') r'
  | ok us h' =>
    rw [z] at q2
    intro W' H' us2 st hs' rs ea el
    refine ⟨rfl, ?_⟩
    obtain ⟨t3, S3⟩ := made_heap (C := c.g.cA ci) (fs := [] ++ (c.g.flds ci).zip us2) S ha hd ne
    rw [upd_upd] at st
    have S4 := S3.step st hs'
    have at3 : (upd (upd H1 dx (.own a)) a (.ins (c.g.cA ci) dx ([] ++ (c.g.flds ci).zip us2))) a = some (.ins (c.g.cA ci) dx ([] ++ (c.g.flds ci).zip us2)) := upd_same
    refine h2 S ha q2 (t3.trans st) S4 rs (by rw [ea]; rfl) el (fun mm => ?_) fun ff => ?_
    · rcases st.nr a mm with z | z
      · exact nr z
      · rw [at3] at z
        cases z
    · rcases st.nf a ff with z | z | ⟨_, _, z⟩
      · exact nf z
      · rw [at3] at z
        cases z
      · rw [at3] at z
        cases z
theorem make_core {mk : Nat → Res (List DV) → Res DV} (hX : XEx T X c N k sc) (M : MkOk T x ci j n m) (hj : j + 1 ≤ k) (hg : Gl X x) (ha : PA X (ex :: es) (RA c n ms)) (hdb : (x == ("__debug__" : Str)) = false) (he : starEach (ex :: es) X.env = (false, eval ex X.env) :: starEach es X.env) (hpl : (backTo pos (starEach es X.env)).any (·.1) = false)
    (use : ∀ {s : L2.St} {H : Hp} {Q : VK}, RE c (fun e => ms e >>= fun l h => mk ci (m l h)) s H Q → RX c (rVs c n) ms s H fun vs H1 => ∀ a dx, H1 a = none → H1 dx = none → dx ≠ a → spI c.g (c.g.flds ci) n m (.ref a :: (vs ++ [])) (upd (upd H1 dx (.own a)) a (.ins (c.g.cA ci) dx [])) (fun v H2 => v = .non ∧ Q (.ref a) H2) (WE c.x s)) :
    PE X (.Call (.Name x p1) (ex :: es) [] pos) (RE c (fun e => ms e >>= fun l h => mk ci (m l h))) := by
  obtain ⟨fI, fd, ps, mk0, b, fo⟩ := M.ex
  have mk1 : Mk X.K (c.g.cA ci) fI := by
    rw [hX.pk, hX.pg]
    exact mk0
  have b1 : Binds X.K fd ps [] := by
    rw [hX.pk]
    exact b
  have fo1 : FnOk X.prog X.w X.K X.mg X.base (L2N.CX X.prog X.w) j fI fd ps (spI c.g (c.g.flds ci) n m) := by
    rw [hX.pp, hX.pw, hX.pk, hX.pm, hX.pb, hX.pg]
    exact fo
  have gl : X.mg x = some (.ref (c.g.cA ci)) := by
    rw [hX.pm, hX.pg]
    exact M.gl
  refine ⟨fun pins s σ H Q I q => ?_⟩
  refine wpAny_Call_Name_kw (ld_glob I hg gl ?_ hdb)
  refine PySem.W.callWith_K (h₀ := X.base) I.ok.mod.kin mk1.kp (thn (ha.run pos pins s σ H _ I (use q)) fun us s1 ⟨vs, H1, I1, r, q2⟩ => ⟨I1.kIn, ?_⟩) he hpl
  exact run_makeSD (E := WE c.x) mk1 fo1 (hX.room.mono hj) b1 .nil (L2N.passAt hX.tk σ) I1 r q2
theorem c_make (hX : XEx T X c N k sc) (M : MkOk T x ci j n m) (hj : j + 1 ≤ k) (hg : Gl X x) (ha : PA X (ex :: es) (RA c n ms)) (hdb : (x == ("__debug__" : Str)) = false := by decide) (he : starEach (ex :: es) X.env = (false, eval ex X.env) :: starEach es X.env := by rfl) (hpl : (backTo pos (starEach es X.env)).any (·.1) = false := by rfl) :
    PE X (.Call (.Name x p1) (ex :: es) [] pos) (RE c (eMake ci m ms)) :=
  make_core (mk := mkD) hX M hj hg ha hdb he hpl fun {s H Q} q => make_use (mk := mkD) hX M q (fun _ _ => rfl) rfl fun {W1 e hh H1 us h' W' H' a dx vs} S hn q2 t S' rs ea el nr nf => by
    have q3 : Post c (rV c H1) e s W1 H1 (.ok (.obj ci us) h') Q := q2
    have hs2 := S'.hs.frz (p := a) ea nr
    have t2 : Step W1 H1 (W'.frz a) H' := t.frz hn
    have pr : Per W' H' (W'.frz a) H' := ⟨fun _ f => .inl f, fun _ _ e => e, fun _ _ => rfl, fun _ _ e => e, fun _ _ _ e => e⟩
    refine q3 _ H' _ t2 (S.step t2 hs2) ?_
    simp only [Rep]
    exact ⟨a, dx, vs, rfl, .inr rfl, ea, Nat.le_of_eq el, rs.per pr _ _⟩
theorem c_makeR (hX : XEx T X c N k sc) (M : MkOk T x ci j n m) (hj : j + 1 ≤ k) (hg : Gl X x) (ha : PA X (ex :: es) (RA c n ms)) (hdb : (x == ("__debug__" : Str)) = false := by decide) (he : starEach (ex :: es) X.env = (false, eval ex X.env) :: starEach es X.env := by rfl) (hpl : (backTo pos (starEach es X.env)).any (·.1) = false := by rfl) :
    PE X (.Call (.Name x p1) (ex :: es) [] pos) (RE c (eMakeR ci m ms)) :=
  make_core (mk := mkR) hX M hj hg ha hdb he hpl fun {s H Q} q => make_use (mk := mkR) hX M q (fun _ _ => rfl) rfl fun {W1 e hh H1 us h' W' H' a dx vs} S hn q2 t S' rs ea el nr nf => by
    have q3 : Post c (rV c H1) e s W1 H1 (.ok (.ref h'.length) (h' ++ [.obj ci us])) Q := q2
    have hs2 := S'.hs.add (o := .obj ci us) nf nr ⟨dx, vs, ea, Nat.le_of_eq el, rs⟩
    have st : Step W1 H1 ⟨W'.F, W'.r ++ [a]⟩ H' := ⟨t.f, fun p b z => by
      show (W'.r ++ [a])[p]? = some b
      have q1 := t.r p b z
      rw [List.getElem?_append_left (List.getElem?_eq_some_iff.mp q1).1]
      exact q1, t.k, t.th, t.nf, fun b hb => by
      rcases List.mem_append.mp hb with y | y
      · exact t.nr b y
      · rw [List.mem_singleton.mp y]
        exact .inr hn⟩
    refine q3 ⟨W'.F, W'.r ++ [a]⟩ H' _ st (S.step st hs2) ?_
    simp only [Rep]
    refine ⟨a, rfl, ?_⟩
    show (W'.r ++ [a])[h'.length]? = some a
    rw [List.getElem?_append_right (by rw [S'.hs.len]; exact Nat.le_refl _), S'.hs.len, Nat.sub_self]
    rfl
end
@[simp] theorem eMake_app (ci : Nat) (m : List DV → M (List DV)) (ms : En → M (List DV)) (e : En) (h : HP) : eMake ci m ms e h = bR (ms e h) fun l h => mkD ci (m l h) := rfl
@[simp] theorem eMakeR_app (ci : Nat) (m : List DV → M (List DV)) (ms : En → M (List DV)) (e : En) (h : HP) : eMakeR ci m ms e h = bR (ms e h) fun l h => mkR ci (m l h) := rfl
@[simp] theorem mkD_ok (c : Nat) (us : List DV) (h : HP) : mkD c (.ok us h) = .ok (.obj c us) h := rfl
@[simp] theorem mkR_ok (c : Nat) (us : List DV) (h : HP) : mkR c (.ok us h) = .ok (.ref h.length) (h ++ [.obj c us]) := rfl
@[simp] theorem mkD_exc (c : Nat) (x : Ex) (h : HP) : mkD c (.exc x h) = .exc x h := rfl
theorem fnI_app (N : Nat) (m : En → M (List DV)) (ds : List DV) (h : HP) : fnI N m ds h = m (.exn ⟨0, []⟩ :: (ds.map .val ++ List.replicate (N - (ds.length + 1)) .none)) h := rfl
/-- behind a statement of an __init__ -/
def jR (r : SRes) (m : En → M (List DV)) : Res (List DV) := match r with
  | .nx e h => m e h
  | .exc x _ h => .exc x h
  | _ => .bad
@[simp] theorem jR_nx (e : En) (h : HP) (m : En → M (List DV)) : jR (.nx e h) m = m e h := rfl
@[simp] theorem jR_exc (x : Ex) (e : En) (h : HP) (m : En → M (List DV)) : jR (.exc x e h) m = .exc x h := rfl
@[simp] theorem iSeq_app (a : Stm) (m : En → M (List DV)) (e : En) (h : HP) : iSeq a m e h = jR (a e h) m := by
  unfold iSeq jR
  cases a e h <;> rfl
def tR (r : Res (List DV)) : Res (List DV) := match r with
  | .ok l h => .ok l h
  | _ => .bad
@[simp] theorem tR_ok (l : List DV) (h : HP) : tR (.ok l h) = .ok l h := rfl
@[simp] theorem iTail_app (m : En → M (List DV)) (e : En) (h : HP) : iTail m e h = tR (m e h) := rfl
@[simp] theorem iNil_app (e : En) (h : HP) : iNil e h = .ok [] h := rfl
def sR2 (d : DV) (r : Res (List DV)) : Res (List DV) := match r with
  | .ok ds h => .ok (d :: ds) h
  | _ => .bad
@[simp] theorem sR2_ok (d : DV) (ds : List DV) (h : HP) : sR2 d (.ok ds h) = .ok (d :: ds) h := rfl
def sR1 (r : Res DV) (e : En) (m : En → M (List DV)) : Res (List DV) := match r with
  | .ok d h => sR2 d (m e h)
  | _ => .bad
@[simp] theorem sR1_ok (d : DV) (e : En) (m : En → M (List DV)) (h : HP) : sR1 (.ok d h) e m = sR2 d (m e h) := rfl
@[simp] theorem iSet_app (x : Ex) (e : En) (m : En → M DV) (r : En → M (List DV)) (h : HP) : iSet m r (.exn x :: e) h = sR1 (m (.exn x :: e) h) (.exn x :: e) r := by
  unfold iSet
  rw [if_pos (by rfl)]
  cases z : m (.exn x :: e) h with
  | ok d h1 =>
    rw [sR1_ok]
    dsimp only
    cases r (.exn x :: e) h1 <;> rfl
  | exc y h1 => rfl
  | bad => rfl
end LM

/-! Exceptions without an own __init__; except without a name; isinstance of own classes. -/
namespace LM
open PySem L2 L2H

structure Eo0 (T : Tp) (x : Str) (cid : Nat) : Prop where
  gl : T.mg x = some (.ref (T.g.cA cid))
  ex : PySem.W.excIn T.g.K (T.g.cA cid) [.type "ValueError", .type "Exception", .type "BaseException", .type "object"] "ValueError.__new__" = true
  kp : PySem.W.keepIn T.g.K (.ref (T.g.cA cid)) = true
  sb : PySem.W.subIn T.g.K (.ref (T.g.cA cid)) (.type "BaseException") = some true
  ty : PySem.W.typeIn T.g.K (.ref (T.g.cA cid)) = some (.type "type")
def sRaise0 (cid : Nat) : Stm := fun e h => .exc ⟨cid, []⟩ e h
theorem eo0_of {T : Tp} {x : Str} {cid : Nat} (hm : T.mg x = some (.ref (T.g.cA cid))) (b : eo0B (T.g.cA cid) T.g.K = true) : Eo0 T x cid := by
  obtain ⟨h1, h2⟩ := He.ba b
  obtain ⟨h3, h4⟩ := He.ba h2
  obtain ⟨h5, h6⟩ := He.ba h4
  exact ⟨hm, h1, h3, of_decide_eq_true h5, of_decide_eq_true h6⟩
section
variable {T : Tp} {X : Cx} {c : Cn} {N : List Str} {k : Nat} {sc : Scope} {x m : Str} {pos p p1 p2 : Pos} {cid j : Nat}
theorem s_raise0 (hX : XSt T X c N k sc) (o : Eo0 T x cid) (hg : Gl X x) (hdb : (x == ("__debug__" : Str)) = false := by decide) : PS X (.Raise (some (.Call (.Name x p1) [.Constant (.str m) j p2] [] p)) none pos) (RS c (sRaise0 cid)) := by
  refine ps_imp (L2N.ps_raise hX.e.calm hX.e.tk (L2N.pmk_own (C := T.g.cA cid) PySem.F.excBase_ValueError (by rw [hX.e.pk]; exact o.ex) (by rw [hX.e.pm]; exact o.gl) (by rw [hX.e.pk]; exact o.kp) (raises_own (by rw [hX.e.pk]; exact o.sb) (by rw [hX.e.pk]; exact o.ty)) hg hdb)) fun D s H q => ?_
  obtain ⟨W, e, h, S, q⟩ := q
  have q : PostS c W H (.exc ⟨cid, []⟩ e h) D := q
  exact q W s H _ none (Per.refl _ _) S ⟨by rw [hX.e.pg], .inl ⟨rfl, rfl⟩⟩
end
/-! ### try: .. except C: .. -/
def tryR0 (r : SRes) : SRes := match r with
  | .nx e h => .nx (noExn e) h
  | .rt d h => .rt d h
  | _ => .bad
def sTry0 (ck : Nat → Option Bool) (body hd : Stm) : Stm := fun e h => match body e h with
  | .exc x e' h' => (match ck x.c with
    | some true => tryR0 (hd (noExn e') h')
    | some false => .exc x e' h'
    | none => .bad)
  | r => r
section
variable {T : Tp} {X : Cx} {c : Cn} {N : List Str} {k : Nat} {sc : Scope} {x : Str} {cv : Value} {ck : Nat → Option Bool} {body suite : List Stmt} {b0 : Stmt} {np pos pos' : Pos} {mb mh : Stm}
theorem s_try0 (hX : XSt T X c N k sc) (hg : Gl X x) (hm : T.mg x = some cv) (kc : CkOk T cv ck) (hb : ∀ (X' : Cx) (c' : Cn), XSt T X' c' N k sc → PSs X' body (RS c' mb)) (hh : ∀ (X' : Cx) (c' : Cn), XHo T X' c' N k sc → PSs X' (b0 :: suite) (RS c' mh))
    (hdb : (x == ("__debug__" : Str)) = false := by decide) : PS X (.Try body [.ExceptHandler (some (.Name x np)) none (b0 :: suite) pos'] [] [] pos) (RS c (sTry0 ck mb mh)) := by
  let c' : Addr → Value → Option Addr → Cn := fun a cls dd => { c with x := fun _ _ _ _ => False, cur := some (a, cls, dd) }
  refine ps_imp (L2N.ps_try_many (tb := fun W => RS (c.wx W) mb) (Wout := c.x) hX.st hX.fr hX.e.tk (fun W pn xe tk pa => hb _ _ ⟨⟨hX.e.pp, hX.e.pw, hX.e.pk, hX.e.pm, hX.e.pb, hX.e.pg, hX.e.nm, hX.e.nd, hX.e.sc, hX.e.calm, hX.e.room, tk⟩, pa, hX.fn, hX.st, hX.fr⟩)
    (.cons (ts := fun a cls d => RS (c' a cls d) mh) (c := cv) ⟨hg, hdb, .inl (by rw [hX.e.pm]; exact hm)⟩ (fun a oe cls d pn hz hf => hh _ _ ⟨hX.e.pp, hX.e.pw, hX.e.pk, hX.e.pm, hX.e.pb, hX.e.pg, hX.e.nm, hX.e.nd, hX.e.sc, roomH_mark hX.e.room _, rfl, X, a, oe, cls, d, pn, rfl, rfl, hz, hf⟩) .nil)) fun D s H q => ?_
  obtain ⟨W, e, h, S, q⟩ := q
  refine ⟨W, e, h, S.wx, ?_⟩
  unfold sTry0 at q
  cases z : mb e h with
  | nx e' h' =>
    rw [z] at q
    exact fun W' s' H' p S' => q W' s' H' p S'.ofWx
  | bk e' h' =>
    rw [z] at q
    exact fun W' s' H' p S' => q W' s' H' p S'.ofWx
  | ct e' h' =>
    rw [z] at q
    exact fun W' s' H' p S' => q W' s' H' p S'.ofWx
  | rt d h' =>
    rw [z] at q
    exact q
  | bad =>
    rw [z] at q
    exact q.elim
  | exc y e' h' =>
    rw [z] at q
    simp only [] at q
    intro W' s' H' cls dd p S' r
    have S1 := S'.ofWx
    obtain ⟨ec, rr⟩ := r
    have ec : cls = .ref (c.g.cA y.c) := ec
    cases zc : ck y.c with
    | none =>
      rw [zc] at q
      exact q.elim
    | some b =>
      rw [zc] at q
      refine ⟨b, ?_, fun hb2 a na => ?_, fun hb2 => ?_⟩
      · rw [ec, hX.e.pk, hX.e.pg]
        exact kc.ok _ _ zc
      · subst hb2
        have q1 : PostS c W H (tryR0 (mh (noExn e') h')) D := q
        have S3 : Sim (c' a cls dd) W' (noExn e') h' s' H' := S1.noExn (c' := c' a cls dd) rfl rfl rfl
        refine ⟨W', _, h', S3, ?_⟩
        have q2 := q1.later p
        cases zr : mh (noExn e') h' with
        | nx e3 h3 =>
          rw [zr] at q2
          have q3 : PostS c W' H' (.nx (noExn e3) h3) D := q2
          exact fun W3 s3 H3 p3 S4 => q3 W3 _ H3 p3 (S4.noExn (c' := c) rfl rfl rfl)
        | rt d h3 =>
          rw [zr] at q2
          exact q2
        | bk e3 h3 =>
          rw [zr] at q2
          exact q2.elim
        | ct e3 h3 =>
          rw [zr] at q2
          exact q2.elim
        | exc x3 e3 h3 =>
          rw [zr] at q2
          exact q2.elim
        | bad =>
          rw [zr] at q2
          exact q2.elim
      · subst hb2
        exact q W' s' H' cls dd p S1 ⟨ec, rr⟩
end
/-! ### isinstance(e, C) -/
/-- what isinstance asks of an instance's class ci, and C -/
structure IsOk (T : Tp) (ci C : Nat) (b : Bool) : Prop where
  cl : Cls T.g.K (T.g.cA ci)
  ha : PySem.W.findIn T.g.K (.ref (T.g.cA ci)) "__class__" = some (some (.builtin "object.__class__"))
  hn : PySem.W.specialIn T.g.K (.builtin "object.__class__") "__get__" = some (some (.builtin "getset_descriptor.__get__"))
  tk : PySem.W.takesIn T.g.K (.builtin "object.__class__") = some true
  hm : PySem.W.mroIn T.g.K (T.g.cA ci) (.type "object") = some true
  ko : PySem.W.kitOne T.g.K (.ref (T.g.cA ci)) (.ref (T.g.cA C)) = some b
theorem clsB_ok {C : Addr} {K : PySem.W.Frag} (b : clsB C K = true) : Cls K C := by
  obtain ⟨h1, h2⟩ := He.ba b
  obtain ⟨h3, h4⟩ := He.ba h2
  obtain ⟨h5, h6⟩ := He.ba h4
  exact ⟨h1, h3, h5, of_decide_eq_true h6⟩
theorem is_of {T : Tp} {ci C : Nat} {r : Bool} (b : isB (T.g.cA ci) (T.g.cA C) r T.g.K = true) : IsOk T ci C r := by
  obtain ⟨h1, h2⟩ := He.ba b
  obtain ⟨h3, h4⟩ := He.ba h2
  obtain ⟨h5, h6⟩ := He.ba h4
  obtain ⟨h7, h8⟩ := He.ba h6
  obtain ⟨h9, h10⟩ := He.ba h8
  exact ⟨clsB_ok h1, of_decide_eq_true h3, of_decide_eq_true h5, of_decide_eq_true h7, of_decide_eq_true h9, of_decide_eq_true h10⟩
def IsL (T : Tp) (C : Nat) (tab : List (Nat × Bool)) : Prop := ∀ i b, (i, b) ∈ tab → IsOk T i C b
theorem isL_nil {T : Tp} {C : Nat} : IsL T C [] := fun _ _ h => by cases h
theorem isL_cons {T : Tp} {C i : Nat} {b : Bool} {tab : List (Nat × Bool)} (a : IsOk T i C b) (r : IsL T C tab) : IsL T C ((i, b) :: tab) := fun j b' h => by
  rcases List.mem_cons.mp h with e | e
  · cases e
    exact a
  · exact r _ _ e
theorem mem_of_lookupB : ∀ {l : List (Nat × Bool)} {c : Nat} {j : Bool}, l.lookup c = some j → (c, j) ∈ l
  | [], _, _, e => by cases e
  | (a, b) :: r, c, j, e => by
    by_cases h : c = a
    · subst h
      simp [List.lookup] at e
      subst e
      exact List.mem_cons_self
    · have ne : (c == a) = false := beq_eq_false_iff_ne.mpr h
      simp only [List.lookup, ne] at e
      exact List.mem_cons_of_mem _ (mem_of_lookupB e)
def isO (tab : List (Nat × Bool)) (o : Option (Nat × List DV)) : Option Bool := match o with
  | some (c, _) => tab.lookup c
  | none => none
def vIsO (tab : List (Nat × Bool)) (x : DV) : M DV := fun h => match isO tab (clsO h x) with
  | some b => .ok (.bl b) h
  | none => .bad
section
variable {T : Tp} {X : Cx} {c : Cn} {N : List Str} {k : Nat} {sc : Scope} {pos p1 p2 : Pos} {a : Expr} {ma : En → M DV} {y : Str} {C : Nat} {tab : List (Nat × Bool)}
theorem c_isO (hX : XEx T X c N k sc) (L : IsL T C tab) (hg : Gl X "isinstance") (hm : X.mg "isinstance" = none) (hg2 : Gl X y) (hm2 : T.mg y = some (.ref (T.g.cA C))) (ha : PE X a (RE c ma))
    (he : starEach [a, .Name y p2] X.env = (false, eval a X.env) :: starEach [.Name y p2] X.env := by rfl) (hd : (y == ("__debug__" : Str)) = false := by decide) :
    PE X (.Call (.Name "isinstance" p1) [a, .Name y p2] [] pos) (RE c (e1 (vIsO tab) ma)) :=
  pe_imp (pe_callB call_isi hg hm (by decide +kernel) (pa_cons ha (pa_cons (pe_glob (v := .ref (T.g.cA C)) hg2 (by rw [hX.pm]; exact hm2) rfl hd) pa_nil) he) (by decide) (by decide) he rfl) fun s H Q q =>
    RX.bind q fun W e W1 H1 x v h1 t S rx q2 => by
      unfold vIsO at q2
      cases z : clsO h1 x with
      | none =>
        rw [z] at q2
        exact q2.elim
      | some u =>
        obtain ⟨ci, l⟩ := u
        rw [z] at q2
        unfold isO at q2
        simp only [] at q2
        cases z2 : tab.lookup ci with
        | none =>
          rw [z2] at q2
          exact q2.elim
        | some b =>
          rw [z2] at q2
          obtain ⟨ad, dx, vs, e1, e2, e3, rs⟩ := obj_at S.hs rx z
          have fo := L ci b (mem_of_lookupB z2)
          subst e1
          rw [hX.pg] at e2
          refine ⟨.ref ad, .ref (T.g.cA C), .ref (T.g.cA ci), .ref (T.g.cA C), b, rfl, .own _, .base (.ins e2 (by rw [hX.pk]; exact fo.cl) (by rw [hX.pk]; exact fo.ha) (by rw [hX.pk]; exact fo.hn) (by rw [hX.pk]; exact fo.tk) (by rw [hX.pk]; exact fo.hm)), ?_, q2.ret S (by simp only [rV, Rep])⟩
          rw [hX.pk]
          exact fo.ko
end
@[simp] theorem clsO_obj (h : HP) (c : Nat) (l : List DV) : clsO h (.obj c l) = some (c, l) := rfl
theorem vFld_obj (tab : List (Nat × Nat)) (c : Nat) (l : List DV) (h : HP) {j : Nat} {d : DV} (e1 : tab.lookup c = some j) (e2 : l[j]? = some d) : vFld tab (.obj c l) h = .ok d h := by
  unfold vFld fldO
  simp only [clsO_obj, e1, e2]
theorem vIsO_obj (tab : List (Nat × Bool)) (c : Nat) (l : List DV) (h : HP) {b : Bool} (e1 : tab.lookup c = some b) : vIsO tab (.obj c l) h = .ok (.bl b) h := by
  unfold vIsO isO
  simp only [clsO_obj, e1]
end LM

/-! Looks at classes with instances. -/
namespace LM
open PySem L2

theorem XEx.ofc {T : Tp} {X : Cx} {c c' : Cn} {N : List Str} {k : Nat} {sc : Scope} (h : XEx T X c N k sc) (eg : c'.g = c.g) (ex : c'.x = c.x) : XEx T X c' N k sc :=
  ⟨h.pp, h.pw, h.pk, h.pm, h.pb, by rw [eg]; exact h.pg, h.nm, h.nd, h.sc, h.calm, h.room, by rw [ex]; exact h.tk⟩
theorem MoL.mono {T : Tp} {m : Str} {j k n : Nat} {ms : Fns} (L : MoL T m j n ms) (h : j ≤ k) : MoL T m k n ms := fun c f e => (L c f e).mono h
section
variable {T : Tp} {X : Cx} {c : Cn} {N : List Str} {k : Nat} {sc : Scope}
theorem k_iset {f : Str} {p0 p1 pos : Pos} {ex : Expr} {rest : List Stmt} {names : List Str} {me : En → M DV} {mr : En → M (List DV)} (hX : XSt T X c N k sc) (hN : N[0]? = some ("self" : Str)) (hv : Vis sc "self") (he : ∀ c', c'.g = c.g → c'.x = c.x → PE X ex (RE c' me)) (hr : PSs X rest (RIt c names mr))
    (hs : swapsWith ex (some (.Attribute (.Name "self" p0) f p1)) pos.line X.env = pure false := by rfl) : PSs X (.Assign [.Attribute (.Name "self" p0) f p1] ex pos :: rest) (RIt c (f :: names) (iSet me mr)) :=
  i_set hX.e.kk (by rw [hX.e.nm]; exact hN) (by rw [hX.e.sc]; exact hv) he hr hs
end
theorem may_of {T : Tp} {ci : Nat} {fs : List Str} (b : mayB fs (T.g.cA ci) T.g.K = true) (fl : T.g.flds ci = fs) (nd : fs.Nodup) (few : fs.length ≤ 900) : MayF T.g.K (T.g.cA ci) [] (T.g.flds ci) := by
  obtain ⟨h1, h2⟩ := He.ba b
  rw [fl]
  exact ⟨clsB_ok h1, fun f hf => ⟨of_decide_eq_true (p := PySem.W.findIn T.g.K (.ref (T.g.cA ci)) f = some none) (List.all_eq_true.mp h2 f hf), rfl⟩, nd, by rw [List.length_nil, Nat.zero_add]; exact few⟩
theorem fld_of {T : Tp} {ci j : Nat} {f : Str} {fs : List Str} (b : mayB fs (T.g.cA ci) T.g.K = true) (fl : T.g.flds ci = fs) (nd : fs.Nodup) (e : fs[j]? = some f) (few : fs.length < 900) : FldOk T f ci j := by
  obtain ⟨h1, h2⟩ := He.ba b
  exact ⟨clsB_ok h1, of_decide_eq_true (p := PySem.W.findIn T.g.K (.ref (T.g.cA ci)) f = some none) (List.all_eq_true.mp h2 f (List.mem_of_getElem? e)), by rw [fl]; exact nd, by rw [fl]; exact e, by rw [fl]; exact few⟩
theorem meth_of {T : Tp} {m : Str} {ci : Nat} {D : Addr} {k n : Nat} {f : List DV → M DV} {fs : List Str} (b : methB (T.g.cA ci) D m T.g.K = true) (fl : T.g.flds ci = fs) (nf : m ∉ fs)
    (o : ∃ fd ps, Binds T.g.K fd ps [] ∧ FnOk T.P T.w T.g.K T.mg T.base (L2N.CX T.P T.w) k (He.ma T.g.K D m) fd ps (spF T.g n f)) : MethOk T m ci k n f := by
  obtain ⟨h1, h2⟩ := He.ba b
  obtain ⟨h3, h4⟩ := He.ba h2
  obtain ⟨h5, h6⟩ := He.ba h4
  obtain ⟨fd, ps, bd, fo⟩ := o
  exact ⟨clsB_ok h1, by rw [fl]; exact nf, _, fd, ps, ⟨of_decide_eq_true h3, h5, h6⟩, bd, fo⟩
theorem mk_of' {T : Tp} {x : Str} {ci : Nat} {D : Addr} {j n : Nat} {m : List DV → M (List DV)} (gl : T.mg x = some (.ref (T.g.cA ci))) (b : mkB (T.g.cA ci) D T.g.K = true) (may : MayF T.g.K (T.g.cA ci) [] (T.g.flds ci))
    (o : ∃ fd ps, Binds T.g.K fd ps [] ∧ FnOk T.P T.w T.g.K T.mg T.base (L2N.CX T.P T.w) j (He.ma T.g.K D "__init__") fd ps (spI T.g (T.g.flds ci) n m)) : MkOk T x ci j n m := by
  obtain ⟨h1, h2⟩ := He.ba b
  obtain ⟨h3, h4⟩ := He.ba h2
  obtain ⟨h5, h6⟩ := He.ba h4
  obtain ⟨fd, ps, bd, fo⟩ := o
  exact ⟨gl, may, _, fd, ps, ⟨h1, of_decide_eq_true h3, h5, h6⟩, bd, fo⟩
end LM

/-! for over a list that may be on the changing heap; append to such a list. -/
namespace LM
open PySem L2

def elX (en : Bool) (i : Nat) (d : DV) : DV := if en then .tup [.int (i : Int), d] else d
def forX (en : Bool) (t : DV → En → Option En) (body : Stm) (fg : List Nat) (o : DV) : Nat → Nat → Stm
  | 0, i, e, h => (match asL h o with
    | some l => if i = l.length then .nx e h else .bad
    | none => .bad)
  | n + 1, i, e, h => (match asL h o with
    | some l => (match l[i]? with
      | some d => (match t (elX en i d) e with
        | none => .bad
        | some e1 => match body e1 h with
          | .nx e2 h2 => forX en t body fg o n (i + 1) (wipeE e2 fg) h2
          | .ct e2 h2 => forX en t body fg o n (i + 1) (wipeE e2 fg) h2
          | .bk e2 h2 => .nx (wipeE e2 fg) h2
          | .rt d h2 => .rt d h2
          | .exc x e2 h2 => .exc x e2 h2
          | .bad => .bad)
      | none => if i = l.length then .nx e h else .bad)
    | none => .bad)
def lenX (h : HP) (o : DV) : Nat := match asL h o with
  | some l => l.length
  | none => 0
def sForX (en : Bool) (mo : En → M DV) (t : DV → En → Option En) (fg : List Nat) (body : Stm) : Stm := sBind mo fun o e h => forX en t body fg o (lenX h o) 0 (wipeE e fg) h
/-- what is walked: a list, its numbers with it -/
def itJ (en : Bool) (K : PySem.W.Frag) (a : Addr) : It := if en then IteB false K a else Itl K a
def iX (en : Bool) (K : PySem.W.Frag) (tl : TE) : TI := fun σ H R => tl σ H fun v H1 => ∃ a, v = .ref a ∧ (∃ xs, SqL K H1 a xs) ∧ R (itJ en K a) H1
section
variable {X : Cx} {c : Cn} {pos p1 : Pos} {tg a : Expr} {ta : TE}
theorem ix_list (ha : PE X a ta) : PI X tg a (iX false X.K ta) := pi_imp (pi_list ha) fun s H R q => q
theorem ix_enum {c : Cn} {mo : En → M DV} {elts : List Expr} {kk : Nat} {tpos : Pos} (hg : Gl X "enumerate") (hm : X.mg "enumerate" = none) (ha : PE X a (RE c mo)) (he : starEach [a] X.env = (false, eval a X.env) :: starEach [] X.env := by rfl) (hs : starEach [a] X.env = [(false, eval a X.env)] := by rfl) : PI X (.Tuple elts kk tpos) (.Call (.Name "enumerate" p1) [a] [] pos) (iX true X.K (RE c mo)) :=
  pi_imp (pi_enumB hg hm (pa_cons ha pa_nil he) hs) fun s H R q => by
    obtain ⟨W, e, h, S, q⟩ := q
    refine ⟨W, e, h, S, q.imp (fun _ _ _ _ z => z) fun v H1 z => ?_⟩
    obtain ⟨a, e1, ⟨xs, sq⟩, r⟩ := z
    exact ⟨false, a, xs, by rw [e1], sq, r⟩
theorem asL_at {c : Cn} {W : Wd} {e : En} {h : HP} {s : L2.St} {H : Hp} {d : DV} {p : Addr} {l : List DV} (S : Sim c W e h s H) (r : Rep c.g W H d (.ref p)) (a : asL h d = some l) : ∃ vs, SqL c.g.K H p vs ∧ Reps c.g W H l vs := by
  obtain ⟨p', vs, e1, sq, rs⟩ := asL_ok S (.inl r) a
  cases e1
  exact ⟨vs, sq, rs⟩
theorem itJ_go {en : Bool} {K : PySem.W.Frag} {H : Hp} {p : Addr} {vs : List V} {i : Nat} {v : V} (sq : SqL K H p vs) (e : vs[i]? = some v) : (itJ en K p).go i H := by
  cases en with
  | false => exact ⟨vs, v, sq, e⟩
  | true => exact ⟨vs, v, sq, e⟩
theorem itJ_stop {en : Bool} {K : PySem.W.Frag} {H : Hp} {p : Addr} {vs : List V} (sq : SqL K H p vs) : (itJ en K p).stop vs.length H := by
  cases en with
  | false => exact ⟨vs, sq, Nat.le_refl _⟩
  | true => exact ⟨vs, sq, rfl⟩
theorem itJ_yld {en : Bool} {K : PySem.W.Frag} {H H' : Hp} {p : Addr} {vs : List V} {i : Nat} {v x : V} (sq : SqL K H p vs) (e : vs[i]? = some v) (y : (itJ en K p).yld i H x H') : if en then ∃ T, x = .ref T ∧ H T = none ∧ H' = upd H T (.tup [.int (i : Nat), v]) else H' = H ∧ x = v := by
  cases en with
  | false =>
    obtain ⟨h1, h2⟩ := y
    have := h2 vs sq
    rw [e] at this
    exact ⟨h1, (Option.some.inj this).symm⟩
  | true =>
    obtain ⟨T, x', h1, h2, h3, h4⟩ := y
    have := h4 vs sq
    rw [e] at this
    cases this
    exact ⟨T, h1, h2, h3⟩
theorem s_forX {en : Bool} {iter : Expr} {body : List Stmt} {mo : En → M DV} {t : DV → En → Option En} {sl fg : List Nat} {b : Stm} (hk : X.K = c.g.K) (hp : PassesOwn (model X.prog X.w) X.A X.env X.xe) (hc : X.calm = true) (hi : PI X tg iter (iX en X.K (RE c mo))) (hg : PG X tg (RG c t sl)) (hb : PSs X body (RS c b))
    (hs : ∀ x, foldedSetIterable iter X.env x = pure x := by intro _; rfl) : PS X (.For tg iter body [] pos) (RS c (sForX en mo t fg b)) := ps_imp (ps_for hp hc hi hg hb hs) fun D s H q => by
  obtain ⟨W, e, h, S0, q⟩ := q
  refine ⟨W, e, h, S0, sb_at (R := rV c) S0 q fun W1 H1 o v h1 t1 S1 r q2 => ?_⟩
  have r : Rep c.g W1 H1 o v := r
  -- a list it is
  have isL : ∃ l, asL h1 o = some l := by
    unfold lenX at q2
    cases z : asL h1 o with
    | some l => exact ⟨l, rfl⟩
    | none =>
      rw [z] at q2
      unfold forX at q2
      rw [z] at q2
      exact q2.elim
  obtain ⟨l0, el0⟩ := isL
  obtain ⟨p, vs0, e1, sq0, rs0⟩ := asL_ok S1 (.inl r) el0
  subst e1
  refine ⟨p, rfl, ⟨vs0, by rw [hk]; exact sq0⟩, ?_⟩
  refine ⟨fun i m s' Hc => ∃ Wc ec hc, Per W1 H1 Wc Hc ∧ Sim c Wc ec hc s' Hc ∧ PostS c Wc Hc (forX en t b fg o m i ec hc) D,
    ⟨lenX h1 o, W1, _, h1, Per.refl _ _, S1.wipe' fg, q2⟩, ?_⟩
  rintro i m s' Hc ⟨Wc, ec, hc, pc, Sc, q3⟩
  have rc : Rep c.g Wc Hc o (.ref p) := r.per pc _ _
  have endd : ∀ l, asL hc o = some l → i = l.length → PostS c Wc Hc (.nx ec hc) D → (itJ en X.K p).stop i Hc ∧ D.nx s' Hc := fun l el ei q => by
    obtain ⟨vs, sq, rs⟩ := asL_at Sc rc el
    rw [hk, ei, rs.len]
    exact ⟨itJ_stop sq, q.nx Sc⟩
  cases m with
  | zero =>
    unfold forX at q3
    cases z : asL hc o with
    | none =>
      rw [z] at q3
      exact q3.elim
    | some l =>
      rw [z] at q3
      simp only [] at q3
      by_cases hi : i = l.length
      · rw [if_pos hi] at q3
        exact .inl (endd l z hi q3)
      · rw [if_neg hi] at q3
        exact q3.elim
  | succ m =>
    unfold forX at q3
    cases z : asL hc o with
    | none =>
      rw [z] at q3
      exact q3.elim
    | some l =>
      rw [z] at q3
      simp only [] at q3
      cases zd : l[i]? with
      | none =>
        rw [zd] at q3
        simp only [] at q3
        by_cases hi : i = l.length
        · rw [if_pos hi] at q3
          exact .inl (endd l z hi q3)
        · rw [if_neg hi] at q3
          exact q3.elim
      | some d =>
        rw [zd] at q3
        simp only [] at q3
        obtain ⟨vs, sq, rs⟩ := asL_at Sc rc z
        obtain ⟨u, eu, ru⟩ := rs.get zd
        rw [hk]
        refine .inr ⟨itJ_go sq eu, fun s2 H2 => ∃ Wc ec hc, Per W1 H1 Wc H2 ∧ Sim c Wc ec hc s2 H2 ∧ PostS c Wc H2 (forX en t b fg o m (i + 1) ec hc) D, fun s2 H2 z => ⟨m, Nat.lt_succ_self _, z⟩, fun x H' y => ?_⟩
        have y := itJ_yld sq eu y
        have item : Step Wc Hc Wc H' ∧ HSim c.g Wc hc H' ∧ Rep c.g Wc H' (elX en i d) x := by
          cases en with
          | false =>
            obtain ⟨y1, y2⟩ := y
            subst y1 y2
            exact ⟨Step.refl _ _, Sc.hs, ru⟩
          | true =>
            obtain ⟨T, y1, y2, y3⟩ := y
            subst y1 y3
            have tn : Step Wc Hc Wc (upd Hc T (.tup [.int (i : Nat), u])) := Step.new y2
            have pn := tn.per Sc.hs
            refine ⟨tn, Sc.hs.new y2 pn, ?_⟩
            show Rep c.g Wc _ (.tup [.int (i : Int), d]) _
            simp only [Rep]
            exact ⟨T, _, rfl, .inl (.inl upd_same), .cons (by simp only [Rep]) (.cons (ru.per pn _ _) .nil)⟩
        obtain ⟨t2, s2, rd⟩ := item
        have p2 := t2.per Sc.hs
        refine ⟨Wc, ec, hc, elX en i d, Sc.step t2 s2, rd, ?_⟩
        cases zt : t (elX en i d) ec with
        | none =>
          rw [zt] at q3
          exact q3.elim
        | some e1 =>
          rw [zt] at q3
          intro s3 S3 _ _
          refine ⟨Wc, e1, hc, S3, ?_⟩
          have q4 : PostS c Wc H' (match b e1 hc with
            | .nx e2 h2 => forX en t b fg o m (i + 1) (wipeE e2 fg) h2
            | .ct e2 h2 => forX en t b fg o m (i + 1) (wipeE e2 fg) h2
            | .bk e2 h2 => .nx (wipeE e2 fg) h2
            | .rt d h2 => .rt d h2
            | .exc x e2 h2 => .exc x e2 h2
            | .bad => .bad) D := q3.later p2
          cases zb : b e1 hc with
          | nx e2 h2 =>
            rw [zb] at q4
            exact fun W' s' H2 p S' => ⟨W', _, h2, (pc.trans p2).trans p, S'.wipe' fg, q4.later p⟩
          | ct e2 h2 =>
            rw [zb] at q4
            exact fun W' s' H2 p S' => ⟨W', _, h2, (pc.trans p2).trans p, S'.wipe' fg, q4.later p⟩
          | bk e2 h2 =>
            rw [zb] at q4
            exact fun W' s' H2 p S' => q4 W' s' H2 p (S'.wipe' fg)
          | rt d h2 =>
            rw [zb] at q4
            exact q4
          | exc x e2 h2 =>
            rw [zb] at q4
            exact q4
          | bad =>
            rw [zb] at q4
            exact q4
end
section
variable {T : Tp} {X : Cx} {c : Cn} {N : List Str} {k : Nat} {sc : Scope} {pos : Pos} {tg iter : Expr} {body : List Stmt} {en : Bool} {mo : En → M DV} {t : DV → En → Option En} {sl : List Nat} {b : Stm}
theorem k_forX (fg : List Nat) (hX : XSt T X c N k sc) (hi : PI X tg iter (iX en X.K (RE c mo))) (hg : PG X tg (RG c t sl)) (hb : PSs X body (RS c b)) (hs : ∀ x, foldedSetIterable iter X.env x = pure x := by intro _; rfl) : PS X (.For tg iter body [] pos) (RS c (sForX en mo t fg b)) :=
  s_forX hX.e.kk hX.pa hX.e.calm hi hg hb hs
end
@[simp] theorem sForX_app (en : Bool) (mo : En → M DV) (t : DV → En → Option En) (fg : List Nat) (b : Stm) (e : En) (h : HP) : sForX en mo t fg b e h = uR (mo e h) e fun o e h => forX en t b fg o (lenX h o) 0 (wipeE e fg) h := rfl
/-- the list stays: a walk over its items -/
theorem forX_drop {en : Bool} {t : DV → En → Option En} {b : Stm} {fg : List Nat} {o : DV} {l : List DV} (I : En → HP → Prop) (hI : ∀ e h, I e h → asL h o = some l) (st : ∀ (i : Nat) (d : DV) (e : En) (h : HP), l[i]? = some d → I e h → (∀ e' h', turn t b fg (elX en i d) e h = .nx e' h' → I e' h')) :
    ∀ (n i : Nat) (e : En) (h : HP), i + n = l.length → I e h → forX en t b fg o n i e h = forL t b fg ((List.range n).map fun j => elX en (i + j) (l.getD (i + j) .non)) e h
  | 0, i, e, h, hn, ih => by
    unfold forX
    rw [hI e h ih]
    simp only []
    rw [if_pos (by omega)]
    rfl
  | n + 1, i, e, h, hn, ih => by
    have hi : i < l.length := by omega
    have ed : l[i]? = some l[i] := List.getElem?_eq_getElem hi
    have eg : l.getD i .non = l[i] := by rw [List.getD_eq_getElem?_getD, ed]; rfl
    rw [List.range_succ_eq_map, List.map_cons, List.map_map, forL_cons]
    simp only [Nat.add_zero]
    rw [eg]
    have rest : ((List.range n).map ((fun j => elX en (i + j) (l.getD (i + j) .non)) ∘ Nat.succ)) = (List.range n).map fun j => elX en (i + 1 + j) (l.getD (i + 1 + j) .non) := by
      apply List.map_congr_left
      intro j _
      show elX en (i + (j + 1)) (l.getD (i + (j + 1)) .non) = _
      rw [show i + (j + 1) = i + 1 + j by omega]
    rw [rest]
    have ih2 := forX_drop I hI st n (i + 1)
    have sti := st i l[i] e h ed ih
    unfold forX
    rw [hI e h ih]
    simp only [ed]
    unfold turn at sti ⊢
    cases zt : t (elX en i l[i]) e with
    | none => rfl
    | some e1 =>
      rw [zt] at sti
      simp only [oR_some] at sti ⊢
      cases zb : b e1 h with
      | nx e2 h2 =>
        rw [zb] at sti
        simp only [wR_nx, lR_nx] at sti ⊢
        exact ih2 _ _ (by omega) (sti _ _ rfl)
      | ct e2 h2 =>
        rw [zb] at sti
        simp only [wR_ct, lR_nx] at sti ⊢
        exact ih2 _ _ (by omega) (sti _ _ rfl)
      | bk e2 h2 => rfl
      | rt d h2 => rfl
      | exc x e2 h2 => rfl
      | bad => rfl
theorem forX_frz {t : DV → En → Option En} {b : Stm} {fg : List Nat} {o : DV} {l : List DV} (hI : ∀ h, asL h o = some l) (e : En) (h : HP) : forX false t b fg o l.length 0 e h = forL t b fg l e h := by
  rw [forX_drop (l := l) (fun _ _ => True) (fun _ h _ => hI h) (fun _ _ _ _ _ _ _ _ _ => trivial) l.length 0 e h (by omega) trivial]
  congr 1
  apply List.ext_getElem?
  intro j
  by_cases hj : j < l.length
  · rw [List.getElem?_map, List.getElem?_range hj, List.getElem?_eq_getElem hj]
    simp only [Option.map_some, elX, Nat.zero_add]
    rw [List.getD_eq_getElem?_getD, List.getElem?_eq_getElem hj]
    rfl
  · rw [List.getElem?_eq_none (by simp; omega), List.getElem?_eq_none (by omega)]
theorem map_getD {en : Bool} (l : List DV) (he : en = false) : ((List.range l.length).map fun j => elX en (0 + j) (l.getD (0 + j) .non)) = l := by
  subst he
  apply List.ext_getElem?
  intro j
  by_cases hj : j < l.length
  · rw [List.getElem?_map, List.getElem?_range hj, List.getElem?_eq_getElem hj]
    simp only [Option.map_some, elX, Nat.zero_add]
    rw [List.getD_eq_getElem?_getD, List.getElem?_eq_getElem hj]
    rfl
  · rw [List.getElem?_eq_none (by simp; omega), List.getElem?_eq_none (by omega)]
/-- .. where the changing heap holds the list and no turn changes that -/
theorem forX_inv {t : DV → En → Option En} {b : Stm} {fg : List Nat} {o : DV} {l : List DV} (I : En → HP → Prop) (hI : ∀ e h, I e h → asL h o = some l) (st : ∀ (d : DV) (e : En) (h : HP), d ∈ l → I e h → (∀ e' h', turn t b fg d e h = .nx e' h' → I e' h')) (e : En) (h : HP) (ih : I e h) : forX false t b fg o l.length 0 e h = forL t b fg l e h := by
  rw [forX_drop (l := l) I hI (fun i d e h hd => st d e h (List.mem_of_getElem? hd)) l.length 0 e h (by omega) ih, map_getD l rfl]
@[simp] theorem asL_lst (l : List DV) (h : HP) : asL h (.lst l) = some l := rfl
theorem asL_ref {h : HP} {p : Nat} {l : List DV} (e : h[p]? = some (.lst l)) : asL h (.ref p) = some l := by
  show (match h[p]? with
    | some (.lst l) => some l
    | _ => none) = _
  rw [e]
theorem lenX_of {h : HP} {o : DV} {l : List DV} (e : asL h o = some l) : lenX h o = l.length := by
  unfold lenX
  rw [e]
end LM

/-! Lists on the changing heap: append, pop, compared. -/
namespace LM
open PySem L2

/-! ### o.append(e) -/
def appH (h : HP) (o d : DV) : Option HP := match o with
  | .ref p => (match h[p]? with
    | some (.lst l) => if l.length < LN then some (h.set p (.lst (l ++ [d]))) else none
    | _ => none)
  | _ => none
def sAppH (mo mv : En → M DV) : Stm := sBind mo fun o => sBind mv fun d e h => hNx (appH h o d) e
def lstAt (h : HP) (o : DV) : Bool := match o with
  | .ref p => (match h[p]? with
    | some (.lst _) => true
    | _ => false)
  | _ => false
def sAppH' (mo mv : En → M DV) : Stm := sBind mo fun o e h => if lstAt h o then (sBind mv fun d e h => hNx (appH h o d) e) e h else .bad
theorem lst_at {c : Cn} {W : Wd} {e : En} {h : HP} {s : L2.St} {H : Hp} {p : Nat} {v : V} {l : List DV} (S : Sim c W e h s H) (r : Rep c.g W H (.ref p) v) (q : h[p]? = some (.lst l)) : ∃ a vs, v = .ref a ∧ W.r[p]? = some a ∧ H a = some (.lst vs) ∧ Reps c.g W H l vs := by
  simp only [Rep] at r
  obtain ⟨a, e1, e2⟩ := r
  obtain ⟨⟨vs, e3, rs⟩, _⟩ := S.hs.o p _ a q e2
  exact ⟨a, vs, e1, e2, e3, rs⟩
section
variable {T : Tp} {X : Cx} {c : Cn} {N : List Str} {k : Nat} {sc : Scope} {pos p2 p3 : Pos} {o ex : Expr} {mo mv : En → M DV}
theorem s_appH (ho : PE X o (RE c mo)) (hv : PE X ex (RE c mv)) (hst : starEach (ex :: []) X.env = (false, eval ex X.env) :: starEach [] X.env := by rfl)
    (hbase : attributeBase o "append" X.env (eval o X.env) = eval o X.env := by rfl)
    (hfew : ((backTo p3 (starEach (ex :: []) X.env)).all (fun x => !x.1) && (backToKw p3 (keywordEach [] X.env)).all (fun x => x.1.isSome)
      && decide ((ex :: []).length + ([] : List Keyword).length + (if ([] : List Keyword).isEmpty then 0 else 1) < 30)) = true := by rfl)
    (hline : (p2.endLine == p3.line) = true := by rfl)
    (hs : swapsWith (.Call (.Attribute o "append" p2) [ex] [] p3) none pos.line X.env = pure false := by rfl) :
    PS X (.Expr (.Call (.Attribute o "append" p2) [ex] [] p3) pos) (RS c (sAppH' mo mv)) :=
  ps_imp (ps_expr (pe_bm PySem.F.plainAttrs_list PySem.F.slot_list_append PySem.F.type_list_append mt_append ho (pa_cons hv pa_nil hst) hbase hfew hline hst rfl) hs) fun D s H q => by
    refine sb_use q fun W e W1 H1 od w h1 t S r q1 => ?_
    by_cases zl : lstAt h1 od = true
    rotate_left
    · rw [if_neg zl] at q1
      exact q1.elim
    rw [if_pos zl] at q1
    cases od with
    | ref p =>
      have zl : (match h1[p]? with
        | some (.lst _) => true
        | _ => false) = true := zl
      cases z : h1[p]? with
      | none =>
        rw [z] at zl
        cases zl
      | some ob =>
        rw [z] at zl
        cases ob with
        | obj _ _ => cases zl
        | lst l =>
          obtain ⟨a, vs, e1, e2, e3, rs⟩ := lst_at S r z
          subst e1
          refine ⟨.inl ⟨rfl, _, .inl (.inl e3)⟩, W1, e, h1, S, sb_at (R := rV c) S q1 fun W2 H2 d u h2 t2 S2 ru q2 => ?_⟩
          have ro2 : Rep c.g W2 H2 (.ref p) (.ref a) := r.per (t2.per S.hs) _ _
          have q2 : PostS c W2 H2 (hNx (appH h2 (.ref p) d) e) D := q2
          unfold appH at q2
          simp only [] at q2
          cases z2 : h2[p]? with
          | none =>
            rw [z2] at q2
            exact q2.elim
          | some ob2 =>
            rw [z2] at q2
            cases ob2 with
            | obj _ _ => exact q2.elim
            | lst l2 =>
              simp only [] at q2
              by_cases hl : l2.length < LN
              rotate_left
              · rw [if_neg hl] at q2
                exact q2.elim
              rw [if_pos hl] at q2
              have q3 : PostS c W2 H2 (.nx e (h2.set p (.lst (l2 ++ [d])))) D := q2
              obtain ⟨a2, vs2, f1, f2, f3, rs2⟩ := lst_at S2 ro2 z2
              cases f1
              obtain ⟨st, hs⟩ := S2.hs.write (o' := .lst (l2 ++ [d])) (u' := .lst (vs2 ++ [u])) z2 f2 f3 fun pr => ⟨_, upd_same, (rs2.per pr _ _).app (.cons (Rep.per pr _ _ ru) .nil)⟩
              exact ⟨a, vs2, u, rfl, rfl, f3, by rw [← rs2.len, line_LN]; exact hl, (q3.later (st.per S2.hs)).nx (S2.step st hs)⟩
    | _ => cases zl
/-! ### o.pop() -/
def popH (h : HP) (o : DV) : Option (DV × HP) := match o with
  | .ref p => (match h[p]? with
    | some (.lst l) => (match l[l.length - 1]? with
      | some d => some (d, h.set p (.lst l.dropLast))
      | none => none)
    | _ => none)
  | _ => none
def popR (o : Option (DV × HP)) : Res DV := match o with
  | some (d, h) => .ok d h
  | none => .bad
def ePop (mo : En → M DV) : En → M DV := fun e => mo e >>= fun o h => popR (popH h o)
theorem Reps.dropLast {g : Glue} {W : Wd} {H : Hp} {l : List DV} {vs : List V} (r : Reps g W H l vs) : Reps g W H l.dropLast vs.dropLast := by
  rw [List.dropLast_eq_take, List.dropLast_eq_take, r.len]
  exact Reps.take _ r
theorem c_pop (ho : PE X o (RE c mo)) (hbase : attributeBase o "pop" X.env (eval o X.env) = eval o X.env := by rfl) (hline : (p2.endLine == p3.line) = true := by rfl) : PE X (.Call (.Attribute o "pop" p2) [] [] p3) (RE c (ePop mo)) :=
  pe_imp (pe_bm0 PySem.F.plainAttrs_list PySem.F.slot_list_pop PySem.F.type_list_pop mt_pop ho hbase hline) fun s H Q q => by
    refine RX.bind (k := fun _ o h => popR (popH h o)) q fun W e W1 H1 od v h1 t S r q2 => ?_
    unfold popH at q2
    cases od with
    | ref p =>
      simp only [] at q2
      cases z : h1[p]? with
      | none =>
        rw [z] at q2
        exact q2.elim
      | some ob =>
        rw [z] at q2
        cases ob with
        | obj _ _ => exact q2.elim
        | lst l =>
          simp only [] at q2
          cases zd : l[l.length - 1]? with
          | none =>
            rw [zd] at q2
            exact q2.elim
          | some d =>
            rw [zd] at q2
            have q3 : Post c (rV c H) e s W1 H1 (.ok d (h1.set p (.lst l.dropLast))) Q := q2
            obtain ⟨a, vs, e1, e2, e3, rs⟩ := lst_at S r z
            subst e1
            obtain ⟨u, eu, ru⟩ := rs.get zd
            obtain ⟨st, hs⟩ := S.hs.write (o' := .lst l.dropLast) (u' := .lst vs.dropLast) z e2 e3 fun pr => ⟨_, upd_same, rs.dropLast.per pr _ _⟩
            refine ⟨.inl ⟨rfl, _, .inl (.inl e3)⟩, a, vs, u, rfl, rfl, e3, by rw [← rs.len]; exact eu, ?_⟩
            exact q3 W1 _ u st (S.step st hs) (ru.per (st.per S.hs) _ _)
    | _ => exact q2.elim
/-! ### == of such lists -/
def dr (h : HP) (x : DV) : DV := match x with
  | .ref p => (match h[p]? with
    | some (.lst l) => .lst l
    | _ => .ref p)
  | d => d
def vEqX (x y : DV) : M DV := fun h => vEq (dr h x) (dr h y) h
def vNeX (x y : DV) : M DV := fun h => vNe (dr h x) (dr h y) h
theorem dpX_of {W : Wd} {e : En} {h : HP} {s : L2.St} {H : Hp} {d : DV} {v : V} {p : PyData} (S : Sim c W e h s H) (r : RepB c.g W H d v) (q : toPD (dr h d) = some p) : Dp c.g.K H v p := by
  cases d with
  | ref i =>
    have q2 : toPD (match h[i]? with
      | some (.lst l) => .lst l
      | _ => .ref i) = some p := q
    cases z : h[i]? with
    | none =>
      rw [z] at q2
      simp only [toPD] at q2
      cases q2
    | some ob =>
      rw [z] at q2
      cases ob with
      | obj _ _ =>
        simp only [toPD] at q2
        cases q2
      | lst l =>
        simp only [toPD] at q2
        rcases r with r | ⟨l2, a, vs, e1, e2, e3, r, n⟩ | ⟨ks, l2, a, vs, e1, e2, e3, z2, r, n⟩
        · obtain ⟨a, vs, e1, e2, e3, rs⟩ := lst_at S r z
          subst e1
          cases z3 : toPDs l with
          | none =>
            rw [z3] at q2
            cases q2
          | some ps =>
            rw [z3] at q2
            cases q2
            exact .lst (.of e3) (dps_of l vs ps rs z3)
        · cases e1
        · cases e1
  | _ => exact dpB_of r q
theorem prim_eqX {K : PySem.W.Frag} (hk : c.g.K = K) : Prim2 c (pB c) (pB c) (rV c) vEqX (rEqD K) := by
  subst hk
  refine ⟨fun {W e h s H Hs x y v w Q} S rx ry nw q => ?_⟩
  unfold vEqX vEq at q
  cases z : eqD (dr h x) (dr h y) with
  | none =>
    rw [z] at q
    exact q.elim
  | some b =>
    rw [z] at q
    obtain ⟨d, f, h1, h2, h3, h4, h5⟩ := eqD_ok z
    exact ⟨d, f, dpX_of S rx h1, dpX_of S ry h2, h3, h4, by rw [← h5]; exact q.ret S (by simp only [rV, Rep])⟩
theorem prim_neX {K : PySem.W.Frag} (hk : c.g.K = K) : Prim2 c (pB c) (pB c) (rV c) vNeX (rNeD K) := by
  subst hk
  refine ⟨fun {W e h s H Hs x y v w Q} S rx ry nw q => ?_⟩
  unfold vNeX vNe at q
  cases z : eqD (dr h x) (dr h y) with
  | none =>
    rw [z] at q
    exact q.elim
  | some b =>
    rw [z] at q
    obtain ⟨d, f, h1, h2, h3, h4, h5⟩ := eqD_ok z
    exact ⟨d, f, dpX_of S rx h1, dpX_of S ry h2, h3, h4, by rw [← h5]; exact q.ret S (by simp only [rV, Rep])⟩
variable {a b : Expr} {ma mb : En → M DV}
theorem c_eqX (hk : X.K = c.g.K) (hu : X.A.units + 64 < cLine) (ha : PE X a (RB c ma)) (hb : PE X b (RB c mb)) : PE X (.Compare a [.Eq] [b] pos) (RE c (e2 vEqX ma mb)) := c_cmp (op_eqD hu) stays_B (prim_eqX hk.symm) ha hb (nomark _)
theorem c_neX (hk : X.K = c.g.K) (hu : X.A.units + 64 < cLine) (ha : PE X a (RB c ma)) (hb : PE X b (RB c mb)) : PE X (.Compare a [.NotEq] [b] pos) (RE c (e2 vNeX ma mb)) := c_cmp (op_neD hu) stays_B (prim_neX hk.symm) ha hb (nomark _)
theorem t_eqX (hk : X.K = c.g.K) (hu : X.A.units + 64 < cLine) (ha : PE X a (RB c ma)) (hb : PE X b (RB c mb)) : PT X (.Compare a [.Eq] [b] pos) (RT c (tb (e2 vEqX ma mb))) := t_cmp (op_eqD hu) stays_B (prim_eqX hk.symm) ha hb (nomark _)
theorem t_neX (hk : X.K = c.g.K) (hu : X.A.units + 64 < cLine) (ha : PE X a (RB c ma)) (hb : PE X b (RB c mb)) : PT X (.Compare a [.NotEq] [b] pos) (RT c (tb (e2 vNeX ma mb))) := t_cmp (op_neD hu) stays_B (prim_neX hk.symm) ha hb (nomark _)
end
@[simp] theorem sAppH_app (mo mv : En → M DV) (e : En) (h : HP) : sAppH' mo mv e h = uR (mo e h) e fun o e h => if lstAt h o then uR (mv e h) e fun d e h => hNx (appH h o d) e else .bad := rfl
@[simp] theorem ePop_app (mo : En → M DV) (e : En) (h : HP) : ePop mo e h = bR (mo e h) fun o h => popR (popH h o) := rfl
@[simp] theorem vEqX_app (x y : DV) (h : HP) : vEqX x y h = vEq (dr h x) (dr h y) h := rfl
@[simp] theorem vNeX_app (x y : DV) (h : HP) : vNeX x y h = vNe (dr h x) (dr h y) h := rfl
theorem dr_ref {h : HP} {p : Nat} {l : List DV} (e : h[p]? = some (.lst l)) : dr h (.ref p) = .lst l := by
  show (match h[p]? with
    | some (.lst l) => DV.lst l
    | _ => .ref p) = _
  rw [e]
@[simp] theorem dr_lst (h : HP) (l : List DV) : dr h (.lst l) = .lst l := rfl
@[simp] theorem dr_tup (h : HP) (l : List DV) : dr h (.tup l) = .tup l := rfl
theorem lstAt_ref {h : HP} {p : Nat} {l : List DV} (e : h[p]? = some (.lst l)) : lstAt h (.ref p) = true := by
  show (match h[p]? with
    | some (.lst _) => true
    | _ => false) = _
  rw [e]
theorem appH_ref {h : HP} {p : Nat} {l : List DV} (d : DV) (e : h[p]? = some (.lst l)) (hl : l.length < 16777216) : appH h (.ref p) d = some (h.set p (.lst (l ++ [d]))) := by
  show (match h[p]? with
    | some (.lst l) => if l.length < LN then some (h.set p (.lst (l ++ [d]))) else none
    | _ => none) = _
  rw [e]
  exact if_pos hl
theorem popH_ref {h : HP} {p : Nat} {l : List DV} {d : DV} (e : h[p]? = some (.lst (l ++ [d]))) : popH h (.ref p) = some (d, h.set p (.lst l)) := by
  show (match h[p]? with
    | some (.lst l) => (match l[l.length - 1]? with
      | some d => some (d, h.set p (.lst l.dropLast))
      | none => none)
    | _ => none) = _
  rw [e]
  simp
end LM

/-! max(a tuple, default=d); a list's index. -/
namespace LM
open PySem L2
/-! ### max(.., default=..) -/
def mxO : List Int → Int → Int
  | [], d => d
  | y :: ys, _ => ys.foldl max y
def rMx (K : PySem.W.Frag) : List V → List V → Hp → VK → Prop := fun xs zs H Q => ∃ (a : Addr) (ns : List Int) (d : Int), xs = [V.ref a] ∧ SqT K H a (ns.map V.int) ∧ zs = [V.int d] ∧ Q (.int (mxO ns d)) H
theorem reads_ints {h : Heap} : ∀ {ns : List Int} {us : List Value}, Vals (ns.map V.int) us → ReadsAll h us (ns.map PyData.int) []
  | [], _, .nil => .nil
  | _ :: _, _, .cons ⟨_, e⟩ r => by
    subst e
    exact ReadsAll.cons (as := []) (bs := []) (Reads.int _ _) (reads_ints r)
theorem cr_mx {X : Cx} (hc : X.calm = true) (hu : X.A.units + 64 < cLine) : CallRK X (.builtin "max") (["default"] : List Str) (rMx X.K) := by
  intro pins s σ H xs zs us ws Q I r r2 h
  obtain ⟨a, ns, d, rfl, hs, rfl, q⟩ := h
  obtain ⟨its, rv, hl, hz⟩ := I.tuple hs
  rw [Vals.ref1 r]
  obtain ⟨u, rfl, t, rfl⟩ := Vals.one r2
  have ra := reads_ints (h := s.heap) rv
  have dep : PyData.depthAll (ns.map PyData.int) = 0 := dep_ints ns
  refine PySem.W.max_tuple_default (as := []) (xs := ns.map PyData.int) (vs := its.toArray) (I.ok.hd hc) hl (by simpa using ra) ⟨fun x hx y hy => ?_, fun x hx => ?_⟩ (by rw [dep]; omega) (fun e h' tk k => ?_) fun y ys i v h' tk bs e hi rd k => ?_
  · obtain ⟨i, _, e1⟩ := List.mem_map.mp hx
    obtain ⟨j, _, e2⟩ := List.mem_map.mp hy
    subst e1 e2
    rfl
  · obtain ⟨i, _, e1⟩ := List.mem_map.mp hx
    subst e1
    intro z
    cases z
  · have e := List.map_eq_nil_iff.mp e
    subst e
    exact ⟨.int d, H, I.kept k, ⟨_, rfl⟩, q⟩
  · cases ns with
    | nil => cases e
    | cons n r =>
      rw [List.map_cons] at e
      obtain ⟨e1, e2⟩ := List.cons.inj e
      subst e1 e2
      rw [PySem.W.maxD_ints] at rd
      cases rd
      exact ⟨.int (mxO (n :: r) d), H, I.kept k, ⟨_, rfl⟩, q⟩
def vMaxD (x y : DV) : M DV := fun h => match x, y with
  | .tup l, .int d => (match asInts l with
    | some ns => .ok (.int (mxO ns d)) h
    | none => .bad)
  | _, _ => .bad
section
variable {X : Cx} {c : Cn} {pos p1 p2 p3 : Pos} {a b : Expr} {ma mb : En → M DV}
theorem c_maxD (hk : X.K = c.g.K) (hc : X.calm = true) (hu : X.A.units + 64 < cLine) (hg : Gl X "max") (hm : X.mg "max" = none) (ha : PE X a (RE c ma)) (hb : PE X b (RE c mb))
    (hea : starEach (a :: []) X.env = (false, eval a X.env) :: starEach [] X.env := by rfl)
    (he : backTo pos (starEach (a :: []) X.env) = (false, eval a X.env) :: backTo pos (starEach [] X.env) := by rfl) (hpl : (backTo pos (starEach (a :: []) X.env)).any (·.1) = false := by rfl)
    (hall : (backToKw pos (keywordEach [⟨some "default", b, p3⟩] X.env)).all (·.1.isSome) = true := by rfl) (hnone : (backToKw pos (keywordEach [⟨some "default", b, p3⟩] X.env)).any (·.1.isNone) = false := by rfl)
    (hks : (backToKw pos (keywordEach [⟨some "default", b, p3⟩] X.env)).filterMap (·.1) = (["default"] : List Str) := by rfl) :
    PE X (.Call (.Name "max" p1) [a] [⟨some "default", b, p3⟩] pos) (RE c (e2 vMaxD ma mb)) :=
  pe_imp (pe_callBK (cr_mx hc hu) hg hm (by decide +kernel) (pa_cons ha pa_nil hea) (pk_cons hb pk_nil) (by decide) (by decide) he hpl hall hnone hks) fun s H Q q =>
    RX.bind q fun W e W1 H1 x v h1 t S rx q2 => ⟨W1, e, h1, S, q2.bind fun W2 H2 y w h2 t2 S2 ry q3 => by
      have rx2 := stays_V.go S.hs t2 rx
      cases x with
      | tup l =>
        cases y with
        | int d =>
          have q4 : Post c (rV c H) e s W2 H2 (match asInts l with
            | some ns => .ok (.int (mxO ns d)) h2
            | none => .bad) Q := q3
          cases z : asInts l with
          | none =>
            rw [z] at q4
            exact q4.elim
          | some ns =>
            rw [z] at q4
            simp only [Rep] at rx2
            simp only [rV, Rep] at ry
            obtain ⟨p, vs, e1, sq, rs⟩ := rx2
            rw [asInts_map z] at rs
            have e2 := reps_ints_inv rs
            subst e1 e2 ry
            have q5 : Post c (rV c H) e s W2 H2 (.ok (DV.int (mxO ns d)) h2) Q := q4
            exact ⟨p, ns, d, rfl, by rw [hk]; exact sq, rfl, q5.ret S2 (by simp only [rV, Rep])⟩
        | _ => exact q3.elim
      | _ => exact q3.elim⟩
end
/-! ### l.index(x) -/
def idxI : List Int → Int → Option Nat
  | [], _ => none
  | x :: r, k => if x = k then some 0 else (idxI r k).map (· + 1)
theorem idxI_ok : ∀ {l : List Int} {k : Int} {j : Nat}, idxI l k = some j → l[j]? = some k ∧ ∀ m z, m < j → l[m]? = some z → z ≠ k
  | x :: r, k, j, h => by
    unfold idxI at h
    by_cases e : x = k
    · rw [if_pos e] at h
      cases h
      exact ⟨by rw [e]; rfl, fun m z hm => by omega⟩
    · rw [if_neg e] at h
      cases q : idxI r k with
      | none => rw [q] at h; cases h
      | some i =>
        rw [q] at h
        cases h
        obtain ⟨h1, h2⟩ := idxI_ok q
        refine ⟨by simpa using h1, fun m z hm hz => ?_⟩
        cases m with
        | zero =>
          have : x = z := by simpa using hz
          rw [← this]
          exact e
        | succ m => exact h2 m z (by have hm : m + 1 < i + 1 := hm; omega) (by simpa using hz)
  | [], _, _, h => by cases h
def vIndex (x y : DV) : M DV := fun h => match x, y with
  | .lst l, .int k => (match asInts l with
    | some ns => (match idxI ns k with
      | some j => .ok (.int (j : Int)) h
      | none => .bad)
    | none => .bad)
  | _, _ => .bad
section
variable {X : Cx} {c : Cn} {p2 p3 : Pos} {o ex : Expr} {mo mv : En → M DV}
def isLst : DV → Bool
  | .lst _ => true
  | _ => false
def eIndex (mo mv : En → M DV) : En → M DV := fun e => mo e >>= fun x h => if isLst x then (mv e >>= fun y => vIndex x y) h else .bad
theorem c_index (hk : X.K = c.g.K) (ho : PE X o (RE c mo)) (hv : PE X ex (RE c mv)) (hst : starEach (ex :: []) X.env = (false, eval ex X.env) :: starEach [] X.env := by rfl)
    (hbase : attributeBase o "index" X.env (eval o X.env) = eval o X.env := by rfl)
    (hfew : ((backTo p3 (starEach (ex :: []) X.env)).all (fun x => !x.1) && (backToKw p3 (keywordEach [] X.env)).all (fun x => x.1.isSome)
      && decide ((ex :: []).length + ([] : List Keyword).length + (if ([] : List Keyword).isEmpty then 0 else 1) < 30)) = true := by rfl)
    (hline : (p2.endLine == p3.line) = true := by rfl) :
    PE X (.Call (.Attribute o "index" p2) [ex] [] p3) (RE c (eIndex mo mv)) :=
  pe_imp (pe_bm PySem.F.plainAttrs_list PySem.F.slot_list_index PySem.F.type_list_index mt_index ho (pa_cons hv pa_nil hst) hbase hfew hline hst rfl) fun s H Q q => by
    refine RX.bind (k := fun e x h => if isLst x then (mv e >>= fun y => vIndex x y) h else .bad) q fun W e W1 H1 x v h1 t S rx q2 => ?_
    cases x with
    | lst l =>
      have q2 : Post c (rV c H) e s W1 H1 ((mv e >>= fun y => vIndex (.lst l) y) h1) Q := q2
      have rx0 : Rep c.g W1 H1 (.lst l) v := rx
      simp only [rV, Rep] at rx
      obtain ⟨a, vs, e1, f1, a1, rs⟩ := rx
      subst e1
      refine ⟨.inl ⟨rfl, _, .inl (.inl a1)⟩, W1, e, h1, S, q2.bind fun W2 H2 y w h2 t2 S2 ry q3 => ?_⟩
      have rx2 := stays_V.go S.hs t2 rx0
      cases y with
      | int k =>
        have q4 : Post c (rV c H) e s W2 H2 (match asInts l with
          | some ns => (match idxI ns k with
            | some j => .ok (.int (j : Int)) h2
            | none => .bad)
          | none => .bad) Q := q3
        cases z : asInts l with
        | none =>
          rw [z] at q4
          exact q4.elim
        | some ns =>
          rw [z] at q4
          simp only [] at q4
          cases z2 : idxI ns k with
          | none =>
            rw [z2] at q4
            exact q4.elim
          | some j =>
            rw [z2] at q4
            have q5 : Post c (rV c H) e s W2 H2 (.ok (DV.int (j : Int)) h2) Q := q4
            simp only [Rep] at rx2
            simp only [rV, Rep] at ry
            obtain ⟨p, vs2, e2, f2, a2, rs2⟩ := rx2
            cases e2
            rw [asInts_map z] at rs2
            have e3 := reps_ints_inv rs2
            subst e3 ry
            obtain ⟨i1, i2⟩ := idxI_ok z2
            refine ⟨a, ns.map V.int, .int k, j, .int k, rfl, rfl, by rw [hk]; exact .inl (.inl a2), rfl, ?_, by rw [List.getElem?_map, i1]; rfl, by simp [eqV], fun m z' hm hz => ?_, q5.ret S2 (by simp only [rV, Rep])⟩
            · rw [List.all_eq_true]
              intro y hy
              obtain ⟨i, _, e⟩ := List.mem_map.mp hy
              subst e
              rfl
            · rw [List.getElem?_map] at hz
              cases q : ns[m]? with
              | none => rw [q] at hz; cases hz
              | some z0 =>
                rw [q] at hz
                cases hz
                have := i2 m z0 hm q
                simp [eqV, this]
      | _ => exact q3.elim
    | _ => exact q2.elim
end
@[simp] theorem eIndex_app (mo mv : En → M DV) (e : En) (h : HP) : eIndex mo mv e h = bR (mo e h) fun x h => if isLst x then bR (mv e h) fun y h => vIndex x y h else .bad := rfl
theorem asInts_nums (l : List Int) : asInts (nums l) = some l := by
  induction l with
  | nil => rfl
  | cons x r ih =>
    show (match asInts (nums r) with
      | some l => some (x :: l)
      | none => none) = _
    rw [ih]
theorem vIndex_nums (l : List Int) (k : Int) (h : HP) : vIndex (.lst (nums l)) (.int k) h = match idxI l k with
    | some j => .ok (.int (j : Int)) h
    | none => .bad := by
  show (match asInts (nums l) with
    | some ns => _
    | none => _) = _
  rw [asInts_nums]
@[simp] theorem vMaxD_nums (l : List Int) (d : Int) (h : HP) : vMaxD (.tup (nums l)) (.int d) h = .ok (.int (mxO l d)) h := by
  show (match asInts (nums l) with
    | some ns => _
    | none => _) = _
  rw [asInts_nums]
end LM

/-! Constant tuples of texts. -/
namespace LM
open PySem L2
theorem isStrs_ok : ∀ {l : List Str} {vs : List Value}, isStrs l vs = true → Vals (l.map V.str) vs
  | [], [], _ => .nil
  | [], _ :: _, h => by cases h
  | i :: r, v :: s, h => by
    cases v with
    | str j t =>
      obtain ⟨a, b⟩ := He.ba (show (decide (i = j) && isStrs r s) = true from h)
      have e : i = j := of_decide_eq_true a
      subst e
      exact .cons ⟨t, rfl⟩ (isStrs_ok b)
    | _ => cases h
  | _ :: _, [], h => by cases h
theorem reps_strs {g : Glue} {W : Wd} {H : Hp} : ∀ l : List Str, Reps g W H (l.map DV.str) (l.map V.str)
  | [] => .nil
  | x :: r => .cons (by simp only [Rep]) (reps_strs r)
def CstOk (T : Tp) (x : Str) (l : List Str) : Prop := ∃ a, T.mg x = some (.ref a) ∧ ∀ W H, Rep T.g W H (.tup (l.map DV.str)) (.ref a)
theorem cst_of {T : Tp} {x : Str} {l : List Str} {a : Addr} (hm : T.mg x = some (.ref a)) (b : cstB a l T.g.K = true) : CstOk T x l := by
  refine ⟨a, hm, fun W H => ?_⟩
  unfold cstB at b
  cases q : T.g.K.lookup a with
  | none =>
    rw [q] at b
    cases b
  | some o =>
    obtain ⟨oc, od, dt, osl⟩ := o
    rw [q] at b
    cases oc with
    | type c =>
      cases dt with
      | seq its n =>
        obtain ⟨h2, h3⟩ := He.ba (show (decide (c = "tuple") && (Nat.ble its.size 1000 && isStrs l its.toList)) = true from b)
        obtain ⟨h4, h5⟩ := He.ba h3
        have ec : c = "tuple" := of_decide_eq_true h2
        have sz : its.size ≤ 1000 := Nat.le_of_ble_eq_true h4
        simp only [Rep]
        refine ⟨a, l.map V.str, rfl, .inr ⟨_, its, n, q, by rw [ec], rfl, ?_, isStrs_ok h5⟩, reps_strs l⟩
        rw [line_LN]
        show its.size ≤ 16777216
        omega
      | _ => cases b
    | _ => cases dt <;> cases b
theorem k_ctup {T : Tp} {X : Cx} {c : Cn} {N : List Str} {k : Nat} {sc : Scope} {x : Str} {pos : Pos} {l : List Str} (h : XEx T X c N k sc) (hg : Gl X x) (hm : CstOk T x l) (hd : (x == ("__debug__" : Str)) = false := by decide) : PE X (.Name x pos) (RE c (eC (.tup (l.map DV.str)))) := by
  obtain ⟨a, e, r⟩ := hm
  exact c_glob hg ⟨_, .ref a, by rw [h.pm]; exact e, rfl, fun W H => by rw [h.pg]; exact r W H⟩ hd
end LM

/-! A comprehension whose turn may raise. -/
namespace LMX
open PySem PySem.Spec PyProof.Rows L2

theorem note_eq {v : Value} {p q : PySem.Env} (h : p.frame = q.frame) : noteFrame v p = noteFrame v q := by
  unfold noteFrame PySem.frameOf
  rw [h]
section
variable {M : Model} {A : Around} {E : Value → Shared → Prop} {s : Shared} {Z : Obj → Prop} {B : Heap} {en : PySem.Env} {out : List PySem.Env} {L C e : Addr}
/-- told by another frame's number: this one is noted -/
theorem note_other {Q : Unit → Shared → Prop} (hZ : PXN.Steady1 Z) (hA : A.frames = some (en :: out)) (hf : en.frame = some L) (hC : C ≠ L) (x : HandSPX.HeldZ B (en :: out) e Z C s.heap)
    (hQ : ∀ g, HandSPX.HeldZ B (en :: out) e Z L g → s.heap.UpToSlots g → Q () { s with heap := g }) : wpAny M A (noteFrame (.ref e) en) Q E s := by
  obtain ⟨kb, ne, ff, ob, fs, T, oT, gs, a1, a2, a3, a4, a5, a6, a7, a8, a9⟩ := x
  unfold noteFrame
  simp only [hf]
  refine wpAny_bind (wpAny_field a1 a3 a4 ?_)
  rw [if_pos (by simp)]
  refine wpAny_bind (wpAny_field a7 a8 a9 ?_)
  have ni : (rawInt (C : Int) == rawInt (L : Int)) = false := by
    simp [rawInt]
    intro z
    exact hC (Int.ofNat_inj.mp z)
  rw [ni, if_neg (by decide)]
  refine wpAny_bind (wpAny_setField a7 a8 (Array.getElem?_eq_some_iff.mp a9).1 ?_)
  have oth : ∀ b, b ≠ T → (s.heap.update T (Obj.mapFields fun y => y.setIfInBounds 3 Value.none)).get? b = s.heap.get? b := fun b q => Heap.get?_update_other _ _ (Ne.symm q)
  have nT : ∀ b o, s.heap.get? b = some o → (∀ us, o.data ≠ .fields us) → b ≠ T := fun b o q1 q2 q3 => by
    rw [q3, a7] at q1
    exact q2 gs (by rw [← Option.some.inj q1]; exact a8)
  refine PXN.wpAny_entryZ (base := B) (outer := out) hZ hA (Heap.FunFrames.of_keeps (fun b o q1 q2 => ⟨o, by rw [oth b (nT b o q1 q2)]; exact q1, rfl⟩) ff) hf (by rw [oth e (Ne.symm a6)]; exact a1)
    (fun b o q => by
      rw [oth b fun z => by rw [z, a5] at q; cases q]
      exact kb b o q) ne a3 (Array.getElem?_eq_some_iff.mp a4).1 a2 fun g w => ?_
  obtain ⟨w1, w2, w3, w4⟩ := w
  exact hQ g ⟨w1, ne, w2, w3⟩ fun b o q1 q2 => w4 b o (by rw [oth b (nT b o q1 q2)]; exact q1) q2
theorem note_any {Q : Unit → Shared → Prop} (hZ : PXN.Steady1 Z) (hA : A.frames = some (en :: out)) (hf : en.frame = some L) (hC : C ≠ L) (x : Sky B (en :: out) e Z C s.heap)
    (hQ : ∀ g, HandSPX.HeldZ B (en :: out) e Z L g → s.heap.UpToSlots g → Q () { s with heap := g }) : wpAny M A (noteFrame (.ref e) en) Q E s := by
  rcases x with ⟨w1, w2, w3, ob, fs, w4, w5, w6, w7⟩ | x | x
  · exact PXN.look_newZ hZ hA w3 hf w4 w1 w2 w6 w7 w5 hQ
  · exact PXN.looks_onZ hZ hA hf x hQ
  · exact note_other hZ hA hf hC x hQ
end
/-- what is asked behind a comprehension's block -/
def cPost (M : Model) (A : Around) (E : Value → Shared → Prop) (Q : Value → Shared → Prop) (acc : Value) (ce : PySem.Env) (r : Result) (s : Shared) : Prop := match r with
  | .ok _ => ∃ m, s.heap.Ns ce.locals m ∧ ∀ g, Heap.SameBut ce.locals s.heap g → Q acc { s with heap := g }
  | .error x => ∃ m, s.heap.Ns ce.locals m ∧ ∀ g, Heap.SameBut ce.locals s.heap g → wpAny M A (passOn "comprehension.variables-let-go" x ce : Sem Value) (fun _ _ => False) E { s with heap := g }
section
variable {M : Model} {A : Around} {E : Value → Shared → Prop} {s : Shared} {env : PySem.Env}
theorem comp_x {e : Expr} {scope : Scope} {pos : Pos} {newAcc first : Sem Value} {g : Comprehension} {gs : List Comprehension} {cl : List (Str × Addr)} {Q : Value → Shared → Prop}
    (c1 : clausesOf e = g :: gs) (c2 : ∀ x, foldedSetIterable g.iter env x = pure x) (c3 : closureFor scope env = pure cl) (c4 : scope.kind = .function) (c5 : ∀ x ∈ scope.names, x.2 = .local → scope.names.lookup x.1 = some .local)
    (h : wpAny M A first (fun x t1 => wpAny M A (pyIter x) (fun it t2 => wpAny M A newAcc (fun acc t3 => wpAny M A (newFunctionEnv scope env.globals cl [] env.qual none .none (some env)) (fun ce t4 =>
      codeAny M A (.compStart e 0 it acc { ce with scope := relabel scope env }) (cPost M A E Q acc { ce with scope := relabel scope env }) t4) E t3) E t2) E t1) E s) :
    wpAny M A (comprehension e scope env pos newAcc false first none) Q E s := by
  have up : ∀ {α : Type} {t : Sem α} {R R' : α → Shared → Prop} {u : Shared}, wpAny M A t R E u → (∀ a v, R a v → R' a v) → wpAny M A t R' E u := fun k f => wpAny_mono k f fun _ _ z => z
  unfold comprehension
  rw [c3, c1]
  refine wpAny_bind (up h fun x t1 k1 => wpAny_bind (wpAny_standAt (wpAny_bind (wpAny_of_eq (c2 x) (wpAny_bind (wpAny_holding (up k1 fun it t2 k2 => wpAny_standIf (wpAny_bind (up k2 fun acc t3 k3 => wpAny_bind (wpAny_pure (wpAny_bind (up k3 fun ce t4 k4 => ?_))))))))))))
  dsimp only
  have hv : ∀ x ∈ (scope.names.filter fun y => (y.2 == .local || y.2 == .cell) && y.1 != (".0" : Str)).reverse, x.2 = .local → Env.kindOf { ce with scope := relabel scope env } x.1 = some .local :=
    fun x hx hl => lookup_relabel_local (c5 x (List.mem_filter.mp (List.mem_reverse.mp hx)).1 hl)
  refine wpAny_holding (wpAny_bind (wpAny_attempt (wpAny_holding (wpAny_run (codeAny_mono k4 fun r t5 hr => ?_)))))
  cases r with
  | ok f =>
    obtain ⟨m, hn, hr⟩ := hr
    exact wpAny_bind (wpAny_holding (wpAny_comp_letGo (cenv := { ce with scope := relabel scope env }) c4 _ t5 m hv hn fun g _ _ sb => wpAny_pure (hr g sb)))
  | error x =>
    obtain ⟨m, hn, hr⟩ := hr
    exact wpAny_bind (wpAny_holding (wpAny_comp_letGo (cenv := { ce with scope := relabel scope env }) c4 _ t5 m hv hn fun g _ _ sb => wpAny_mono (hr g sb) (fun _ _ f => f.elim) fun _ _ y => y))
end
/-- the block's context, with what becomes of its exceptions -/
abbrev blkX (X : Cx) (s : Shared) (H : Hp) (scope : Scope) (ce : PySem.Env) (fp : List Addr) (xe : Value → Shared → Prop) : Cx := (X.blk s H scope ce fp).tr [] xe
def atS (W : WX) (σ : L2.St) : WX := fun cls d _ H => W cls d σ H
section
variable {X : Cx}
/-- what the block lets out is in the def's air -/
theorem blk_out {pins : List (Addr × Obj)} {s : Shared} {σ : L2.St} {H : Hp} {scope : Scope} {ce : PySem.Env} {fp : List Addr} {xe : Value → Shared → Prop} {W : WX} {acc : Value} {Qf : Value → Shared → Prop} (hst : X.stack = X.env :: X.outer) (hfr : X.env.frame = some X.env.locals) (tk : L2N.Takes X W)
    (I : Inv X pins σ H s) (eL : ce.locals = s.heap.objs.size) (eF : ce.frame = X.env.frame) (hfp : ∀ b ∈ fp, FpOk X pins H b ∧ b < s.heap.objs.size) {u : Value} {t : Shared} (x : L2N.XE (blkX X s H scope ce fp xe) (atS W σ) u t) :
    notedBy (model X.prog X.w) X.A ce (fun v t' => cPost (model X.prog X.w) X.A X.xe Qf acc ce (.error v) t') u t := by
  obtain ⟨a, B, r, qs, σ', H', cls, d, rfl, J, nb, up, sky, na, os, ag, w⟩ := x
  have hA : X.A.frames = some (X.env :: X.outer) := by rw [I.ok.frames, hst]
  have hC : ce.locals ≠ X.env.locals := by
    rw [eL]
    exact (I.fpOk (H' := H') (Nat.le_refl _) (by
      have z : H' ce.locals = none := J.free
      rwa [eL] at z)).2.1
  show wpAny (model X.prog X.w) X.A (noteFrame (.ref a) ce) _ _ t
  rw [note_eq eF]
  have sky1 : Sky B (X.env :: X.outer) a (L2N.Zn cls d) ce.locals t.heap := by
    rw [← hst]
    exact sky
  refine note_any L2N.Zn.steady hA hfr hC sky1 fun h1 hh up1 => ?_
  have J1 : Inv (blkX X s H scope ce fp xe) qs σ' H' { t with heap := h1 } := J.landed nb hh.1 (up.trans up1) os ag
  obtain ⟨m, hn, _⟩ := J1.loc
  have hn : h1.Ns ce.locals m := hn
  refine ⟨m, hn, fun h2 sb => ?_⟩
  -- the def's state without the block
  have J2 : Inv X pins σ H' r := I.call' (ch := fp) J.os J.base J.hok J.bare fun b hb => ⟨(hfp b hb).1.2.2.2.1, (hfp b hb).1.2.1, (hfp b hb).1.2.2.2.2.1, (hfp b hb).1.2.2.2.2.2⟩
  have fC : FpOk X pins H' ce.locals := by
    rw [eL]
    exact I.fpOk (Nat.le_refl _) (by
      have z : H' ce.locals = none := J.free
      rwa [eL] at z)
  obtain ⟨f0, f1, f2, f3, f4, f5⟩ := fC
  have notC : ∀ {h : Heap} {b : Addr} {o : Obj}, (PySem.W.hideAll h [ce.locals]).get? b = some o → h.get? b = some o ∧ b ≠ ce.locals := fun {h b o} e => ⟨PySem.W.of_hideAll _ e, fun z => by
    rw [z, PySem.W.hideAll_none [ce.locals] List.mem_cons_self] at e
    cases e⟩
  have J3 : Inv X pins σ H' { r with heap := PySem.W.hideAll r.heap [ce.locals], toks := r.toks } := J2.turned (t' := r.toks) (fun b o hb e => PySem.W.hideAll_get _ e (by simpa using hb)) f0 f1 f3 f4 f5
  obtain ⟨k1, k2, k3, oe, vs, T, oT, ts, g1, g2, g3, g4, g5, g6, g7, g8, g9⟩ := hh
  obtain ⟨oC, es, ep, c1, c2, _⟩ := id hn
  have aC : a ≠ ce.locals := fun z => by
    rw [← z, g1] at c1
    rw [← Option.some.inj c1, g3] at c2
    cases c2
  have tC : T ≠ ce.locals := fun z => by
    rw [← z, g7] at c1
    rw [← Option.some.inj c1, g8] at c2
    cases c2
  have hid : ∀ {b}, B.get? b = none → (PySem.W.hideAll B [ce.locals]).get? b = none := fun {b} e => by
    cases q : (PySem.W.hideAll B [ce.locals]).get? b with
    | none => rfl
    | some o =>
      rw [(notC q).1] at e
      cases e
  have frC : ∀ b ∈ frs (X.env :: X.outer), b ≠ ce.locals := fun b hb z => by
    rcases List.mem_filterMap.mp hb with ⟨e, he, q⟩
    rcases List.mem_cons.mp he with e1 | e1
    · rw [e1, hfr] at q
      exact f1 (by rw [← z]; exact (Option.some.inj q).symm)
    · exact f2 (by rw [← z]; exact List.mem_filterMap.mpr ⟨e, e1, q⟩)
  have st2 : (PySem.W.hideAll B [ce.locals]).StaysIn h2 := fun b o e => by
    obtain ⟨e1, e2⟩ := notC e
    rw [sb.2 b e2]
    exact k1 b o e1
  have nonf : ∀ b o, h1.get? b = some o → b ∈ frs (X.env :: X.outer) → h2.get? b = some o := fun b o e hb => by
    rw [sb.2 b (frC b hb)]
    exact e
  have ff2 : h2.FunFrames (PySem.W.hideAll B [ce.locals]) (X.env :: X.outer) := by
    have go : ∀ {l : List PySem.Env}, (∀ b ∈ frs l, b ≠ ce.locals) → h1.FunFrames B l → h2.FunFrames (PySem.W.hideAll B [ce.locals]) l := by
      intro l
      induction l with
      | nil => exact fun _ _ => trivial
      | cons e l ih =>
        rintro hb ⟨p1, ⟨L, o, p2, p3, p4, p5⟩, p6⟩
        have nL : L ≠ ce.locals := hb L (List.mem_filterMap.mpr ⟨e, List.mem_cons_self, p2⟩)
        exact ⟨p1, ⟨L, o, p2, hid p3, by rw [sb.2 L nL]; exact p4, p5⟩, ih (fun b hm => by
          obtain ⟨e2, h2, q⟩ := List.mem_filterMap.mp hm
          exact hb b (List.mem_filterMap.mpr ⟨e2, List.mem_cons_of_mem _ h2, q⟩)) p6⟩
    exact go frC k3
  have tr2 : HandSPX.TracedZ h2 (PySem.W.hideAll B [ce.locals]) a (L2N.Zn cls d) (rawInt X.env.locals) := ⟨oe, vs, T, oT, ts, by rw [sb.2 a aC]; exact g1, g2, g3, g4, hid g5, g6, by rw [sb.2 T tC]; exact g7, g8, g9⟩
  show wpAny (model X.prog X.w) X.A (passOn "comprehension.variables-let-go" (.ref a) ce : Sem Value) _ _ _
  unfold PySem.passOn
  refine wpAny_bind (wpAny_field (show ({ t with heap := h2 } : Shared).heap.get? a = some oe from by rw [← g1]; exact sb.2 a aC) g3 g4 ?_)
  rw [if_neg (show ¬ ((Value.ref T == Value.none) = true) from by simp)]
  have fin : wpAny (model X.prog X.w) X.A (setFlight (.ref a) ce.frame) (fun _ t4 => wpAny (model X.prog X.w) X.A (throw (.ref a) : Sem Value) (fun _ _ => False) X.xe t4) X.xe { t with heap := h2 } := by
    rw [eF, hfr]
    refine HandSPX.setFlight_anyZ (base := PySem.W.hideAll B [ce.locals]) (l := X.env :: X.outer) st2 ff2 tr2 fun h3 q1 q2 q3 q4 => wpAny_throw (tk _ _ ?_)
    refine ⟨a, PySem.W.hideAll B [ce.locals], _, pins, σ, H', cls, d, rfl, J3, fun b o e hb => ?_, fun b o e hf => ?_, .inr (.inr ?_), na, os, ag, w⟩
    · obtain ⟨e1, e2⟩ := notC e
      exact PySem.W.hideAll_get _ (nb b o e1 hb) (by simpa using e2)
    · obtain ⟨e1, e2⟩ := notC e
      obtain ⟨s1, e3⟩ := up.trans up1 b o e1 hf
      obtain ⟨s2, e4⟩ := q4 b { o with slots := s1 } (by rw [← e3]; exact sb.2 b e2) hf
      exact ⟨s2, e4⟩
    · rw [hst]
      exact ⟨q1, hid k2, q2, q3⟩
  first
    | exact wpAny_bind (wpAny_pure (wpAny_bind fin))
    | exact wpAny_bind fin
theorem lc_x {W0 : WX} {elt tg iter : Expr} {ifs : List Expr} {scope : Scope} {own : List (Str × Nat)} {pos : Pos} {wi : TI} {g : WX → TG} {tt : WX → TT} {te : WX → TE} (hst : X.stack = X.env :: X.outer) (hfr : X.env.frame = some X.env.locals) (tk : L2N.Takes X W0) (hc : X.calm = true) (hN : X.N.Nodup) (hi : PI X tg iter wi) (ok : BlkOk X.N X.env.scope scope own)
    (hb : ∀ (W : WX) (s : Shared) (H : Hp) (C : Addr) (cl : List (Str × Addr)) (fp : List Addr) (xe : Value → Shared → Prop), L2N.Takes (blkX X s H scope (compEnvC scope cl C X.env) fp xe) W →
      PG (blkX X s H scope (compEnvC scope cl C X.env) fp xe) tg (g W) ∧ PTs (blkX X s H scope (compEnvC scope cl C X.env) fp xe) ifs (tt W) ∧ PE (blkX X s H scope (compEnvC scope cl C X.env) fp xe) elt (te W)) (hs : ∀ x, foldedSetIterable iter X.env x = pure x := by intro _; rfl) :
    PE X (.ListComp elt [⟨tg, iter, ifs, 0⟩] scope pos) (fun σ H Q => tLc wi (g (atS W0 σ)) (tt (atS W0 σ)) (te (atS W0 σ)) (own.map (·.2)) σ H Q) := by
  refine ⟨fun pins s σ H Q I h => ?_⟩
  rw [eval_ListComp]
  have fr : ∀ y ∈ scope.names, y.2 = .free → ∃ c, X.env.cells.lookup y.1 = some c := fun y hy e => I.ok.has _ (ok.free y hy e)
  refine comp_x rfl hs (closure_ok fr) ok.kind (fun y hy e => by rw [ok.uniq y hy, e]) (thn (hi.run pins s σ H _ I h) fun xv s1 hx => thn hx fun itv s2 h2 => ?_)
  obtain ⟨it, fp, tn, J, G2, e, J2, T, st2, f2, q⟩ := h2
  subst e
  refine wpAny_newObj_type (newEnv_comp ?_) (by show 0 ≤ sizeLine; decide)
  generalize hD : s2.heap.objs.size = D
  have nD : G2 D = none := J2.hok.fresh (Nat.le_of_eq hD)
  obtain ⟨V, ⟨m0, v0⟩, turn⟩ := q D nD
  generalize hs3 : ({ s2 with heap := s2.heap.push { cls := .type "list", data := .seq ([] : List Value).toArray } } : Shared) = z3
  have J3 : Inv X pins σ (upd G2 D (.lst [])) z3 := by
    rw [← hs3]
    refine J2.laid (t' := s2.toks) (fun b o e => Heap.get?_push_of_some _ e) (Nat.le_of_eq hD) ⟨Nat.zero_le _, [], 0, .nil, ?_⟩
    rw [← hD]
    exact Heap.get?_push_size _ rfl
  have p3 : z3.heap = s2.heap.push { cls := .type "list", data := .seq ([] : List Value).toArray } := by rw [← hs3]
  have f3 : ∀ b ∈ fp, FpOk X pins (upd G2 D (.lst [])) b ∧ b < z3.heap.objs.size := fun b hm => by
    obtain ⟨o, e, _⟩ := T.obj _ _ st2 b hm
    have lt := Heap.lt_size e
    refine ⟨⟨?_, (f2 b hm).2⟩, by rw [p3, Heap.size_push]; exact Nat.lt_succ_of_lt lt⟩
    rw [upd_ne (by rw [← hD]; exact Nat.ne_of_lt lt)]
    exact (f2 b hm).1
  have st3 : tn 0 z3.heap := T.keep _ _ _ st2 fun b _ o e => by rw [p3]; exact Heap.get?_push_of_some _ e
  have J4 := block_start J3 ok hN f3
  have nfp : ∀ b ∈ fp, (upd G2 D (.lst [])) b = none := fun b hm => (f3 b hm).1.1
  generalize hce : compEnvC scope (cellsFrom (z3.heap.objs.size + 1) scope.names (cloFrom X.env.cells scope.names [])) z3.heap.objs.size X.env = ce at J4
  have eL : ce.locals = z3.heap.objs.size := by subst hce; rfl
  have eF : ce.frame = X.env.frame := by subst hce; rfl
  show codeAny _ _ (.compStart (.ListComp elt [⟨tg, iter, ifs, 0⟩] scope pos) 0 (.ref it) (.ref D) (compEnvC scope (cellsFrom (z3.heap.objs.size + 1) scope.names (cloFrom X.env.cells scope.names [])) z3.heap.objs.size X.env))
    (cPost (model X.prog X.w) X.A X.xe (EP X pins σ Q) (.ref D) (compEnvC scope (cellsFrom (z3.heap.objs.size + 1) scope.names (cloFrom X.env.cells scope.names [])) z3.heap.objs.size X.env)) { z3 with heap := pushCells (z3.heap.push { cls := .type "dict", data := .dict #[] }) scope.names }
  generalize hH3 : upd G2 D (.lst []) = H3 at J3 J4 v0 nfp f3
  generalize hxe : notedBy (model X.prog X.w) X.A ce (fun v t' => cPost (model X.prog X.w) X.A X.xe (EP X pins σ Q) (.ref D) ce (.error v) t') = xe
  have tb : L2N.Takes (blkX X z3 H3 scope ce fp xe) (atS W0 σ) := fun u t x => by
    show xe u t
    rw [← hxe]
    exact blk_out hst hfr tk J3 eL eF f3 x
  have pb := hb (atS W0 σ) z3 H3 z3.heap.objs.size (cellsFrom (z3.heap.objs.size + 1) scope.names (cloFrom X.env.cells scope.names [])) fp xe (by rw [hce]; exact tb)
  rw [hce] at pb ⊢
  obtain ⟨pg, pt, pe⟩ := pb
  generalize hs4 : ({ z3 with heap := pushCells (z3.heap.push { cls := .type "dict", data := .dict #[] }) scope.names } : Shared) = z4 at J4 ⊢
  have J4 : Inv (blkX X z3 H3 scope ce fp xe) [] (wipe σ (own.map (·.2))) H3 z4 := J4.toTry xe
  have st4 : tn 0 z4.heap := T.keep _ _ _ st3 fun b _ o e => by rw [← hs4]; exact pushCells_keeps _ _ _ _ (Heap.get?_push_of_some _ e)
  have stat : ∀ {σ' : L2.St} {H' : Hp} {t : Shared}, Inv (blkX X z3 H3 scope ce fp xe) [] σ' H' t → (∀ b ∈ fp, H' b = none) → ∀ b ∈ fp, FpOk (blkX X z3 H3 scope ce fp xe) [] H' b := fun {σ' H' t} I' hn b hm =>
    ⟨hn b hm, (I'.ok.exf b hm).1, I'.ok.exfs b hm, .inl hm, fun x c e => (I'.ok.exf b hm).2 x c e, fun p hp => absurd (show p ∈ ([] : List (Addr × Obj)) ++ [] from hp) (by simp)⟩
  have whole : codeAny (model X.prog X.w) X.A (.compLoop (.ListComp elt [⟨tg, iter, ifs, 0⟩] scope pos) 0 (.ref it) (.ref D) ce) (cPost (model X.prog X.w) X.A X.xe (EP X pins σ Q) (.ref D) ce) z4 := by
    refine compLoop_any (fun n t => ∃ i H', Inv (blkX X z3 H3 scope ce fp xe) [] (wipe σ (own.map (·.2))) H' t ∧ tn i t.heap ∧ (∀ b ∈ fp, H' b = none) ∧ V i n H') ?_ m0 ⟨0, H3, J4, st4, nfp, v0⟩
    rintro n z5 ⟨i, H5, I5, st5, n5, v5⟩
    rw [hxe]
    rcases turn i n H5 v5 with ⟨stop, qq⟩ | ⟨go, Nx, hNxt, step⟩
    · have tDone := T.done (blkX X z3 H3 scope ce fp xe) rfl rfl rfl hc i [] z5 _ H5 (fun _ _ => False) I5 (stat I5 n5) st5 stop
      refine thnF tDone fun r z6 ⟨hr, I6⟩ => ?_
      subst hr
      have I7 : Inv X pins σ H5 z6 := J3.call' (ch := fp) I6.os I6.base I6.hok I6.bare fun b hm => ⟨(f3 b hm).1.2.2.2.1, (f3 b hm).1.2.1, (f3 b hm).1.2.2.2.2.1, (f3 b hm).1.2.2.2.2.2⟩
      have nC : H5 ce.locals = none := I6.free
      obtain ⟨m, hn, _⟩ := I6.loc
      have hn : z6.heap.Ns ce.locals m := hn
      refine ⟨m, hn, fun g sb => ?_⟩
      have fC : FpOk X pins H5 ce.locals := by
        rw [eL] at nC ⊢
        exact J3.fpOk (Nat.le_refl _) nC
      obtain ⟨f0, f1, _, g3, g4, g5⟩ := fC
      exact ⟨.ref D, H5, I7.turned (t' := z6.toks) (fun b o hne e => (sb.2 b hne).trans e) f0 f1 g3 g4 g5, rfl, qq⟩
    · have ti := T.item (blkX X z3 H3 scope ce fp xe) rfl rfl rfl hc i [] z5 _ H5 (fun _ _ => False) I5 (stat I5 n5) st5 go
      refine thnF ti fun r z6 ⟨u, hr, k6⟩ => ?_
      subst hr
      refine thnF k6 fun _ z7 ⟨x, G7, I7, r7, y7, st7, n7⟩ => ?_
      have J7' := I7.pinned (stat I7 n7) (T.obj _ _ st7)
      refine thn (pg.run _ z7 _ G7 x u _ J7' r7 (step x G7 y7)) fun _ z8 ⟨σ8, G8, J8, hw8, q8⟩ => ?_
      refine thn (pt.run _ z8 σ8 G8 _ J8 q8) fun b z9 ⟨G9, J9, q9⟩ => ?_
      have fin : ∀ {t : Shared} {H' : Hp}, Inv (blkX X z3 H3 scope ce fp xe) ([] ++ pinsAt fp z7.heap) σ8 H' t → Nx H' → ∃ m, m < n ∧ ∃ i H', Inv (blkX X z3 H3 scope ce fp xe) [] (wipe σ (own.map (·.2))) H' t ∧ tn i t.heap ∧ (∀ b ∈ fp, H' b = none) ∧ V i m H' := fun {t H'} I' nx => by
        obtain ⟨m', hm, v'⟩ := hNxt H' nx
        have pinK : ∀ b ∈ fp, ∀ o, z7.heap.get? b = some o → t.heap.get? b = some o ∧ H' b = none := fun b hb o e =>
          let z := I'.pin (b, o) (List.mem_append_right _ (List.mem_append_right _ (mem_pinsAt hb e)))
          ⟨z.1, z.2.1⟩
        have hlen : (wipe σ (own.map (·.2))).length = σ8.length := by rw [← hw8, wipe_length]
        refine ⟨m', hm, i + 1, H', (I'.unpinned (pins := [])).weak hlen (fun j v e => ?_), T.keep _ _ _ st7 fun b hb o e => (pinK b hb o e).1, fun b hb => ?_, v'⟩
        · rw [← hw8] at e
          exact (wipe_some e).1
        · obtain ⟨o, e, _⟩ := T.obj _ _ st7 b hb
          exact (pinK b hb o e).2
      cases b with
      | false =>
        simp only [Bool.false_eq_true, if_false] at q9 ⊢
        exact fin J9 q9
      | true =>
        simp only [if_true] at q9 ⊢
        refine thn (pe.run _ z9 σ8 G9 _ J9 q9) fun z z10 ⟨yv, G10, J10, r10, acc, hD10, hz10, nx⟩ => ?_
        exact app_ok (X := blkX X z3 H3 scope ce fp xe) J10 hD10 hz10 r10 fun z11 J11 => fin J11 nx
  exact codeAny_compStart_list whole (T.self X.A 0 _ _ _ st4 whole)
end
end LMX

/-! [e for x in xs if t], a turn may raise. -/
namespace LM
open PySem L2
def mLcX (vs : List Nat) (mi : En → M (List DV)) (t : DV → En → Option En) (mt : En → M Bool) (me : En → M DV) : En → M (List DV) := fun e => mi e >>= fun ds => if ds.length ≤ LN then lcL t mt me (wipeE e vs) ds else M.bad
def plx (c : Cn) (e : En) (s : L2.St) (W1 : Wd) (H1 H : Hp) (Q : VK) (acc : List DV) : Res (List DV) → Prop
  | .ok r h' => Post c (rO c H) e s W1 H1 (Res.ok (acc ++ r) h') Q
  | .exc x h' => Post c (rO c H) e s W1 H1 (Res.exc x h') Q
  | .bad => False
section
variable {X : Cx} {c : Cn} {pos : Pos}
theorem lc_useX {mi : En → M (List DV)} {t : DV → En → Option En} {mt : En → M Bool} {me : En → M DV} {vs sl : List Nat} (hsl : ∀ k ∈ sl, k ∈ vs) {s : L2.St} {H : Hp} {Q : VK} (q : RO c (mLcX vs mi t mt me) s H Q) :
    tLc (RI c mi) (RG (c.wx (LMX.atS c.x s)) t sl) (RT (c.wx (LMX.atS c.x s)) mt) (RE (c.wx (LMX.atS c.x s)) me) vs s H Q := by
  obtain ⟨W, e, h0, S0, q⟩ := q
  refine ⟨W, e, h0, S0, bind_at q fun W1 H1 ds J h1 z t1 S1 wk q2 D hD => ?_⟩
  by_cases hz : ds.length ≤ LN
  rotate_left
  · rw [if_neg hz] at q2
    exact q2.elim
  rw [if_pos hz] at q2
  -- what the rest of the walk gives
  let PL : HP → Nat → List DV → Prop := fun hc i acc => plx c e s W1 H1 H Q acc (lcL t mt me (wipeE e vs) (ds.drop i) hc)
  let In : Nat → Nat → Hp → Prop := fun i m Hc => m = ds.length - i ∧ i ≤ ds.length ∧ ∃ Wc hc acc av, Step W1 H1 Wc Hc ∧ HSim c.g Wc hc Hc ∧ Hc D = some (.lst av) ∧ Reps c.g Wc Hc acc av ∧ acc.length ≤ i ∧ ¬ Wc.F D ∧ D ∉ Wc.r ∧ PL hc i acc
  refine ⟨In, ⟨ds.length, rfl, Nat.zero_le _, W1, h1, [], [], ?_, ?_, upd_same, .nil, Nat.le_refl _, not_F S1.hs hD, not_r S1.hs hD, ?_⟩, ?_⟩
  · exact Step.new hD
  · exact S1.hs.new hD ((Step.new hD).per S1.hs)
  · show plx c e s W1 H1 H Q ([]) (lcL t mt me (wipeE e vs) (ds.drop 0) h1)
    rw [List.drop_zero]
    have q3 : Post c (rO c H) e s W1 H1 (lcL t mt me (wipeE e vs) ds h1) Q := q2
    cases z2 : lcL t mt me (wipeE e vs) ds h1 with
    | ok r h' =>
      rw [z2] at q3
      exact q3
    | exc x h' =>
      rw [z2] at q3
      exact q3
    | bad =>
      rw [z2] at q3
      exact q3
  · rintro i m Hc ⟨em, hi, Wc, hc, acc, av, tc, sc, eD, ra, la, nF, nR, pl⟩
    have pc : Per W1 H1 Wc Hc := tc.per S1.hs
    by_cases hlt : i < ds.length
    rotate_left
    · have ei : i = ds.length := by omega
      subst ei
      left
      refine ⟨wk.st Wc Hc pc, ?_⟩
      have pl2 : plx c e s W1 H1 H Q (acc) (lcL t mt me (wipeE e vs) (ds.drop ds.length) hc) := pl
      rw [List.drop_length] at pl2
      have pl3 : Post c (rO c H) e s W1 H1 (Res.ok (acc ++ []) hc) Q := pl2
      rw [List.append_nil] at pl3
      exact pl3 Wc Hc (.ref D) tc (S1.step tc sc) ⟨D, av, rfl, eD, ra, nF, nR, t1.th D hD⟩
    · right
      obtain ⟨d, ed⟩ : ∃ d, ds[i]? = some d := ⟨_, List.getElem?_eq_getElem hlt⟩
      obtain ⟨g1, g2⟩ := wk.go Wc Hc pc i d ed
      refine ⟨g1, fun H' => In (i + 1) (ds.length - (i + 1)) H', fun H' z => ⟨_, by omega, z⟩, fun x H' y => ?_⟩
      -- the item, in the heap in which it comes
      have item : Step Wc Hc Wc H' ∧ HSim c.g Wc hc H' ∧ Rep c.g Wc H' d x ∧ H' D = some (.lst av) := by
        rcases g2 x H' y with ⟨e1, r⟩ | ⟨T, us, l, e1, e2, hT, e3, r⟩
        · subst e1
          exact ⟨Step.refl _ _, sc, r, eD⟩
        · subst e1 e2 e3
          have tn : Step Wc Hc Wc (upd Hc T (.tup us)) := Step.new hT
          have pn := tn.per sc
          refine ⟨tn, sc.new hT pn, ?_, ?_⟩
          · simp only [Rep]
            exact ⟨T, us, rfl, .inl (.inl upd_same), r.per pn _ _⟩
          · rw [upd_ne (ne_of_none eD hT)]
            exact eD
      obtain ⟨t2, s2, rd, eD2⟩ := item
      have S2 : Sim c Wc e hc s H' := S1.step (tc.trans t2) s2
      have pl2 : plx c e s W1 H1 H Q (acc) (lcL t mt me (wipeE e vs) (ds.drop i) hc) := pl
      have ed2 : ds.drop i = d :: ds.drop (i + 1) := by
        rw [List.drop_eq_getElem_cons hlt]
        congr 1
        rw [List.getElem?_eq_getElem hlt] at ed
        exact Option.some.inj ed
      rw [ed2] at pl2
      refine ⟨Wc, wipeE e vs, hc, d, (S2.wipe vs).wx, rd, ?_⟩
      cases zt : t d (wipeE e vs) with
      | none =>
        unfold lcL at pl2
        rw [zt] at pl2
        exact pl2.elim
      | some e1 =>
        unfold lcL at pl2
        rw [zt] at pl2
        intro s' S3 hl hf
        refine ⟨wipe_same hl hf hsl, Wc, e1, hc, S3, ?_⟩
        have pl3 : plx c e s W1 H1 H Q (acc) (((mt e1 >>= fun b => if b then me e1 >>= fun x => lcL t mt me (wipeE e vs) (ds.drop (i + 1)) >>= fun r => pure (x :: r) else lcL t mt me (wipeE e vs) (ds.drop (i + 1))) hc)) := pl2
        rw [M.bind_def] at pl3
        cases zm : mt e1 hc with
        | bad =>
          rw [zm] at pl3
          exact pl3.elim
        | exc x h' =>
          rw [zm] at pl3
          exact fun W' H9 cls dd t S' r => pl3 W' H9 cls dd ((tc.trans t2).trans t) (S1.step ((tc.trans t2).trans t) S'.hs) r
        | ok b h3 =>
          rw [zm] at pl3
          intro W3 H3 b' t3 S4 eb
          have eb : b' = b := eb
          subst eb
          have eD3 : H3 D = some (.lst av) := t3.k D _ eD2 nR
          have nF3 := notF t3 eD2 nF (fun fs w => by cases w)
          have nR3 := notR t3 eD2 nR
          have t13 : Step W1 H1 W3 H3 := (tc.trans t2).trans t3
          have ra3 : Reps c.g W3 H3 acc av := (ra.per (t2.per sc) _ _).per (t3.per s2) _ _
          cases b' with
          | false =>
            refine iteF ⟨rfl, by omega, W3, h3, acc, av, t13, S4.hs, eD3, ra3, by omega, nF3, nR3, ?_⟩
            exact pl3
          | true =>
            refine iteT ⟨W3, e1, h3, S4, ?_⟩
            have pl4 : plx c e s W1 H1 H Q (acc) (((me e1 >>= fun x => lcL t mt me (wipeE e vs) (ds.drop (i + 1)) >>= fun r => pure (x :: r)) h3)) := pl3
            rw [M.bind_def] at pl4
            cases ze : me e1 h3 with
            | bad =>
              rw [ze] at pl4
              exact pl4.elim
            | exc x h' =>
              rw [ze] at pl4
              exact fun W' H9 cls dd t S' r => pl4 W' H9 cls dd (t13.trans t) (S1.step (t13.trans t) S'.hs) r
            | ok dx h4 =>
              rw [ze] at pl4
              intro W4 H4 yv t4 S5 ry
              have eD4 : H4 D = some (.lst av) := t4.k D _ eD3 nR3
              have nF4 := notF t4 eD3 nF3 (fun fs w => by cases w)
              have nR4 := notR t4 eD3 nR3
              have ra4 : Reps c.g W4 H4 acc av := ra3.per (t4.per S4.hs) _ _
              obtain ⟨p5, s5⟩ := own_chg (o' := .lst (av ++ [yv])) S5.hs eD4 nF4 nR4 (fun _ z => by cases z) (fun _ _ z => by cases z)
              refine ⟨av, eD4, ?_, rfl, by omega, W4, h4, acc ++ [dx], av ++ [yv], (t13.trans t4).chg hD, s5, upd_same, (ra4.per p5 _ _).app (.cons (Rep.per p5 _ _ ry) .nil), ?_, nF4, nR4, ?_⟩
              · rw [← ra.len, line_LN]
                show acc.length < LN
                omega
              · rw [List.length_append]
                show acc.length + 1 ≤ i + 1
                omega
              · have pl5 : plx c e s W1 H1 H Q (acc) (((lcL t mt me (wipeE e vs) (ds.drop (i + 1)) >>= fun r => pure (dx :: r)) h4)) := pl4
                rw [M.bind_def] at pl5
                show plx c e s W1 H1 H Q ((acc ++ [dx])) (lcL t mt me (wipeE e vs) (ds.drop (i + 1)) h4)
                cases zr : lcL t mt me (wipeE e vs) (ds.drop (i + 1)) h4 with
                | bad =>
                  rw [zr] at pl5
                  exact pl5
                | exc x h' =>
                  rw [zr] at pl5
                  exact pl5
                | ok r h5 =>
                  rw [zr] at pl5
                  have pl6 : Post c (rO c H) e s W1 H1 (Res.ok (acc ++ (dx :: r)) h5) Q := pl5
                  show Post c (rO c H) e s W1 H1 (Res.ok ((acc ++ [dx]) ++ r) h5) Q
                  rw [List.append_assoc]
                  exact pl6
end
section
variable {T : Tp} {X : Cx} {c : Cn} {N : List Str} {k : Nat} {sc : Scope} {pos : Pos} {tg elt iter : Expr} {ifs : List Expr} {scope : Scope} {mi : En → M (List DV)} {t : DV → En → Option En} {mt : En → M Bool} {me : En → M DV} {sl : List Nat}
theorem XSt.blkX (h : XSt T X c N k sc) (W : WX) (s : Shared) (H : Hp) (bs : Scope) (C : Addr) (cl : List (Str × Addr)) (fp : List Addr) (xe : Value → Shared → Prop) (tk : L2N.Takes (LMX.blkX X s H bs (compEnvC bs cl C X.env) fp xe) W) :
    XBl T (LMX.blkX X s H bs (compEnvC bs cl C X.env) fp xe) (c.wx W) N k (relS bs sc) bs :=
  ⟨⟨h.e.pp, h.e.pw, h.e.pk, h.e.pm, h.e.pb, h.e.pg, h.e.nm, h.e.nd, by rw [← h.e.sc]; rfl, h.e.calm, h.e.room, tk⟩, rfl⟩
theorem k_lcX (hX : XSt T X c N k sc) (own : List (Str × Nat)) (hi : PI X tg iter (RI c mi)) (ok : blkC N sc scope own = true)
    (hg : ∀ X' c', XBl T X' c' N k (relS scope sc) scope → PG X' tg (RG c' t sl)) (ht : ∀ X' c', XBl T X' c' N k (relS scope sc) scope → PTs X' ifs (RT c' mt)) (he : ∀ X' c', XBl T X' c' N k (relS scope sc) scope → PE X' elt (RE c' me))
    (hsl : ∀ k ∈ sl, k ∈ own.map (·.2) := by decide) (hs : ∀ x, foldedSetIterable iter X.env x = pure x := by intro _; rfl) :
    PE X (.ListComp elt [⟨tg, iter, ifs, 0⟩] scope pos) (RO c (mLcX (own.map (·.2)) mi t mt me)) :=
  pe_imp (LMX.lc_x (g := fun W => RG (c.wx W) t sl) (tt := fun W => RT (c.wx W) mt) (te := fun W => RE (c.wx W) me) hX.st hX.fr hX.e.tk hX.e.calm hX.e.ndX hi (by rw [hX.e.nm, hX.e.sc]; exact blkOk_by ok)
    (fun W s H C cl fp xe tk => ⟨hg _ _ (hX.blkX W s H scope C cl fp xe tk), ht _ _ (hX.blkX W s H scope C cl fp xe tk), he _ _ (hX.blkX W s H scope C cl fp xe tk)⟩) hs) fun s H Q q => lc_useX hsl q
theorem mLcX_of {vs : List Nat} {e : En} {h h' : HP} {l : List DV} (q : mLc vs mi t mt me e h = .ok l h') : mLcX vs mi t mt me e h = .ok l h' := by
  unfold mLc at q
  unfold mLcX
  rw [bind_app] at q ⊢
  cases z : mi e h with
  | ok ds h1 =>
    rw [z, bR_ok] at q
    rw [bR_ok]
    split
    · rename_i w
      rw [if_pos w] at q
      unfold noX at q
      cases z2 : lcL t mt me (wipeE e vs) ds h1 with
      | ok a b =>
        rw [z2] at q
        exact q
      | exc x b =>
        rw [z2] at q
        cases q
      | bad =>
        rw [z2] at q
        cases q
    · rename_i w
      rw [if_neg w] at q
      exact q
  | exc x h1 =>
    rw [z] at q
    cases q
  | bad =>
    rw [z] at q
    cases q
end
@[simp] theorem sRaise0_app (i : Nat) (e : En) (h : HP) : sRaise0 i e h = .exc ⟨i, []⟩ e h := rfl
end LM

/-! A list of one's own is walked by a comprehension, and changed later. -/
namespace LM
open PySem L2
def flL (r : Res (List DV)) : Res (List DV) := match r with
  | .ok l h => if flatRs l && h.all flatO then .ok l h else .bad
  | _ => .bad
def lnO (o : Option Slot) (k : List DV → Res (List DV)) : Res (List DV) := match o with
  | some (.own l) => flL (k l)
  | _ => .bad
def lendO (i : Nat) (m : En → M (List DV)) : En → M (List DV) := fun e h => lnO e[i]? fun l => m (e.set i (.val (.lst l))) h
@[simp] theorem lendO_app (i : Nat) (m : En → M (List DV)) (e : En) (h : HP) : lendO i m e h = lnO e[i]? fun l => m (e.set i (.val (.lst l))) h := rfl
@[simp] theorem lnO_own (l : List DV) (k : List DV → Res (List DV)) : lnO (some (.own l)) k = flL (k l) := rfl
theorem flL_ok {l : List DV} {h : HP} (q1 : flatRs l = true) (q2 : h.all flatO = true) : flL (.ok l h) = .ok l h := by
  unfold flL
  simp only []
  rw [q1, q2]
  rfl
section
variable {c : Cn} {i : Nat} {m : En → M (List DV)} {s : L2.St} {H : Hp} {Q : VK}
theorem lend_use (q : RO c (lendO i m) s H Q) : RO c m s H Q := by
  obtain ⟨W, e, h, S, q⟩ := q
  have q0 : Post c (rO c H) e s W H (lnO e[i]? fun l => m (e.set i (.val (.lst l))) h) Q := q
  cases z : e[i]? with
  | none =>
    rw [z] at q0
    exact q0.elim
  | some x =>
    rw [z] at q0
    cases x with
    | none => exact q0.elim
    | val d => exact q0.elim
    | dic ks l => exact q0.elim
    | exn y => exact q0.elim
    | own l =>
      obtain ⟨p, vs, e2, e3, r, n1, n2, n3⟩ := S.own i l z
      have hA : ∀ a ∈ [p], (∃ o, H a = some o) ∧ a ∉ W.r := fun a ha => by
        rw [List.mem_singleton.mp ha]
        exact ⟨⟨_, e3⟩, n2⟩
      have hs := S.hs.frzs hA
      have pr : Per W H (W.frzs [p]) H := frzs_per
      have rl : Rep c.g (W.frzs [p]) H (.lst l) (.ref p) := by
        simp only [Rep]
        exact ⟨p, vs, rfl, .inr (List.mem_singleton_self p), e3, r.per pr _ _⟩
      have nb : ∀ (j : Nat) (y : Slot), j ≠ i → e[j]? = some y → y.isOwn = true → s[j]? ≠ some (some (.ref p)) := fun j y hj e4 o e5 => hj (S.ne j i p y _ e4 o z rfl e5 e2)
      have st : Step c.W0 c.H0 (W.frzs [p]) H := ⟨fun a f => .inl (S.st.f a f), S.st.r, S.st.k, S.st.th, fun a f => by
        rcases f with f | f
        · exact S.st.nf a f
        · rw [List.mem_singleton.mp f]
          exact .inr (.inl n3), S.st.nr⟩
      have S2 : Sim c (W.frzs [p]) (e.set i (.val (.lst l))) h s H := by
        refine ⟨hs, st, by rw [List.length_set]; exact S.len, fun j d e1 => ?_, fun j l2 e1 => ?_, fun j ks l2 e1 => ?_, fun j k b x y e1 o1 e4 o2 e5 e6 => ?_, fun j y e1 => ?_⟩
        · by_cases hj : j = i
          · subst hj
            rw [List.getElem?_set_self (List.getElem?_eq_some_iff.mp z).1] at e1
            cases e1
            exact ⟨_, e2, rl⟩
          · rw [List.getElem?_set_ne (Ne.symm hj)] at e1
            obtain ⟨v, e4, r4⟩ := S.val j d e1
            exact ⟨v, e4, r4.per pr _ _⟩
        · by_cases hj : j = i
          · subst hj
            rw [List.getElem?_set_self (List.getElem?_eq_some_iff.mp z).1] at e1
            cases e1
          · rw [List.getElem?_set_ne (Ne.symm hj)] at e1
            obtain ⟨b, ws, e4, e5, r4, m1, m2, m3⟩ := S.own j l2 e1
            exact ⟨b, ws, e4, e5, r4.per pr _ _, fun f => f.elim m1 fun w => nb j _ hj e1 rfl (List.mem_singleton.mp w ▸ e4), m2, m3⟩
        · by_cases hj : j = i
          · subst hj
            rw [List.getElem?_set_self (List.getElem?_eq_some_iff.mp z).1] at e1
            cases e1
          · rw [List.getElem?_set_ne (Ne.symm hj)] at e1
            obtain ⟨b, ws, e4, e5, w0, r4, m1, m2, m3⟩ := S.dic j ks l2 e1
            exact ⟨b, ws, e4, e5, w0, r4.per pr _ _, fun f => f.elim m1 fun w => nb j _ hj e1 rfl (List.mem_singleton.mp w ▸ e4), m2, m3⟩
        · have back : ∀ (j : Nat) (y : Slot), (e.set i (.val (.lst l)))[j]? = some y → y.isOwn = true → e[j]? = some y := fun j y e1 oy => by
            by_cases hj : j = i
            · subst hj
              rw [List.getElem?_set_self (List.getElem?_eq_some_iff.mp z).1] at e1
              cases e1
              cases oy
            · rwa [List.getElem?_set_ne (Ne.symm hj)] at e1
          exact S.ne j k b x y (back j x e1 o1) o1 (back k y e4 o2) o2 e5 e6
        · by_cases hj : j = i
          · subst hj
            rw [List.getElem?_set_self (List.getElem?_eq_some_iff.mp z).1] at e1
            cases e1
          · rw [List.getElem?_set_ne (Ne.symm hj)] at e1
            obtain ⟨b, cls, dd, e4, e5, r4⟩ := S.exn j y e1
            exact ⟨b, cls, dd, e4, e5, r4.per pr⟩
      refine ⟨W.frzs [p], _, h, S2, ?_⟩
      have q1 : Post c (rO c H) e s W H (flL (m (e.set i (.val (.lst l))) h)) Q := q0
      cases zm : m (e.set i (.val (.lst l))) h with
      | exc x h' =>
        rw [zm] at q1
        exact q1.elim
      | bad =>
        rw [zm] at q1
        exact q1.elim
      | ok r5 h5 =>
        rw [zm] at q1
        unfold flL at q1
        by_cases fl : (flatRs r5 && h5.all flatO) = true
        rotate_left
        · simp only [fl] at q1
          exact q1.elim
        simp only [fl, if_true] at q1
        obtain ⟨f1, f2⟩ := Bool.and_eq_true_iff.mp fl
        intro W' H' b t S' o
        obtain ⟨a5, vs5, o1, o2, o3, o4, o5, o6⟩ := o
        exact q1 _ H' b t.thaw (S.step t.thaw (S'.hs.thaw f2)) ⟨a5, vs5, o1, o2, Reps.flat (W := W') (W' := W'.thaw W [p]) rfl _ _ f1 o3, fun w => o4 w.1, o5, o6⟩
end
section
variable {T : Tp} {X : Cx} {c : Cn} {N : List Str} {k : Nat} {sc : Scope} {pos : Pos} {tg elt iter : Expr} {ifs : List Expr} {scope : Scope} {mi : En → M (List DV)} {t : DV → En → Option En} {mt : En → M Bool} {me : En → M DV} {sl : List Nat}
theorem k_lcL (hX : XEx T X c N k sc) (j : Nat) {m : En → M (List DV)} {ex : Expr} (h : PE X ex (RO c m)) : PE X ex (RO c (lendO j m)) := pe_imp h fun s H Q q => lend_use q
theorem k_setLcL {i : Nat} {y : Str} {py spos : Pos} (j : Nat) (hX : XSt T X c N k sc) (own : List (Str × Nat)) (hy : N[i]? = some y) (hyl : sc.names.lookup y = some .local) (hsw : (py.line == pos.line) = true) (ha : (scope.names.any fun (n, k) => n == y && (k == .local || k == .cell)) = false)
    (hkf : sc.kind = .function) (hi : PI X tg iter (RI c mi)) (ok : blkC N sc scope own = true)
    (hg : ∀ X', XBl T X' c.nx N k (relS scope sc) scope → PG X' tg (RG c.nx t sl)) (ht : ∀ X', XBl T X' c.nx N k (relS scope sc) scope → PTs X' ifs (RT c.nx mt)) (he : ∀ X', XBl T X' c.nx N k (relS scope sc) scope → PE X' elt (RE c.nx me))
    (hsl : ∀ k ∈ sl, k ∈ own.map (·.2) := by decide) (hs : ∀ x, foldedSetIterable iter X.env x = pure x := by intro _; rfl) :
    PS X (.Assign [.Name y py] (.ListComp elt [⟨tg, iter, ifs, 0⟩] scope pos) spos) (RS c (sSetO i (lendO j (mLc (own.map (·.2)) mi t mt me)))) :=
  ps_imp (ps_setLc hX.e.calm hX.e.ndX (hX.e.at hy) (by rw [hX.e.sc]; exact hyl) (sw_true (by rw [hX.e.sc]; exact hkf) (by rw [hX.e.sc]; exact hyl) hsw ha) hi (by rw [hX.e.nm, hX.e.sc]; exact blkOk_by ok) (fun s H C cl fp => hg _ (hX.e.blk s H scope C cl fp)) (fun s H C cl fp => ht _ (hX.e.blk s H scope C cl fp)) (fun s H C cl fp => he _ (hX.e.blk s H scope C cl fp)) hs) fun D s H q => lc_use hsl (lend_use (by
    obtain ⟨W, e, h, S0, q⟩ := q
    exact ⟨W, e, h, S0, sb_at S0 q fun W1 H1 l v h1 t S r q2 => q2.nx (S0.setOwn t S r)⟩))
end
end LM

/-! B.__init__(self, e, ..) in an __init__. -/
namespace LM
open PySem L2

/-- what is known of a class, number c, whose __init__ is called by its name -/
structure BasOk (T : Tp) (x : Str) (c j n : Nat) (names : List Str) (m : List DV → M (List DV)) : Prop where
  gl : T.mg x = some (.ref (T.g.cA c))
  ga : PySem.W.specialIn T.g.K (.ref (T.g.cA c)) "__getattribute__" = some (some (.builtin "type.__getattribute__"))
  rd : PySem.W.readsIn T.g.K (T.g.cA c) (.type "type") = true
  ex : ∃ f fd ps, PySem.W.findCls T.g.K (.ref (T.g.cA c)) (.type "type") "__init__" = some (.val (.ref f)) ∧ PySem.W.handedIn (.ref f) = true ∧ PySem.W.keepIn T.g.K (.ref f) = true ∧ Binds T.g.K fd ps [] ∧ FnOk T.P T.w T.g.K T.mg T.base (L2N.CX T.P T.w) j f fd ps (spI T.g names n m)
section
variable {X : Cx} {CX : CXT} {k : Nat} {C f : Addr} {mc : Value} {sp : Sp} {fd : FuncData} {ps : List Str} {ds : List Value} {dvs : List V} {E : L2.St → XK} {e : Expr} {es : List Expr} {m x : Str} {pos apos p1 : Pos} {t : TA} {pl : Sem Bool}
/-- C.m(e, ..), C a class read by its name, m a def of it -/
theorem pe_static (hg : Gl X x) (hm : X.mg x = some (.ref C)) (hdb : (x == ("__debug__" : Str)) = false) (ga : PySem.W.specialIn X.K (.ref C) "__getattribute__" = some (some (.builtin "type.__getattribute__"))) (rd : PySem.W.readsIn X.K C mc = true) (at_ : PySem.W.findCls X.K (.ref C) mc m = some (.val (.ref f))) (hh : PySem.W.handedIn (.ref f) = true) (hk : PySem.W.keepIn X.K (.ref f) = true)
    (F : FnOk X.prog X.w X.K X.mg X.base CX k f fd ps sp) (hr : Room k X.A) (hb : Binds X.K fd ps ds) (hd : Vals dvs ds) (hx : ∀ σ, PassesAt CX X σ (E σ)) (ha : PA X (e :: es) t)
    (hst : starEach (e :: es) X.env = (false, eval e X.env) :: starEach es X.env) (hpl : (backTo pos (starEach es X.env)).any (·.1) = false)
    (ht : eval (.Call (.Attribute (.Name x p1) m apos) (e :: es) [] pos) X.env = (do
      let ov ← eval (.Name x p1) X.env
      standAt apos.atName
      let (f, first) ← holding [ov] (getMethod ov m pl)
      callWith pos f first (backTo pos (starEach (e :: es) X.env)) (backToKw pos (keywordEach [] X.env)))) :
    PE X (.Call (.Attribute (.Name x p1) m apos) (e :: es) [] pos) (tCallSD sp dvs E t) := by
  refine ⟨fun pins s σ H Q I h => ?_⟩
  refine PySem.W.methodCall_KW (pl := pl) (ld_glob I hg hm ?_ hdb) ht
  refine PySem.W.method_cls I.kIn ga (PySem.W.cls_value I.kIn rd at_ hh ?_)
  have I2 := I.tok (t := s.toks + 1)
  refine PySem.W.callWith_K (h₀ := X.base) I2.ok.mod.kin hk (thn (ha.run pos pins _ σ H _ I2 h) fun us s1 ⟨vs, H1, I1, r, q⟩ => ⟨I1.kIn, ?_⟩) hst hpl
  exact run_fnSD F hr hb hd (hx σ) I1 r q
end
def iBase (m1 : List DV → M (List DV)) (ms : En → M (List DV)) (r : En → M (List DV)) : En → M (List DV) := fun e h => if isSelf e = true then (match ms e h with
  | .ok ds h1 => (match m1 ds h1 with
    | .ok us h2 => (match r e h2 with
      | .ok vs h3 => .ok (us ++ vs) h3
      | _ => .bad)
    | _ => .bad)
  | _ => .bad) else .bad
theorem MayF.left {K : PySem.W.Frag} {C : Addr} {fs : List (Str × V)} {a b : List Str} (F : MayF K C fs (a ++ b)) : MayF K C fs a :=
  ⟨F.cl, fun f hf => F.na f (List.mem_append_left _ hf), (List.nodup_append.mp F.nd).1, by have := F.few; rw [List.length_append] at this; omega⟩
theorem lookup_zip : ∀ {f : Str} {a : List Str} {us : List V} {fs : List (Str × V)}, fs.lookup f = none → f ∉ a → (fs ++ a.zip us).lookup f = none
  | f, [], us, fs, e, _ => by
    rw [List.zip_nil_left, List.append_nil]
    exact e
  | f, g :: a, [], fs, e, _ => by
    rw [List.zip_nil_right, List.append_nil]
    exact e
  | f, g :: a, u :: us, fs, e, n => by
    rw [List.mem_cons, not_or] at n
    have q := lookup_zip (us := us) (lookup_new (v := u) e n.1) n.2
    rw [List.append_assoc] at q
    exact q
theorem MayF.right {K : PySem.W.Frag} {C : Addr} {fs : List (Str × V)} {a b : List Str} {us : List V} (F : MayF K C fs (a ++ b)) (hl : us.length = a.length) : MayF K C (fs ++ a.zip us) b := by
  obtain ⟨n1, n2, n3⟩ := List.nodup_append.mp F.nd
  refine ⟨F.cl, fun f hf => ⟨(F.na f (List.mem_append_right _ hf)).1, lookup_zip (F.na f (List.mem_append_right _ hf)).2 fun m => n3 f m f hf rfl⟩, n2, ?_⟩
  have := F.few
  rw [List.length_append] at this ⊢
  rw [List.length_zip, hl, Nat.min_self]
  omega
section
variable {T : Tp} {X : Cx} {c : Cn} {N : List Str} {k : Nat} {sc : Scope}
theorem pa_ex {es : List Expr} {n : Nat} {ms : En → M (List DV)} (he : ∀ c', c'.g = c.g → c'.x = c.x → PA X es (RA c' n ms)) : PA X es (fun s H Q => ∃ c', c'.g = c.g ∧ c'.x = c.x ∧ RA c' n ms s H Q) := ⟨fun pos pins s σ H Q I ⟨c', h1, h2, q⟩ => (he c' h1 h2).run pos pins s σ H Q I q⟩
theorem k_ibase {x : Str} {ci j n : Nat} {n1 n2 : List Str} {m1 : List DV → M (List DV)} {ms mr : En → M (List DV)} {p0 p1 p2 p3 pos : Pos} {es : List Expr} {rest : List Stmt} {pl : Sem Bool} (hX : XSt T X c N k sc) (B : BasOk T x ci j n n1 m1) (hj : j ≤ k) (hg : Gl X x) (hN : N[0]? = some ("self" : Str)) (hv : Vis sc "self")
    (ha : ∀ c', c'.g = c.g → c'.x = c.x → PA X es (RA c' n ms)) (hr : PSs X rest (RIt c n2 mr)) (hdb : (x == ("__debug__" : Str)) = false := by decide)
    (hst : starEach (.Name "self" p2 :: es) X.env = (false, eval (.Name "self" p2) X.env) :: starEach es X.env := by rfl) (hpl : (backTo p3 (starEach es X.env)).any (·.1) = false := by rfl)
    (ht : eval (.Call (.Attribute (.Name x p0) "__init__" p1) (.Name "self" p2 :: es) [] p3) X.env = (do
      let ov ← eval (.Name x p0) X.env
      standAt p1.atName
      let (f, first) ← holding [ov] (getMethod ov "__init__" pl)
      callWith p3 f first (backTo p3 (starEach (.Name "self" p2 :: es) X.env)) (backToKw p3 (keywordEach [] X.env))) := by rfl)
    (hs : swapsWith (.Call (.Attribute (.Name x p0) "__init__" p1) (.Name "self" p2 :: es) [] p3) none pos.line X.env = pure false := by rfl) :
    PSs X (.Expr (.Call (.Attribute (.Name x p0) "__init__" p1) (.Name "self" p2 :: es) [] p3) pos :: rest) (RIt c (n1 ++ n2) (iBase m1 ms mr)) := by
  obtain ⟨f, fd, ps, at_, hh, hk, b, fo⟩ := B.ex
  have hX' := hX.e
  have gl : X.mg x = some (.ref (c.g.cA ci)) := by
    rw [hX'.pm, hX'.pg]
    exact B.gl
  have ga : PySem.W.specialIn X.K (.ref (c.g.cA ci)) "__getattribute__" = some (some (.builtin "type.__getattribute__")) := by
    rw [hX'.pk, hX'.pg]
    exact B.ga
  have rd : PySem.W.readsIn X.K (c.g.cA ci) (.type "type") = true := by
    rw [hX'.pk, hX'.pg]
    exact B.rd
  have at2 : PySem.W.findCls X.K (.ref (c.g.cA ci)) (.type "type") "__init__" = some (.val (.ref f)) := by
    rw [hX'.pk, hX'.pg]
    exact at_
  have hk2 : PySem.W.keepIn X.K (.ref f) = true := by
    rw [hX'.pk]
    exact hk
  have b2 : Binds X.K fd ps [] := by
    rw [hX'.pk]
    exact b
  have fo2 : FnOk X.prog X.w X.K X.mg X.base (L2N.CX X.prog X.w) j f fd ps (spI c.g n1 n m1) := by
    rw [hX'.pp, hX'.pw, hX'.pk, hX'.pm, hX'.pb, hX'.pg]
    exact fo
  have call := pe_static (p1 := p0) (apos := p1) (pos := p3) (pl := pl) hg gl hdb ga rd at2 hh hk2 fo2 (hX'.room.mono hj) b2 .nil (fun s => L2N.passAt hX'.tk s) (pa_cons (pe_var (i := 0) (by rw [hX'.nm]; exact hN) (by rw [hX'.sc]; exact hv)) (pa_ex ha) hst) hst hpl ht
  refine pss_imp (pss_cons (ps_expr call hs) hr) fun D s H q => ?_
  obtain ⟨c1, W, e, h, a, C, dx, fs, eg, ex, S, K, F, q⟩ := q
  unfold iBase at q
  by_cases sf : isSelf e = true
  rotate_left
  · rw [if_neg sf] at q
    exact q.elim
  rw [if_pos sf] at q
  refine ⟨_, self_at K S sf, c1, eg, ex, W, e, h, S, ?_⟩
  cases z : ms e h with
  | bad =>
    rw [z] at q
    exact q.elim
  | exc x h1 =>
    rw [z] at q
    exact q.elim
  | ok d h1 =>
    rw [z] at q
    simp only [] at q
    intro W1 H1 vs t S1 r
    obtain ⟨ha1, nr, nf⟩ := K.now S1
    refine ⟨W1, h1, d, a, C, dx, fs, vs, by rw [List.append_nil], by rw [← eg]; exact S1.hs, by rw [← eg]; exact r.1, r.2, ha1, nr, nf, F.left, ?_⟩
    cases z2 : m1 d h1 with
    | bad =>
      rw [z2] at q
      exact q.elim
    | exc x h2 =>
      rw [z2] at q
      exact q.elim
    | ok us h2 =>
      rw [z2] at q
      simp only [] at q
      intro W2 H2 us2 st hs2 rs ea el
      obtain ⟨S2, K2⟩ := S1.reself K (fs ++ n1.zip us2)
      have S3 := S2.step st (by rw [← eg] at hs2; exact hs2)
      refine ⟨{ c1 with H0 := upd c1.H0 a (.ins C dx (fs ++ n1.zip us2)) }, W2, e, h2, a, C, dx, fs ++ n1.zip us2, eg, ex, S3, K2, F.right el, ?_⟩
      cases z3 : mr e h2 with
      | bad =>
        rw [z3] at q
        exact q.elim
      | exc x h3 =>
        rw [z3] at q
        exact q.elim
      | ok ws h3 =>
        rw [z3] at q
        have q : PostI c1 c W H a C dx fs (n1 ++ n2) (us ++ ws) h3 D := q
        intro W' s' H' us3 st3 pr hs' rs3 ea3 el3
        have p2 : Per W1 H1 W2 H2 := (self_per ha1 nf).trans (st.per S2.hs)
        have ez : fs ++ (n1 ++ n2).zip (us2 ++ us3) = (fs ++ n1.zip us2) ++ n2.zip us3 := by
          rw [List.zip_append el.symm, List.append_assoc]
        refine q W' s' H' (us2 ++ us3) ?_ ((t.per S.hs).trans (p2.trans pr)) hs' ((rs.per pr _ _).app rs3) (by rw [ez]; exact ea3) (by rw [List.length_append, List.length_append, el, el3])
        rw [ez]
        have st3 : Step c1.W0 (upd (upd c1.H0 a (.ins C dx (fs ++ n1.zip us2))) a (.ins C dx ((fs ++ n1.zip us2) ++ n2.zip us3))) W' H' := st3
        rw [upd_upd] at st3
        exact st3
end
@[simp] theorem iBase_app (m1 : List DV → M (List DV)) (ms : En → M (List DV)) (r : En → M (List DV)) (x : Ex) (e : En) (h : HP) : iBase m1 ms r (.exn x :: e) h = (match ms (.exn x :: e) h with
  | .ok ds h1 => (match m1 ds h1 with
    | .ok us h2 => (match r (.exn x :: e) h2 with
      | .ok vs h3 => .ok (us ++ vs) h3
      | _ => .bad)
    | _ => .bad)
  | _ => .bad) := by
  unfold iBase
  exact if_pos rfl
theorem bas_of {T : Tp} {x : Str} {ci : Nat} {D : Addr} {j n : Nat} {names : List Str} {m : List DV → M (List DV)} (gl : T.mg x = some (.ref (T.g.cA ci))) (b : basB (T.g.cA ci) D T.g.K = true)
    (o : ∃ fd ps, Binds T.g.K fd ps [] ∧ FnOk T.P T.w T.g.K T.mg T.base (L2N.CX T.P T.w) j (He.ma T.g.K D "__init__") fd ps (spI T.g names n m)) : BasOk T x ci j n names m := by
  obtain ⟨h1, h2⟩ := He.ba b
  obtain ⟨h3, h4⟩ := He.ba h2
  obtain ⟨h5, h6⟩ := He.ba h4
  obtain ⟨fd, ps, bd, fo⟩ := o
  cases z : PySem.W.findCls T.g.K (.ref (T.g.cA ci)) (.type "type") "__init__" with
  | none =>
    rw [z] at h6
    cases h6
  | some v =>
    rw [z] at h6
    cases v with
    | val u =>
      cases u with
      | ref f =>
        have e : f = He.ma T.g.K D "__init__" := of_decide_eq_true h6
        subst e
        exact ⟨gl, of_decide_eq_true h1, h3, _, fd, ps, z, rfl, h5, bd, fo⟩
      | _ => cases h6
    | get _ _ _ _ => cases h6
end LM

/-! sorted(set(xs)), xs a list of whole numbers. -/
namespace LM
open PySem PyProof PySem.Calls PyProof.Rows PySem.W L2
section
variable {P : Program} {w : World} {A : Around} {E : Value → Shared → Prop} {s : Shared}
/-- a set just made -/
abbrev set0 (w : World) : Obj := { cls := .type "set", dict := none, data := .set #[] 0 (.fresh 0 0 (!w.params.followText "set-order")) }
theorem listSet {l : Addr} {xs : Array Value} (ns : List Int) {Q : Value → Shared → Prop} (hA : A.handled = none) (hx : s.heap.IsList l xs) (hi : PyProof.Rows.IntsAre xs.toList ns) (hb : ns.length + 1 < scanBound)
    (q : ∀ (g : Heap) (tk c : Nat), SetR w g s.heap.objs.size (fun j => decide (j ∈ ns)) c → c ≤ ns.length → (∀ b o, s.heap.get? b = some o → g.get? b = some o) → Q (.ref s.heap.objs.size) { s with heap := g, toks := tk }) : wpAny (model P w) A (call (.type "set") [.ref l]) Q E s := by
  have sz : xs.size = ns.length := (Array.length_toList).symm.trans (PyProof.Rows.IntsAre.length hi)
  obtain ⟨c0, tl, mro⟩ := F.called_set.mro
  have made := F.called_set.made; have sub := F.called_set.sub
  have n1 := F.called_set.notType; have n2 := F.called_set.canCreate; have n3 := F.typeCall_set_1 (.ref l)
  refine wpAny_call (codeAny_of_tree (show wpAny _ _ (callAny (.type "set") _) _ _ _ from wpAny_pure ⟨Code.quiet_builtin _ (by decide +kernel), codeAny_builtin F.entry_type_call ?_⟩))
  rw [Around.under_plain (weight_type_call_type "set" [.ref l] []) rfl]
  repeat (any_goals (first | assumption | wp_step))
  refine codeAny_mono (code_set_led1 (.ref l) (E := E) (Q₁ := fun o t => o = .ref s.heap.objs.size ∧ t = { s with heap := s.heap.push (set0 w) }) ⟨rfl, rfl⟩) fun r t hr => ?_
  cases r with
  | error e => exact hr
  | ok fl =>
    cases fl with
    | ret obj =>
      obtain ⟨rfl, rfl⟩ := hr
      have at0 : (s.heap.push (set0 w)).get? s.heap.objs.size = some (set0 w) := Heap.get?_push_size _ rfl
      have ty : Shared.TypeIs { s with heap := s.heap.push (set0 w) } (.ref s.heap.objs.size) "set" := ⟨_, at0, rfl⟩
      have il := F.called_set.init.lookup; have ib := F.called_set.init.bind (.ref s.heap.objs.size)
      repeat (any_goals (first | assumption | wp_step))
      refine codeAny_mono (codeAny_call_builtin (R := wants (fun r t => r = .none ∧ ∃ g tk c, t = { s with heap := g, toks := tk } ∧ SetR w g s.heap.objs.size (fun j => decide (j ∈ ns)) c ∧ c ≤ ns.length ∧ ∀ b o, s.heap.get? b = some o → g.get? b = some o) E) F.called_set.init.plain F.entry_set_init (check_set_init_1 ty ?_)) fun r2 t2 hr2 => ?_
      · obtain ⟨⟨cl, di, da, sl⟩, ho, hc, nl, hd⟩ := hx
        simp only at hc hd
        subst hc; subst hd
        have lt : l < s.heap.objs.size := Heap.lt_size ho
        have hol : (s.heap.push (set0 w)).get? l = some { cls := .type "list", dict := di, data := .seq xs nl, slots := sl } := Heap.get?_push_of_some _ ho
        have k1 := F.sub_list_set; have k2 := F.sub_list_frozenset
        have k3 : (Value.type "list" == Value.type "dict") = false := by decide
        have isl : (s.heap.push (set0 w)).IsList l xs := ⟨_, hol, rfl, nl, rfl⟩
        unfold Builtin.«set.__init__» noKeywords Builtin.Frozenset.updateFrom
        generalize ePI : pyIter = PI
        wp_walk
        subst ePI
        refine wpAny_pyIter_list isl (wpAny_bind (wpAny_runValue ?_))
        have h3 : A.in1.in1.in1.handled = none := by simp [hA]
        have ps : (s.heap.push (set0 w)).objs.size = s.heap.objs.size + 1 := Heap.size_push ..
        have d1 : l ≠ (s.heap.push (set0 w)).objs.size := Nat.ne_of_lt (by rw [ps]; exact Nat.lt_succ_of_lt lt)
        have d2 : s.heap.objs.size ∉ [(s.heap.push (set0 w)).objs.size, l] := by
          rw [ps, List.mem_cons, List.mem_singleton, not_or]
          exact ⟨Nat.ne_of_lt (Nat.lt_succ_self _), Nat.ne_of_gt lt⟩
        have vals : ∀ (i : Nat) (v : Value), xs[i]? = some v → ∃ k t, ns[i]? = some k ∧ v = .int k t := fun i v hv => by
          have li : i < ns.length := sz ▸ (Array.getElem?_eq_some_iff.mp hv).1
          obtain ⟨t, e⟩ := PyProof.Rows.IntsAre.int_at hi i v (by rw [Array.getElem?_toList]; exact hv)
          exact ⟨ns[i], t, List.getElem?_eq_getElem li, by rw [e, List.getD_eq_getElem?_getD, List.getElem?_eq_getElem li]; rfl⟩
        refine set_update_ints ((Walks.list h3 _ l d1 xs).toS) s.heap.objs.size d2 ns sz hb vals (xs.size - 0) 0 _ (by omega) (Nat.zero_le _) ⟨⟨_, Heap.get?_push_size _ rfl, rfl, rfl⟩, isl.push _⟩ ⟨0, Nat.le_refl 0, setR_new_at (Heap.get?_push_of_some _ at0)⟩ fun t3 c mv hc R3 => ?_
        obtain ⟨g, gg, dd, tk, oo⟩ := t3
        have eg : gg = s.gens := mv.gens
        have ed : dd = s.drawn := mv.drawn
        have eo : oo = s.os := mv.os
        subst eg; subst ed; subst eo
        refine wpAny_pure (wpAny_pure ⟨rfl, g, tk, c, rfl, R3, sz ▸ hc, fun b o e => ?_⟩)
        have lb : b < s.heap.objs.size := Heap.lt_size e
        refine mv.heap b o (fun m => ?_) (Heap.get?_push_of_some _ (Heap.get?_push_of_some _ e))
        rcases List.mem_cons.mp m with z | z
        · exact Nat.ne_of_lt lb z
        · exact Nat.ne_of_lt (Nat.lt_succ_of_lt lb) ((List.mem_singleton.mp z).trans ps)
      · cases r2 with
        | error e => exact hr2
        | ok fl =>
          cases fl with
          | ret v =>
            obtain ⟨rfl, g, tk, c, rfl, R3, hc, kp⟩ := hr2
            exact wpAny_pure (wpAny_pure (q g tk c R3 hc kp))
          | _ => exact hr2.elim
    | _ => exact hr.elim
end
/-- each number once, rising -/
def dd : List Int → List Int
  | [] => []
  | x :: r => if x ∈ r then dd r else x :: dd r
theorem dd_mem : ∀ (l : List Int) (k : Int), k ∈ dd l ↔ k ∈ l
  | [], k => Iff.rfl
  | x :: r, k => by
    unfold dd
    split
    · rename_i z
      rw [dd_mem r k, List.mem_cons]
      exact ⟨.inr, fun q => q.elim (fun e => e ▸ z) id⟩
    · rw [List.mem_cons, List.mem_cons, dd_mem r k]
theorem dd_nodup : ∀ l : List Int, (dd l).Nodup
  | [] => List.nodup_nil
  | x :: r => by
    unfold dd
    split
    · exact dd_nodup r
    · rename_i z
      exact List.nodup_cons.mpr ⟨fun q => z ((dd_mem r x).mp q), dd_nodup r⟩
theorem dd_len : ∀ l : List Int, (dd l).length ≤ l.length
  | [] => Nat.le_refl _
  | x :: r => by
    have ih := dd_len r
    unfold dd
    split
    · rw [List.length_cons]; omega
    · rw [List.length_cons, List.length_cons]; omega
theorem setR_count {w : World} {h : Heap} {a : Addr} {ns : List Int} {n : Nat} (R : SetR w h a (fun j => decide (j ∈ ns)) n) : n = (dd ns).length := by
  obtain ⟨o, es, ep, t, ho, hx, hd, g, nd, hm, hb, hf, hn, _⟩ := R
  have pm := (List.perm_ext_iff_of_nodup nd (dd_nodup ns)).mpr fun k => by
    rw [← hm k, dd_mem]
    exact decide_eq_true_iff
  have e := pm.length_eq
  rw [List.length_map, Array.length_toList] at e
  rw [← hn, e]
section
variable {X : Cx}
/-- set(xs), then sorted -/
def rSetL (K : PySem.W.Frag) (w : World) : List V → Hp → VK → Prop := fun vs H Q => ∃ (l : Addr) (ns : List Int), vs = [V.ref l] ∧ SqL K H l (ns.map V.int) ∧ ns.length < 1000 ∧ ∀ p c, H p = none → c = (dd ns).length → Q (.ref p) (upd H p (SetO w p (fun j => decide (j ∈ ns)) c))
theorem cr_setL (hc : X.calm = true) : CallR X (.type "set") (rSetL X.K X.w) := by
  intro pins s σ H xs us Q I r h
  obtain ⟨l, ns, rfl, hl, h64, q⟩ := h
  rw [Vals.ref1 r]
  obtain ⟨its, rv, pl, hz⟩ := I.list hl
  refine listSet (P := X.prog) (w := X.w) ns (I.ok.hd hc) pl.isList (ints_of_vals rv) (by have : scanBound = 4096 := rfl; omega) fun g tk c R hc' k => ?_
  exact ⟨.ref s.heap.objs.size, upd H s.heap.objs.size (SetO X.w s.heap.objs.size (fun j => decide (j ∈ ns)) c), I.laid (t' := tk) k (Nat.le_refl _) (setO_new R), rfl, q _ c (I.hok.fresh (Nat.le_refl _)) (setR_count R)⟩
end
def srtU (l : List Int) : List Int := PySem.W.sortI (dd l)
theorem srtU_is {l ns : List Int} (h1 : ns.Pairwise (· < ·)) (h2 : ∀ k : Int, k ∈ ns ↔ k ∈ l) : ns = srtU l := by
  have nd : ns.Nodup := h1.imp fun {a b} q => Int.ne_of_lt q
  refine srt_eq ?_ (h1.imp fun {a b} q => Int.le_of_lt q)
  exact (List.perm_ext_iff_of_nodup nd (dd_nodup l)).mpr fun a => by rw [h2, dd_mem]
def lSrtSet (x : DV) : M (List DV) := fun h => match asL h x with
  | some l => (match asInts l with
    | some ns => if ns.length < 1000 ∧ (dd ns).length < 64 then .ok ((srtU ns).map DV.int) h else .bad
    | none => .bad)
  | none => .bad
section
variable {X : Cx} {c : Cn} {pos pos2 p1 p2 : Pos} {a : Expr} {ma : En → M DV}
theorem c_srtSet (hk : X.K = c.g.K) (hc : X.calm = true) (hg : Gl X "sorted") (hm : X.mg "sorted" = none) (hg2 : Gl X "set") (hm2 : X.mg "set" = none) (ha : PE X a (RB c ma)) (he : starEach (a :: []) X.env = (false, eval a X.env) :: starEach [] X.env := by rfl)
    (he2 : starEach (.Call (.Name "set" p2) [a] [] pos2 :: []) X.env = (false, eval (.Call (.Name "set" p2) [a] [] pos2) X.env) :: starEach [] X.env := by rfl) :
    PE X (.Call (.Name "sorted" p1) [.Call (.Name "set" p2) [a] [] pos2] [] pos) (RO c (iB ma lSrtSet)) :=
  pe_imp (pe_callB (cr_sortedSet hc) hg hm (by decide +kernel) (pa_cons (pe_callTy (cr_setL hc) hg2 hm2 (by decide +kernel) (pa_cons ha pa_nil he) (by decide) (by decide) he rfl) pa_nil he2) (by decide) (by decide) he2 rfl) fun s H Q q => by
    refine RX.bind (R2 := fun _ => pB c) (K := fun v H1 => rSetL X.K X.w [v] H1 (fun v2 H2 => rSortedSet X.w [v2] H2 Q)) q fun W e W1 H1 x v h1 t S rx q2 => ?_
    have q2 : Post c (rO c H) e s W1 H1 (lSrtSet x h1) Q := q2
    unfold lSrtSet at q2
    cases z : asL h1 x with
    | none =>
      rw [z] at q2
      exact q2.elim
    | some l =>
      rw [z] at q2
      cases z2 : asInts l with
      | none =>
        simp only [z2] at q2
        exact q2.elim
      | some ns =>
        simp only [z2] at q2
        by_cases h64 : ns.length < 1000 ∧ (dd ns).length < 64
        rotate_left
        · rw [if_neg h64] at q2
          exact q2.elim
        rw [if_pos h64] at q2
        obtain ⟨p, vs, e1, sq, rs⟩ := asL_ok S rx z
        rw [asInts_map z2] at rs
        have e2 := reps_ints_inv rs
        subst e1 e2
        refine ⟨p, ns, rfl, by rw [hk]; exact sq, h64.1, fun p0 n hp0 hn => ⟨p0, _, n, rfl, upd_same, by rw [hn]; exact h64.2, fun ms p3 m1 m2 m3 hp3 => ?_⟩⟩
        obtain ⟨t3, S3⟩ := S.new (p := p0) (o := SetO X.w p0 (fun j => decide (j ∈ ns)) n) hp0
        have em : ms = srtU ns := srtU_is m1 fun k => by rw [m2]; exact decide_eq_true_iff
        subst em
        have q3 : Post c (rO c H) e s W1 (upd H1 p0 (SetO X.w p0 (fun j => decide (j ∈ ns)) n)) (.ok ((srtU ns).map DV.int) h1) Q := fun W2 H2 b t4 S4 r4 => q2 W2 H2 b (t3.trans t4) S4 r4
        exact post_own q3 S3 (reps_ints _) hp3 (t.th p3 (t3.th p3 hp3))
end
theorem lSrtSet_lstW (l : List Int) (hl : l.length < 1000) (hd : (dd l).length < 64) (h : HP) : lSrtSet (.lst (l.map DV.int)) h = .ok ((srtU l).map DV.int) h := by
  show (match asInts (l.map DV.int) with
    | some ns => if ns.length < 1000 ∧ (dd ns).length < 64 then Res.ok ((srtU ns).map DV.int) h else .bad
    | none => .bad) = _
  rw [asInts_ints l]
  exact if_pos ⟨hl, hd⟩
@[simp] theorem lSrtSet_lst (l : List Int) (hl : l.length < 64) (h : HP) : lSrtSet (.lst (l.map DV.int)) h = .ok ((srtU l).map DV.int) h :=
  lSrtSet_lstW l (by omega) (Nat.lt_of_le_of_lt (dd_len l) hl) h
end LM

/-! Dicts of whole numbers. -/
namespace LM
open PySem L2
def dKs (ks : List Int) (k : Int) : List Int := if k ∈ ks then ks else ks ++ [k]
def dRep {α : Type} : List Int → List α → Int → α → List α
  | q :: ks, x :: l, k, v => (if q = k then v else x) :: dRep ks l k v
  | _, l, _, _ => l
def dVs {α : Type} (ks : List Int) (l : List α) (k : Int) (v : α) : List α := if k ∈ ks then dRep ks l k v else l ++ [v]
def dGet {α : Type} : List Int → List α → Int → Option α
  | q :: ks, x :: l, k => if q = k then some x else dGet ks l k
  | _, _, _ => none
theorem dRep_len {α : Type} : ∀ (ks : List Int) (l : List α) (k : Int) (v : α), (dRep ks l k v).length = l.length
  | [], _, _, _ => rfl
  | _ :: _, [], _, _ => rfl
  | q :: ks, x :: l, k, v => congrArg (· + 1) (dRep_len ks l k v)
theorem dVs_len {α : Type} {ks : List Int} {l : List α} (k : Int) (v : α) (h : ks.length = l.length) : (dKs ks k).length = (dVs ks l k v).length := by
  unfold dKs dVs
  split
  · rw [dRep_len, h]
  · rw [List.length_append, List.length_append, h]
    rfl
theorem d_any : ∀ (ks : List Int) (vs : List V) (k : Int), ks.length = vs.length → (((ks.map (Sum.inl : Int → Key)).zip vs).any fun kv => decide (kv.1 = (.inl k : Key))) = decide (k ∈ ks)
  | [], vs, k, _ => by simp
  | q :: ks, [], k, h => by cases h
  | q :: ks, v :: vs, k, h => by
    have ih := d_any ks vs k (Nat.succ.inj h)
    rw [List.map_cons, List.zip_cons_cons, List.any_cons, ih]
    show (decide ((Sum.inl q : Key) = .inl k) || decide (k ∈ ks)) = _
    by_cases z : q = k
    · subst z
      simp
    · have z2 : ¬ k = q := fun e => z e.symm
      simp [z, z2]
theorem d_map : ∀ (ks : List Int) (vs : List V) (k : Int) (v : V), ks.length = vs.length → ((ks.map (Sum.inl : Int → Key)).zip vs).map (fun kv => if kv.1 = (.inl k : Key) then (kv.1, v) else kv) = (ks.map Sum.inl).zip (dRep ks vs k v)
  | [], vs, k, v, _ => rfl
  | q :: ks, [], k, v, h => by cases h
  | q :: ks, x :: vs, k, v, h => by
    have ih := d_map ks vs k v (Nat.succ.inj h)
    rw [List.map_cons, List.zip_cons_cons, List.map_cons, ih]
    show _ = (Sum.inl q, if q = k then v else x) :: (ks.map Sum.inl).zip (dRep ks vs k v)
    congr 1
    show (if (Sum.inl q : Key) = .inl k then ((Sum.inl q : Key), v) else (Sum.inl q, x)) = _
    by_cases z : q = k
    · rw [if_pos z, if_pos (by rw [z])]
    · rw [if_neg z, if_neg fun e => z (Sum.inl.inj e)]
theorem d_put (ks : List Int) (vs : List V) (k : Int) (v : V) (h : ks.length = vs.length) : putK ((ks.map (Sum.inl : Int → Key)).zip vs) (.inl k) v = ((dKs ks k).map Sum.inl).zip (dVs ks vs k v) := by
  unfold putK dKs dVs
  rw [d_any ks vs k h]
  by_cases z : k ∈ ks
  · rw [if_pos z, if_pos z, if_pos (decide_eq_true z), d_map ks vs k v h]
  · rw [if_neg z, if_neg z, if_neg (by rw [decide_eq_false z]; decide), List.map_append, List.zip_append (by rw [List.length_map]; exact h)]
    rfl
theorem d_val : ∀ (ks : List Int) (vs : List V) (k : Int), valV ((ks.map (Sum.inl : Int → Key)).zip vs) (.inl k) = dGet ks vs k
  | [], vs, k => rfl
  | q :: ks, [], k => rfl
  | q :: ks, v :: vs, k => by
    have ih := d_val ks vs k
    unfold valV at ih ⊢
    show _ = (if q = k then some v else dGet ks vs k)
    rw [List.map_cons, List.zip_cons_cons, List.find?_cons]
    by_cases z : q = k
    · subst z
      simp
    · have z2 : decide ((Sum.inl q : Key) = .inl k) = false := decide_eq_false fun e => z (Sum.inl.inj e)
      rw [if_neg z, ← ih, z2]
theorem Reps.dRep {g : Glue} {W : Wd} {H : Hp} {d : DV} {v : V} (r : Rep g W H d v) : ∀ {ks : List Int} {l : List DV} {vs : List V} (k : Int), Reps g W H l vs → Reps g W H (LM.dRep ks l k d) (LM.dRep ks vs k v)
  | [], l, vs, k, q => by
    unfold LM.dRep
    exact q
  | q0 :: ks, [], vs, k, q => by
    have e : vs = [] := by simpa only [Reps] using q
    rw [e]
    exact .nil
  | q0 :: ks, x :: l, vs, k, q => by
    simp only [Reps] at q
    obtain ⟨y, t, e, h1, h2⟩ := q
    subst e
    show Reps g W H ((if q0 = k then d else x) :: LM.dRep ks l k d) ((if q0 = k then v else y) :: LM.dRep ks t k v)
    split
    · exact .cons r (Reps.dRep r k h2)
    · exact .cons h1 (Reps.dRep r k h2)
theorem Reps.dVs {g : Glue} {W : Wd} {H : Hp} {d : DV} {v : V} (r : Rep g W H d v) {ks : List Int} {l : List DV} {vs : List V} (k : Int) (q : Reps g W H l vs) : Reps g W H (LM.dVs ks l k d) (LM.dVs ks vs k v) := by
  unfold LM.dVs
  split
  · exact Reps.dRep r k q
  · exact q.app (.cons r .nil)
theorem Reps.dGet {g : Glue} {W : Wd} {H : Hp} : ∀ {ks : List Int} {l : List DV} {vs : List V} {k : Int} {d : DV}, Reps g W H l vs → LM.dGet ks l k = some d → ∃ v, LM.dGet ks vs k = some v ∧ Rep g W H d v
  | [], l, vs, k, d, _, e => by cases e
  | q0 :: ks, [], vs, k, d, _, e => by cases e
  | q0 :: ks, x :: l, vs, k, d, q, e => by
    simp only [Reps] at q
    obtain ⟨y, t, e2, h1, h2⟩ := q
    subst e2
    have e : (if q0 = k then some x else LM.dGet ks l k) = some d := e
    show ∃ v, (if q0 = k then some y else LM.dGet ks t k) = some v ∧ _
    by_cases z : q0 = k
    · rw [if_pos z] at e ⊢
      cases e
      exact ⟨y, rfl, h1⟩
    · rw [if_neg z] at e ⊢
      exact Reps.dGet h2 e
theorem Reps.dNone {g : Glue} {W : Wd} {H : Hp} : ∀ {ks : List Int} {l : List DV} {vs : List V} {k : Int}, Reps g W H l vs → (LM.dGet ks vs k).isSome = (LM.dGet ks l k).isSome
  | [], l, vs, k, _ => rfl
  | q0 :: ks, [], vs, k, q => by
    have e : vs = [] := by simpa only [Reps] using q
    rw [e]
    rfl
  | q0 :: ks, x :: l, vs, k, q => by
    simp only [Reps] at q
    obtain ⟨y, t, e2, h1, h2⟩ := q
    subst e2
    show (if q0 = k then some y else LM.dGet ks t k).isSome = (if q0 = k then some x else LM.dGet ks l k).isSome
    by_cases z : q0 = k
    · rw [if_pos z, if_pos z]
      rfl
    · rw [if_neg z, if_neg z]
      exact Reps.dNone h2
/-! ### found = {} -/
def sSetD (i : Nat) : Stm := fun e h => .nx (e.set i (.dic [] [])) h
section
variable {X : Cx} {c : Cn} {pos pos' pos2 : Pos}
theorem s_setD {i : Nat} {x : Str} (hN : X.N.Nodup) (hi : X.N[i]? = some x) (hx : Loc X.env.scope x) (hs : swapsWith (.Dict [] [] pos2) (some (.Name x pos')) pos.line X.env = pure false := by rfl) (hf : X.fn x = true ∨ X.env.scope.names.lookup x = some .local := by first | exact .inl rfl | exact .inr rfl | assumption) :
    PS X (.Assign [.Name x pos'] (.Dict [] [] pos2) pos) (RS c (sSetD i)) := ps_imp (ps_set hN hi hx pe_dnewK hs hf) fun D s H q p hp => by
  obtain ⟨W, e, h, S, q⟩ := q
  have q : PostS c W H (.nx (e.set i (.dic [] [])) h) D := q
  obtain ⟨t, S1⟩ := S.new (o := .dK []) hp
  refine (q.later (t.per S.hs)).nx ?_
  refine S1.owned (a := p) S1.hs S1.st (Per.refl _ _) (fun b o e _ => e) (fun b f => f) rfl ⟨⟨[], upd_same, rfl, .nil⟩, not_F S.hs hp, not_r S.hs hp, S.st.th p hp⟩ rfl (fun j y hj e3 o z => ?_) (List.length_set ..) (fun hi => List.getElem?_set_self hi) fun j hj => List.getElem?_set_ne (Ne.symm hj)
  obtain ⟨b, e4, o2⟩ := S.ownAt e3 o
  rw [z] at e4
  have eb : p = b := V.ref.inj (Option.some.inj (Option.some.inj e4))
  subst eb
  cases y with
  | own l =>
    obtain ⟨⟨vs, q, _⟩, _⟩ := o2
    rw [hp] at q
    cases q
  | dic ks l =>
    obtain ⟨⟨vs, q, _⟩, _⟩ := o2
    rw [hp] at q
    cases q
  | none => cases o
  | exn y => cases o
  | val d => cases o
end
/-! ### found[k] = e -/
def putD (i : Nat) (ks : List Int) (l : List DV) (d k : DV) (e : En) (h : HP) : SRes := match k with
  | .int k => if ks.length < 1000 then .nx (e.set i (.dic (dKs ks k) (dVs ks l k d))) h else .bad
  | _ => .bad
def sPutD (i : Nat) (mv mk : En → M DV) : Stm := fun e h => match e[i]? with
  | some (.dic ks l) => sBind mv (fun d => sBind mk fun k e h => putD i ks l d k e h) e h
  | _ => .bad
section
variable {X : Cx} {c : Cn} {pos p1 p2 : Pos} {ex ix : Expr} {mv mk : En → M DV}
theorem s_putD {s0 : Nat} {x : Str} (hu : X.A.units + 64 < cLine) (hN : X.N[s0]? = some x) (hvis : Vis X.env.scope x) (hv : PE X ex (RE c mv)) (hi : PE X ix (RE c mk)) (hd : (x == ("__debug__" : Str)) = false := by decide) (hcd : (x == ("__classdict__" : Str)) = false := by decide)
    (hs : swapsWith ex (some (.Subscript (.Name x p2) ix p1)) pos.line X.env = pure false := by rfl) : PS X (.Assign [.Subscript (.Name x p2) ix p1] ex pos) (RS c (sPutD s0 mv mk)) :=
  ps_imp (ps_dput (Nat.lt_of_le_of_lt (by omega) hu) (pe_var hN hvis hd hcd) hi hv hs) fun D s H q => by
    obtain ⟨W, e, h, S0, q⟩ := q
    unfold sPutD at q
    cases z : e[s0]? with
    | none =>
      rw [z] at q
      exact q.elim
    | some y =>
      rw [z] at q
      cases y with
      | dic ks l =>
        simp only [] at q
        refine ⟨W, e, h, S0, sb_at S0 q fun W1 H1 d v h1 t1 S1 r1 q1 => ?_⟩
        obtain ⟨a, vs, e2, e3, lv, rs, nn⟩ := S1.dic s0 ks l z
        refine ⟨.ref a, e2, W1, e, h1, S1, sb_at S1 q1 fun W3 H3 i u h3 t3 S3 r3 q3 => ?_⟩
        have rd := stays_V.go S1.hs t3 r1
        have q4 : PostS c W3 H3 (putD s0 ks l d i e h3) D := q3
        unfold putD at q4
        cases i with
        | int k =>
          simp only [] at q4
          by_cases hl : ks.length < 1000
          rotate_left
          · rw [if_neg hl] at q4
            exact q4.elim
          rw [if_pos hl] at q4
          simp only [Rep] at r3
          subst r3
          obtain ⟨a1, vs1, f2, f3, lv1, rr, n1⟩ := S3.dic s0 ks l z
          rw [e2] at f2
          have ea : a = a1 := V.ref.inj (Option.some.inj (Option.some.inj f2))
          subst ea
          obtain ⟨S4, p4⟩ := S3.chgOwn (y := .dic (dKs ks k) (dVs ks l k d)) (o' := .dK (((dKs ks k).map Sum.inl).zip (dVs ks vs1 k v))) z rfl e2 f3 (fun _ w => by cases w) (fun _ _ w => by cases w) n1 rfl fun p => ⟨⟨_, upd_same, dVs_len k v lv1, Reps.dVs (Rep.per p _ _ rd) k (rr.per p _ _)⟩, n1⟩
          refine ⟨a, _, rfl, .inl ⟨_, .inl k, f3, rfl, ?_, rfl⟩, ?_⟩
          · rw [List.length_zip, List.length_map, lv1, Nat.min_self, ← lv1, sizeLine_eq]
            omega
          · rw [d_put ks vs1 k v lv1]
            exact (q4.later p4).nx S4
        | _ => exact q4.elim
      | _ => exact q.elim
end
/-! ### a dict that is changed no more -/
def sFrzD (i : Nat) : Stm := fun e h => match e[i]? with
  | some (.dic ks l) => .nx (e.set i (.val (.dct ks l))) h
  | some (.val _) => .nx e h
  | _ => .bad
theorem frzD_use {c : Cn} {a : Stm} {i : Nat} {D : Ends} {s : L2.St} {H : Hp} (q : RS c (sSeq (sFrzD i) a) D s H) : RS c a D s H := by
  obtain ⟨W, e, h, S, q⟩ := q
  unfold sSeq sFrzD at q
  cases z : e[i]? with
  | none =>
    rw [z] at q
    exact q.elim
  | some x =>
    rw [z] at q
    cases x with
    | none => exact q.elim
    | val d => exact ⟨W, e, h, S, q⟩
    | own l => exact q.elim
    | exn y => exact q.elim
    | dic ks l =>
      obtain ⟨p, vs, e2, e3, lv, r, n1, n2, n3⟩ := S.dic i ks l z
      have hs := S.hs.frz e3 n2
      have pr : Per W H (W.frz p) H := ⟨fun _ f => .inl f, fun _ _ e => e, fun _ _ => rfl, fun _ _ e => e, fun _ _ _ e => e⟩
      have rl : Rep c.g (W.frz p) H (.dct ks l) (.ref p) := by
        simp only [Rep]
        exact ⟨p, vs, rfl, .inr rfl, e3, lv, r.per pr _ _⟩
      have nb : ∀ (j : Nat) (y : Slot), j ≠ i → e[j]? = some y → y.isOwn = true → s[j]? ≠ some (some (.ref p)) := fun j y hj e4 o e5 => hj (S.ne j i p y _ e4 o z rfl e5 e2)
      have hi : i < e.length := (List.getElem?_eq_some_iff.mp z).1
      have back : ∀ (j : Nat) (y : Slot), (e.set i (.val (.dct ks l)))[j]? = some y → (j = i ∧ y = .val (.dct ks l)) ∨ (j ≠ i ∧ e[j]? = some y) := fun j y e1 => by
        by_cases hj : j = i
        · subst hj
          rw [List.getElem?_set_self hi] at e1
          cases e1
          exact .inl ⟨rfl, rfl⟩
        · rw [List.getElem?_set_ne (Ne.symm hj)] at e1
          exact .inr ⟨hj, e1⟩
      refine ⟨W.frz p, _, h, ⟨hs, S.st.frz n3, by rw [List.length_set]; exact S.len, fun j d e1 => ?_, fun j l2 e1 => ?_, fun j ks2 l2 e1 => ?_, fun j k b x y e1 o1 e4 o2 e5 e6 => ?_, fun j y e1 => ?_⟩, q.later pr⟩
      · rcases back j _ e1 with ⟨hj, ey⟩ | ⟨hj, e1⟩
        · cases ey
          subst hj
          exact ⟨_, e2, rl⟩
        · obtain ⟨v, e4, r4⟩ := S.val j d e1
          exact ⟨v, e4, r4.per pr _ _⟩
      · rcases back j _ e1 with ⟨_, ey⟩ | ⟨hj, e1⟩
        · cases ey
        · obtain ⟨b, ws, e4, e5, r4, m1, m2, m3⟩ := S.own j l2 e1
          exact ⟨b, ws, e4, e5, r4.per pr _ _, fun f => f.elim m1 fun w => nb j _ hj e1 rfl (w ▸ e4), m2, m3⟩
      · rcases back j _ e1 with ⟨_, ey⟩ | ⟨hj, e1⟩
        · cases ey
        · obtain ⟨b, ws, e4, e5, w0, r4, m1, m2, m3⟩ := S.dic j ks2 l2 e1
          exact ⟨b, ws, e4, e5, w0, r4.per pr _ _, fun f => f.elim m1 fun w => nb j _ hj e1 rfl (w ▸ e4), m2, m3⟩
      · rcases back j _ e1 with ⟨_, ey⟩ | ⟨hj, e1⟩
        · rw [ey] at o1
          cases o1
        · rcases back k _ e4 with ⟨_, ey⟩ | ⟨hk, e4⟩
          · rw [ey] at o2
            cases o2
          · exact S.ne j k b x y e1 o1 e4 o2 e5 e6
      · rcases back j _ e1 with ⟨_, ey⟩ | ⟨hj, e1⟩
        · cases ey
        · obtain ⟨b, cls, dd, e4, e5, r4⟩ := S.exn j y e1
          exact ⟨b, cls, dd, e4, e5, r4.per pr⟩
theorem s_frzD {X : Cx} {c : Cn} {st : Stmt} {a : Stm} {i : Nat} (h : PS X st (RS c a)) : PS X st (RS c (sSeq (sFrzD i) a)) := ps_imp h fun D s H q => frzD_use q
/-! ### d[k] -/
def vGetD (x y : DV) : M DV := fun h => match x, y with
  | .dct ks l, .int k => (match dGet ks l k with
    | some d => .ok d h
    | none => .bad)
  | _, _ => .bad
theorem repB_dct {g : Glue} {W : Wd} {H : Hp} {ks : List Int} {l : List DV} {v : V} (r : RepB g W H (.dct ks l) v) : ∃ a vs, v = .ref a ∧ H a = some (.dK ((ks.map Sum.inl).zip vs)) ∧ ks.length = vs.length ∧ Reps g W H l vs := by
  rcases r with r | ⟨m, p, vs, e1, _⟩ | ⟨ks2, m, a, vs, e1, e2, e3, z, rr, _⟩
  · simp only [Rep] at r
    obtain ⟨a, vs, e1, _, e3, z, rr⟩ := r
    exact ⟨a, vs, e1, e3, z, rr⟩
  · cases e1
  · cases e1
    exact ⟨a, vs, e2, e3, z, rr⟩
section
variable {X : Cx} {c : Cn} {pos : Pos} {o i : Expr} {mo mi : En → M DV}
theorem c_getD (hu : X.A.units + 64 < cLine) (ho : PE X o (RB c mo)) (hi : PE X i (RE c mi)) (hs : NoSl i := by intro _ _; rfl) : PE X (.Subscript o i pos) (RE c (e2 vGetD mo mi)) :=
  pe_imp (pe_dget (Nat.lt_of_le_of_lt (by omega) hu) ho hi hs) fun s H Q q => by
    refine RX.bind (R2 := fun _ => pB c) (K := fun v H1 => RE c mi s H1 fun y H2 => ∃ a w, v = .ref a ∧ DGet H2 a y (some w) ∧ Q w H2) q fun W e W1 H1 x v h1 t S rx q2 => ⟨W1, e, h1, S, ?_⟩
    refine Post.bind q2 fun W2 H2 y u h2 t2 S2 ry q3 => ?_
    have rx2 := stays_B.go S.hs t2 rx
    have q3 : Post c (rV c H) e s W2 H2 (vGetD x y h2) Q := q3
    unfold vGetD at q3
    cases x with
    | dct ks l =>
      cases y with
      | int k =>
        simp only [] at q3
        cases z : dGet ks l k with
        | none =>
          rw [z] at q3
          exact q3.elim
        | some d =>
          rw [z] at q3
          obtain ⟨a, vs, e1, e3, lv, rr⟩ := repB_dct rx2
          obtain ⟨w, ew, rw0⟩ := Reps.dGet rr z
          simp only [Rep] at ry
          subst ry
          exact ⟨a, w, e1, .inl ⟨_, .inl k, .inl e3, rfl, by rw [d_val, ew]⟩, q3.ret S2 rw0⟩
      | _ => exact q3.elim
    | _ => exact q3.elim
end
end LM

/-! k in d, len(d), max(xs). -/
namespace LM
open PySem L2
def vInD (neg : Bool) (x y : DV) : M DV := fun h => match x, y with
  | .int k, .dct ks l => .ok (.bl (if neg then !(dGet ks l k).isSome else (dGet ks l k).isSome)) h
  | _, _ => .bad
section
variable {X : Cx} {c : Cn} {pos : Pos} {a b : Expr} {ma mb : En → M DV}
theorem inD_core (neg : Bool) {s : L2.St} {H : Hp} {Q : VK} (q : RE c (e2 (vInD neg) ma mb) s H Q) : RX c (fun _ => pV c) ma s H fun y H1 => RX c (fun _ => pB c) mb s H1 fun x H2 => ∃ a o, x = .ref a ∧ DGet H2 a y o ∧ Q (.bl (if neg then !o.isSome else o.isSome)) H2 := by
  refine RX.bind (R2 := fun _ => pV c) q fun W e W1 H1 x v h1 t S rx q2 => ⟨W1, e, h1, S, ?_⟩
  refine Post.bind q2 fun W2 H2 y u h2 t2 S2 ry q3 => ?_
  have rx2 := stays_V.go S.hs t2 rx
  have q3 : Post c (rV c H) e s W2 H2 (vInD neg x y h2) Q := q3
  unfold vInD at q3
  cases x with
  | int k =>
    cases y with
    | dct ks l =>
      simp only [] at q3
      obtain ⟨a, vs, e1, e3, lv, rr⟩ := repB_dct ry
      simp only [pV, Rep] at rx2
      subst rx2
      refine ⟨a, dGet ks vs k, e1, .inl ⟨_, .inl k, .inl e3, rfl, by rw [d_val]⟩, ?_⟩
      rw [Reps.dNone rr]
      exact q3.ret S2 (by simp only [rV, Rep])
    | _ => exact q3.elim
  | _ => exact q3.elim
theorem c_inD (hu : X.A.units + 64 < cLine) (ha : PE X a (RE c ma)) (hb : PE X b (RB c mb)) (hm : behindInMarks .In b = false := by rfl) : PE X (.Compare a [.In] [b] pos) (RE c (e2 (vInD false) ma mb)) :=
  pe_imp (pe_cmp (pc_din (Nat.lt_of_le_of_lt (by omega) hu) ha hb) hm) fun s H Q q => inD_core false q
theorem c_notinD (hu : X.A.units + 64 < cLine) (ha : PE X a (RE c ma)) (hb : PE X b (RB c mb)) (hm : behindInMarks .NotIn b = false := by rfl) : PE X (.Compare a [.NotIn] [b] pos) (RE c (e2 (vInD true) ma mb)) :=
  pe_imp (pe_cmp (pc_dnotin (Nat.lt_of_le_of_lt (by omega) hu) ha hb) hm) fun s H Q q => inD_core true q
theorem t_inD (hu : X.A.units + 64 < cLine) (ha : PE X a (RE c ma)) (hb : PE X b (RB c mb)) (hm : behindInMarks .In b = false := by rfl) : PT X (.Compare a [.In] [b] pos) (RT c (tb (e2 (vInD false) ma mb))) :=
  pt_imp (pt_cmp (pc_din (Nat.lt_of_le_of_lt (by omega) hu) ha hb) hm) fun s H Q q => tb_use (c := c) (ma := e2 (vInD false) ma mb) (t := tDIn (RE c ma) (RB c mb)) (fun _ z => inD_core false z) q
theorem t_notinD (hu : X.A.units + 64 < cLine) (ha : PE X a (RE c ma)) (hb : PE X b (RB c mb)) (hm : behindInMarks .NotIn b = false := by rfl) : PT X (.Compare a [.NotIn] [b] pos) (RT c (tb (e2 (vInD true) ma mb))) :=
  pt_imp (pt_cmp (pc_dnotin (Nat.lt_of_le_of_lt (by omega) hu) ha hb) hm) fun s H Q q => tb_use (c := c) (ma := e2 (vInD true) ma mb) (t := tDNotIn (RE c ma) (RB c mb)) (fun _ z => inD_core true z) q
/-! ### len(d) -/
def vLenD (x : DV) : M DV := fun h => match x with
  | .dct ks l => .ok (.int ks.length) h
  | _ => .bad
theorem prim_lenD : Prim1 c (pB c) (rV c) vLenD (fun xs H Q => ∃ a kvs, xs = [V.ref a] ∧ H a = some (.dK kvs) ∧ Q (.int kvs.length) H) := by
  refine ⟨fun {W e h s H Hs x v Q} S rx nw q => ?_⟩
  unfold vLenD at q
  cases x with
  | dct ks l =>
    simp only [] at q
    obtain ⟨a, vs, e1, e3, lv, rr⟩ := repB_dct rx
    subst e1
    refine ⟨a, _, rfl, e3, ?_⟩
    rw [List.length_zip, List.length_map, ← lv, Nat.min_self]
    exact q.ret S (by simp only [rV, Rep])
  | _ => exact q.elim
theorem c_lenD {p1 : Pos} (hg : Gl X "len") (hm : X.mg "len" = none) (ha : PE X a (RB c ma)) (he : starEach (a :: []) X.env = (false, eval a X.env) :: starEach [] X.env := by rfl) : PE X (.Call (.Name "len" p1) [a] [] pos) (RE c (e1 vLenD ma)) :=
  c_callB call_lenD prim_lenD hg hm PySem.boot_len ha (by decide) (by decide) he
/-! ### max(xs) -/
def mxI : List Int → Int
  | [] => 0
  | x :: r => r.foldl max x
theorem mxI_is : ∀ {l : List Int} {m : Int}, m ∈ l → (∀ y ∈ l, y ≤ m) → m = mxI l
  | [], m, h, _ => by cases h
  | x :: r, m, h, q => by
    have key : ∀ (r : List Int) (x : Int), (r.foldl max x = x ∨ r.foldl max x ∈ r) ∧ x ≤ r.foldl max x ∧ ∀ y ∈ r, y ≤ r.foldl max x := by
      intro r
      induction r with
      | nil => exact fun x => ⟨.inl rfl, Int.le_refl x, fun y hy => by cases hy⟩
      | cons a r ih =>
        intro x
        obtain ⟨h1, h2, h3⟩ := ih (max x a)
        rw [List.foldl_cons]
        refine ⟨?_, by omega, fun y hy => ?_⟩
        · rcases h1 with h1 | h1
          · rcases Int.le_total x a with z | z
            · exact .inr (by rw [h1, Int.max_eq_right z]; exact List.mem_cons_self)
            · exact .inl (by rw [h1, Int.max_eq_left z])
          · exact .inr (List.mem_cons_of_mem _ h1)
        · rcases List.mem_cons.mp hy with e | e
          · rw [e]; omega
          · exact h3 y e
    obtain ⟨h1, h2, h3⟩ := key r x
    have a1 : r.foldl max x ≤ m := q _ (by
      rcases h1 with e | e
      · rw [e]; exact List.mem_cons_self
      · exact List.mem_cons_of_mem _ e)
    have a2 : m ≤ r.foldl max x := by
      rcases List.mem_cons.mp h with e | e
      · rw [e]; exact h2
      · exact h3 m e
    exact Int.le_antisymm a2 a1
def vMaxL (x : DV) : M DV := fun h => match asL h x with
  | some l => (match asInts l with
    | some ns => if 0 < ns.length then .ok (.int (mxI ns)) h else .bad
    | none => .bad)
  | none => .bad
theorem prim_maxL {K : PySem.W.Frag} (hk : c.g.K = K) : Prim1 c (pB c) (rV c) vMaxL (rMax K) := by
  subst hk
  refine ⟨fun {W e h s H Hs x v Q} S rx nw q => ?_⟩
  unfold vMaxL at q
  cases z : asL h x with
  | none =>
    rw [z] at q
    exact q.elim
  | some l =>
    rw [z] at q
    cases z2 : asInts l with
    | none =>
      simp only [z2] at q
      exact q.elim
    | some ns =>
      simp only [z2] at q
      by_cases h0 : 0 < ns.length
      rotate_left
      · rw [if_neg h0] at q
        exact q.elim
      rw [if_pos h0] at q
      obtain ⟨p, vs, e1, sq, rs⟩ := asL_ok S rx z
      rw [asInts_map z2] at rs
      have e2 := reps_ints_inv rs
      subst e1 e2
      refine ⟨p, ns, rfl, sq, h0, fun m hm hy => ?_⟩
      rw [mxI_is hm hy]
      exact q.ret S (by simp only [rV, Rep])
theorem c_maxL {p1 : Pos} (hk : X.K = c.g.K) (hc : X.calm = true) (hg : Gl X "max") (hm : X.mg "max" = none) (ha : PE X a (RB c ma)) (he : starEach (a :: []) X.env = (false, eval a X.env) :: starEach [] X.env := by rfl) : PE X (.Call (.Name "max" p1) [a] [] pos) (RE c (e1 vMaxL ma)) :=
  c_callB (cr_max hc) (prim_maxL hk.symm) hg hm (by decide +kernel) ha (by decide) (by decide) he
end
section
variable {T : Tp} {X : Cx} {c : Cn} {N : List Str} {k : Nat} {sc : Scope} {x : Str} {pos p1 p2 pos' pos2 : Pos} {ex ix : Expr} {mv mk : En → M DV}
theorem k_setD {i : Nat} (h : XSt T X c N k sc) (hi : N[i]? = some x) (hx : Loc sc x) (hs : swapsWith (.Dict [] [] pos2) (some (.Name x pos')) pos.line X.env = pure false := by rfl) : PS X (.Assign [.Name x pos'] (.Dict [] [] pos2) pos) (RS c (sSetD i)) := s_setD h.e.ndX (h.e.at hi) (h.e.loc hx) hs h.f
theorem k_putD {s0 : Nat} (h : XSt T X c N k sc) (hN : N[s0]? = some x) (hvis : Vis sc x) (hv : PE X ex (RE c mv)) (hi : PE X ix (RE c mk)) (hd : (x == ("__debug__" : Str)) = false := by decide) (hcd : (x == ("__classdict__" : Str)) = false := by decide)
    (hs : swapsWith ex (some (.Subscript (.Name x p2) ix p1)) pos.line X.env = pure false := by rfl) : PS X (.Assign [.Subscript (.Name x p2) ix p1] ex pos) (RS c (sPutD s0 mv mk)) :=
  s_putD h.e.u (h.e.at hN) (h.e.vis hvis) hv hi hd hcd hs
end
end LM

/-! Recursion: no fuel left. -/
namespace LM
open PySem L2
theorem pss_bad {X : Cx} {c : Cn} {b : List Stmt} : PSs X b (RS c fun _ _ => .bad) := ⟨fun pins s σ H D I ⟨W, e, h, S, q⟩ => q.elim⟩
end LM

/-! A list, so many times, where the number may be below nought. -/
namespace LM
open PySem L2
def lMulZ (x y : DV) : M (List DV) := match y with
  | .int (.negSucc n) => (match x with
    | .lst l => if Nat.ble n 16777216 then pure [] else M.bad
    | _ => M.bad)
  | y => lMul x y
section
variable {X : Cx} {c : Cn} {pos : Pos} {a b : Expr} {ma mb : En → M DV}
theorem c_mulZ (ha : PE X a (RB c ma)) (hb : PE X b (RE c mb)) : PE X (.BinOp a .Mult b pos) (RO c (fun e => ma e >>= fun x => mb e >>= fun y => lMulZ x y)) := c_bin op_rep stays_B (Ra := pB c) (Rb := pV c) ⟨fun {W e h s H Hs x y v w Q} S rx ry nw q => by
  unfold lMulZ at q
  split at q
  · split at q
    · obtain ⟨a, vs, e1, s1, r1⟩ := lst_ok rx
      simp only [pV, Rep] at ry
      split at q
      · rename_i n _ _ hz
        rw [Nat.ble_eq] at hz
        have en : (Int.negSucc n).toNat = 0 := rfl
        refine ⟨a, _, vs, e1, ry, s1, by omega, by omega, by rw [en, Nat.mul_zero]; exact Nat.zero_le _, fun p hp => ?_⟩
        rw [en]
        exact post_own q S .nil hp (nw p hp)
      · exact q.elim
    · exact q.elim
  · unfold lMul at q
    split at q
    · obtain ⟨a, vs, e1, s1, r1⟩ := lst_ok rx
      simp only [pV, Rep] at ry
      split at q
      · rename_i hz
        rw [Bool.and_eq_true, Nat.ble_eq, Nat.ble_eq] at hz
        rename_i n _
        have en : Int.ofNat n = (n : Int) := rfl
        rw [en] at ry
        exact ⟨a, _, vs, e1, ry, s1, by omega, by omega, by rw [← r1.len, line_LN]; exact hz.2, fun p hp => post_own q S (r1.rep _) hp (nw p hp)⟩
      · exact q.elim
    · exact q.elim⟩ ha hb
end
theorem lMulZ_one (d : DV) (i : Int) (h1 : i ≤ 1000) (h2 : -1000 ≤ i) (h : HP) : lMulZ (.lst [d]) (.int i) h = .ok (List.replicate i.toNat d) h := by
  cases i with
  | ofNat n =>
    have h3 : (n : Int) ≤ 1000 := h1
    exact lMul_one d n (by omega) h
  | negSucc n =>
    have q : Nat.ble n 16777216 = true := Nat.ble_eq.mpr (by omega)
    show (if Nat.ble n 16777216 = true then (pure [] : M (List DV)) else M.bad) h = _
    rw [if_pos q]
    rfl
end LM

/-! i ** j; d.get(k, x). -/
namespace LM
open PySem L2
def vPow (x y : DV) : M DV := fun h => match x, y with
  | .int i, .int j => if decide (0 ≤ j) && (decide (j ≤ 1000) && Nat.ble i.natAbs 1000000) then .ok (.int (i ^ j.toNat)) h else .bad
  | _, _ => .bad
section
variable {X : Cx} {c : Cn} {pos apos cpos : Pos} {a b o i f : Expr} {ma mb mo mi mf : En → M DV}
theorem prim_pow : Prim2 c (pV c) (pV c) (rV c) vPow (rI CPow fun i j => .int (i ^ j.toNat)) := ⟨fun {W e h s H Hs x y v w Q} S rx ry nw q => by
  unfold vPow at q
  cases x with
  | int i =>
    cases y with
    | int j =>
      simp only [] at q
      by_cases z : (decide (0 ≤ j) && (decide (j ≤ 1000) && Nat.ble i.natAbs 1000000)) = true
      · rw [if_pos z] at q
        rw [Bool.and_eq_true, Bool.and_eq_true, decide_eq_true_eq, decide_eq_true_eq, Nat.ble_eq] at z
        simp only [pV, Rep] at rx ry
        subst rx ry
        exact ⟨i, j, rfl, rfl, ⟨z.1, by omega, by omega⟩, q.ret S (by simp only [rV, Rep])⟩
      · rw [if_neg z] at q
        exact q.elim
    | _ => exact q.elim
  | _ => exact q.elim⟩
theorem c_pow (ha : PE X a (RE c ma)) (hb : PE X b (RE c mb)) : PE X (.BinOp a .Pow b pos) (RE c (e2 vPow ma mb)) := c_bin op_pow stays_V prim_pow ha hb
def vG2 (ks : List Int) (l : List DV) (y z : DV) : M DV := fun h => match y with
  | .int k => .ok ((dGet ks l k).getD z) h
  | _ => .bad
def eGet2 (mo mi mf : En → M DV) : En → M DV := fun e => mo e >>= fun x => match x with
  | .dct ks l => mi e >>= fun y => mf e >>= fun z => vG2 ks l y z
  | _ => M.bad
theorem c_get2 (hu : X.A.units + 64 < cLine) (ho : PE X o (RB c mo)) (hi : PE X i (RE c mi)) (hf : PE X f (RE c mf)) (m : M2 X o "get" apos i f cpos := by exact ⟨rfl, rfl, rfl, rfl⟩) : PE X (.Call (.Attribute o "get" apos) [i, f] [] cpos) (RE c (eGet2 mo mi mf)) :=
  pe_imp (pe_dget2 (Nat.lt_of_le_of_lt (by omega) hu) ho hi hf m) fun s H Q q => by
    refine RX.bind (R2 := fun _ => pB c) (K := fun v H1 => ∃ a, v = .ref a ∧ IsD H1 a ∧ RE c mi s H1 fun y H2 => RE c mf s H2 fun z H3 => ∃ o, DGet H3 a y o ∧ Q (o.getD z) H3) q fun W e W1 H1 x v h1 t S rx q2 => ?_
    cases x with
    | dct ks l =>
      obtain ⟨a0, vs0, e0, e30, lv0, rr0⟩ := repB_dct rx
      refine ⟨a0, e0, .inl ⟨_, .inl e30⟩, W1, e, h1, S, ?_⟩
      refine Post.bind q2 fun W2 H2 y u h2 t2 S2 ry q3 => ?_
      have rx2 := stays_B.go S.hs t2 rx
      refine ⟨W2, e, h2, S2, ?_⟩
      refine Post.bind q3 fun W3 H3 z w h3 t3 S3 rz q4 => ?_
      have rx3 := stays_B.go S2.hs t3 rx2
      have ry3 := stays_V.go S2.hs t3 ry
      have q4 : Post c (rV c H) e s W3 H3 (vG2 ks l y z h3) Q := q4
      unfold vG2 at q4
      cases y with
      | int k =>
        simp only [] at q4
        obtain ⟨a1, vs, e1, e3, lv, rr⟩ := repB_dct rx3
        have ea : a0 = a1 := V.ref.inj (e0.symm.trans e1)
        subst ea
        simp only [pV, Rep] at ry3
        subst ry3
        refine ⟨dGet ks vs k, .inl ⟨_, .inl k, .inl e3, rfl, by rw [d_val]⟩, ?_⟩
        cases z2 : dGet ks l k with
        | none =>
          have dn := Reps.dNone (ks := ks) rr (k := k)
          rw [z2] at dn q4
          cases z3 : dGet ks vs k with
          | none => exact q4.ret S3 rz
          | some w2 =>
            rw [z3] at dn
            cases dn
        | some d =>
          obtain ⟨w2, ew, rw0⟩ := Reps.dGet rr z2
          rw [z2] at q4
          rw [ew]
          exact q4.ret S3 rw0
      | _ => exact q4.elim
    | _ => exact q2.elim
end
end LM

/-! A list of one's own is lent to a call that sees nothing of the changing heap. -/
namespace LM
open PySem L2

mutual
/-- names nothing on the changing heap -/
def noR : DV → Bool
  | .tup l => noRs l
  | .lst l => noRs l
  | .dct _ l => noRs l
  | .obj _ l => noRs l
  | .ref _ => false
  | _ => true
def noRs : List DV → Bool
  | [] => true
  | d :: ds => noR d && noRs ds
end
mutual
theorem Rep.noR {g : Glue} {F : Addr → Prop} {r r2 : List Addr} {H : Hp} : ∀ (d : DV) (v : V), noR d = true → Rep g ⟨F, r⟩ H d v → Rep g ⟨F, r2⟩ H d v
  | .non, v, _, q => by simpa only [Rep] using q
  | .bl b, v, _, q => by simpa only [Rep] using q
  | .int i, v, _, q => by simpa only [Rep] using q
  | .str s, v, _, q => by simpa only [Rep] using q
  | .scr l, v, _, q => by simpa only [Rep] using q
  | .fn f, v, _, q => by simpa only [Rep] using q
  | .ref p, v, n, q => by
    unfold LM.noR at n
    cases n
  | .tup l, v, n, q => by
    simp only [Rep] at q ⊢
    obtain ⟨a, vs, e, s, rs⟩ := q
    exact ⟨a, vs, e, s, Reps.noR l vs (by unfold LM.noR at n; exact n) rs⟩
  | .lst l, v, n, q => by
    simp only [Rep] at q ⊢
    obtain ⟨a, vs, e, f, s, rs⟩ := q
    exact ⟨a, vs, e, f, s, Reps.noR l vs (by unfold LM.noR at n; exact n) rs⟩
  | .dct ks l, v, n, q => by
    simp only [Rep] at q ⊢
    obtain ⟨a, vs, e, f, s, t, rs⟩ := q
    exact ⟨a, vs, e, f, s, t, Reps.noR l vs (by unfold LM.noR at n; exact n) rs⟩
  | .obj k l, v, n, q => by
    simp only [Rep] at q ⊢
    obtain ⟨a, dx, vs, e, f, s, t, rs⟩ := q
    exact ⟨a, dx, vs, e, f, s, t, Reps.noR l vs (by unfold LM.noR at n; exact n) rs⟩
theorem Reps.noR {g : Glue} {F : Addr → Prop} {r r2 : List Addr} {H : Hp} : ∀ (l : List DV) (vs : List V), noRs l = true → Reps g ⟨F, r⟩ H l vs → Reps g ⟨F, r2⟩ H l vs
  | [], vs, _, q => by simpa only [Reps] using q
  | d :: ds, vs, n, q => by
    simp only [Reps] at q ⊢
    obtain ⟨v, t, e, r1, r2⟩ := q
    unfold noRs at n
    obtain ⟨n1, n2⟩ := Bool.and_eq_true_iff.mp n
    exact ⟨v, t, e, Rep.noR d v n1 r1, Reps.noR ds t n2 r2⟩
end
section
variable {g : Glue} {W W' : Wd} {h : HP} {H H' : Hp} {A : List Addr}
/-- behind such a call -/
def Wd.out (W W' : Wd) (A : List Addr) : Wd := ⟨fun b => W'.F b ∧ (W.F b ∨ b ∉ A), W.r⟩
theorem mem_ins (S : HSim g W h H) {a : Addr} (m : a ∈ W.r) : (∃ vs, H a = some (.lst vs)) ∨ ∃ C dx fs, H a = some (.ins C dx fs) := by
  obtain ⟨p, o, _, _, r, _⟩ := S.mem m
  exact r.mut
theorem not_xd (S : HSim g W h H) {a : Addr} (m : a ∈ W.r) (fs : List (Str × V)) (e : H a = some (.xd fs)) : False := by
  rcases mem_ins S m with ⟨vs, q⟩ | ⟨C, dx, f, q⟩
  · rw [q] at e
    cases e
  · rw [q] at e
    cases e
theorem HSim.into (S : HSim g W h H) (hA : ∀ a ∈ A, (∃ o, H a = some o) ∧ a ∉ W.r) : HSim g ⟨(W.frzs A).F, []⟩ [] H := by
  have q := S.frzs hA
  exact ⟨rfl, List.nodup_nil, fun p o a e1 e2 => by simp at e1, q.fs⟩
theorem Step.out (S : HSim g W h H) (t : Step ⟨(W.frzs A).F, []⟩ H W' H') : Step W H (W.out W' A) H' :=
  ⟨fun a f => ⟨t.f a (.inl f), .inl f⟩, fun _ _ e => e, fun a o e _ => t.k a o e List.not_mem_nil, t.th, fun a f => by
    rcases t.nf a f.1 with q | q | q
    · rcases q with q | q
      · exact .inl q
      · rcases f.2 with f2 | f2
        · exact .inl f2
        · exact (f2 q).elim
    · exact .inr (.inl q)
    · obtain ⟨_, fs, e⟩ := q
      exact .inr (.inr ⟨fun m => not_xd S m fs e, fs, e⟩), fun a m => .inl m⟩
theorem HSim.out (S : HSim g W h H) (hA : ∀ a ∈ A, (∃ o, H a = some o) ∧ a ∉ W.r) (t : Step ⟨(W.frzs A).F, []⟩ H W' H') (S' : HSim g W' [] H') : HSim g (W.out W' A) h H' := by
  have p : Per W H (W.out W' A) H' := Step.per S (Step.out S t)
  refine ⟨S.len, S.nd, fun q o a e1 e2 => ?_, fun a f => S'.fs a f.1⟩
  obtain ⟨r, n⟩ := S.o q o a e1 e2
  have m : a ∈ W.r := List.mem_of_getElem? e2
  refine ⟨?_, fun f => ?_⟩
  · cases o with
    | lst l =>
      obtain ⟨vs, e3, r3⟩ := r
      exact ⟨vs, t.k a _ e3 List.not_mem_nil, r3.per p _ _⟩
    | obj k l =>
      obtain ⟨dx, vs, e3, e4, r3⟩ := r
      exact ⟨dx, vs, t.k a _ e3 List.not_mem_nil, e4, r3.per p _ _⟩
  · rcases t.nf a f.1 with z | z | z
    · rcases z with z | z
      · exact n z
      · exact (hA a z).2 m
    · rcases mem_ins S m with ⟨vs, e⟩ | ⟨C, dx, fs, e⟩
      · rw [e] at z
        cases z
      · rw [e] at z
        cases z
    · obtain ⟨_, fs, e⟩ := z
      exact not_xd S m fs e
end
def cloR (l : List DV) (r : Res DV) (h : HP) : Res DV := if noRs l then (match r with
  | .ok d [] => if flatR d && noR d then .ok d h else .bad
  | .exc x [] => if flatRs x.l && noRs x.l then .exc x h else .bad
  | _ => .bad) else .bad
/-- f(e, ..), some of these lent; it sees nothing of the changing heap -/
def eCallC (m : List DV → M DV) (ms : En → M (List DV)) : En → M DV := fun e => ms e >>= fun l h => cloR l (m l []) h
section
variable {T : Tp} {X : Cx} {c : Cn} {N : List Str} {k n : Nat} {sc : Scope} {pos p1 : Pos} {ex : Expr} {es : List Expr} {ms : En → M (List DV)}
theorem callC_use {m : List DV → M DV} {s : L2.St} {H : Hp} {Q : VK} (q : RE c (eCallC m ms) s H Q) : RX c (rVsB c n) ms s H fun vs H1 => spF c.g n m (vs ++ []) H1 Q (WE c.x s) := RX.bind (k := fun _ l h => cloR l (m l []) h) q fun W e W1 H1 ds vs h1 t S r q2 => by
  rw [List.append_nil]
  obtain ⟨A, hA, rA⟩ := r.1.frz
  have q2 : Post c (rV c H1) e s W1 H1 (cloR ds (m ds []) h1) Q := q2
  unfold cloR at q2
  by_cases nn : noRs ds = true
  rotate_left
  · rw [if_neg nn] at q2
    exact q2.elim
  rw [if_pos nn] at q2
  have ra := Reps.noR (r2 := []) ds vs nn (rA A fun _ h => h)
  refine ⟨⟨(W1.frzs A).F, []⟩, [], ds, S.hs.into hA, ra, r.2, ?_⟩
  generalize m ds [] = z at q2 ⊢
  cases z with
  | ok d h' =>
    intro W' H' v t' hs' r'
    cases h' with
    | cons o h' => exact q2.elim
    | nil =>
      by_cases fl : (flatR d && noR d) = true
      · have q3 : Post c (rV c H1) e s W1 H1 (if (flatR d && noR d) = true then .ok d h1 else .bad) Q := q2
        rw [if_pos fl] at q3
        obtain ⟨f1, f2⟩ := Bool.and_eq_true_iff.mp fl
        have st := Step.out S.hs t'
        have r2 : Rep c.g ⟨W'.F, W1.r⟩ H' d v := Rep.noR (F := W'.F) (r := W'.r) d v f2 r'
        exact q3 _ H' v st (S.step st (S.hs.out hA t' hs')) (Rep.flat (W := ⟨W'.F, W1.r⟩) (W' := W1.out W' A) rfl d v f1 r2)
      · have q3 : Post c (rV c H1) e s W1 H1 (if (flatR d && noR d) = true then .ok d h1 else .bad) Q := q2
        rw [if_neg fl] at q3
        exact q3.elim
  | exc x h' =>
    intro W' H' cls dd t' hs' r'
    cases h' with
    | cons o h' => exact q2.elim
    | nil =>
      by_cases fl : (flatRs x.l && noRs x.l) = true
      · have q3 : Post c (rV c H1) e s W1 H1 (if (flatRs x.l && noRs x.l) = true then .exc x h1 else .bad) Q := q2
        rw [if_pos fl] at q3
        obtain ⟨f1, f2⟩ := Bool.and_eq_true_iff.mp fl
        have st := Step.out S.hs t'
        refine q3 _ H' cls dd st (S.step st (S.hs.out hA t' hs')) ?_
        obtain ⟨ec, r2⟩ := r'
        refine ⟨ec, ?_⟩
        rcases r2 with r2 | ⟨d, us, e1, e2, e3, e4, e5⟩
        · exact .inl r2
        · have r3 : Reps c.g ⟨W'.F, W1.r⟩ H' x.l us := Reps.noR (F := W'.F) (r := W'.r) _ _ f2 e4
          exact .inr ⟨d, us, e1, e2, e3, Reps.flat (W := ⟨W'.F, W1.r⟩) (W' := W1.out W' A) rfl _ _ f1 r3, fun m => not_xd (S.hs.out hA t' hs') m _ e2⟩
      · have q3 : Post c (rV c H1) e s W1 H1 (if (flatRs x.l && noRs x.l) = true then .exc x h1 else .bad) Q := q2
        rw [if_neg fl] at q3
        exact q3.elim
  | bad => exact q2
theorem c_callC {x : Str} {id j : Nat} {m : List DV → M DV} (hX : XEx T X c N k sc) (F : Fo T x id j n m) (hj : j ≤ k) (hg : Gl X x) (ha : PA X (ex :: es) (RAB c n ms))
    (hdb : (x == ("__debug__" : Str)) = false := by decide) (he : starEach (ex :: es) X.env = (false, eval ex X.env) :: starEach es X.env := by rfl) (hpl : (backTo pos (starEach es X.env)).any (·.1) = false := by rfl) :
    PE X (.Call (.Name x p1) (ex :: es) [] pos) (RE c (eCallC m ms)) := by
  obtain ⟨gl, kp, fd, ps, b, f⟩ := F.at hX
  exact pe_imp (pe_callSD f (hX.room.mono hj) hg gl kp b .nil (fun s => L2N.passAt hX.tk s) ha hdb he hpl) fun s H Q q => callC_use q
end
@[simp] theorem eCallC_app (m : List DV → M DV) (ms : En → M (List DV)) (e : En) (h : HP) : eCallC m ms e h = bR (ms e h) fun l h => cloR l (m l []) h := rfl
theorem cloR_ok {l : List DV} {d : DV} {h : HP} (q1 : noRs l = true) (q2 : (flatR d && noR d) = true) : cloR l (.ok d []) h = .ok d h := by
  unfold cloR
  rw [if_pos q1]
  simp only []
  rw [if_pos q2]
theorem cloR_exc {l : List DV} {x : Ex} {h : HP} (q1 : noRs l = true) (q2 : (flatRs x.l && noRs x.l) = true) : cloR l (.exc x []) h = .exc x h := by
  unfold cloR
  rw [if_pos q1]
  simp only []
  rw [if_pos q2]
end LM

/-! None in a list whose items may be tuples. -/
namespace LM
open PySem L2

def noneU : Value → Bool
  | .none => true
  | _ => false
def noneV : V → Bool
  | .non => true
  | _ => false
def okNV (K : PySem.W.Frag) (H : Hp) (y : V) : Prop := flatV y = true ∨ ∃ a us, y = .ref a ∧ SqT K H a us
def rNIn (K : PySem.W.Frag) : R2 := fun x y H Q => x = .non ∧ ∃ p xs, y = .ref p ∧ SqL K H p xs ∧ (∀ v ∈ xs, okNV K H v) ∧ Q (.bl (xs.any noneV)) H
theorem vals_mem : ∀ {xs : List V} {us : List Value}, Vals xs us → ∀ u ∈ us, ∃ y ∈ xs, RelV y u
  | _, _, .nil, _, h => by cases h
  | y :: xs, u :: us, .cons r t, u', h => by
    rcases List.mem_cons.mp h with e | e
    · rw [e]
      exact ⟨y, List.mem_cons_self, r⟩
    · obtain ⟨z, hz, rz⟩ := vals_mem t u' e
      exact ⟨z, List.mem_cons_of_mem _ hz, rz⟩
theorem rel_none {y : V} {u : Value} (r : RelV y u) (f : flatV y = true ∨ ∃ a, y = .ref a) : noneU u = noneV y := by
  cases y with
  | non => cases r; rfl
  | bl b => cases r; rfl
  | int i => obtain ⟨t, rfl⟩ := r; rfl
  | str z => obtain ⟨t, rfl⟩ := r; rfl
  | ref a => cases r; rfl
  | _ => rcases f with f | ⟨a, f⟩ <;> cases f
theorem any_none {xs : List V} {us : List Value} (r : Vals xs us) (f : ∀ y ∈ xs, flatV y = true ∨ ∃ a, y = .ref a) : us.any noneU = xs.any noneV := by
  induction r with
  | nil => rfl
  | cons r t ih => rw [List.any_cons, List.any_cons, rel_none r (f _ List.mem_cons_self), ih fun y hy => f y (List.mem_cons_of_mem _ hy)]
section
variable {X : Cx}
theorem op_nin (hu : X.A.units + 64 < cLine) : OpR X (compareOp .In) (rNIn X.K) := by
  intro pins s σ H x y v u Q I rx ry h
  obtain ⟨ex, p, xs, rfl, hq, ok, q⟩ := h
  subst ex
  cases rx
  cases ry
  obtain ⟨its, r, pl, hz⟩ := I.list hq
  have fl : ∀ y ∈ xs, flatV y = true ∨ ∃ a, y = .ref a := fun y hy => by
    rcases ok y hy with f | ⟨a, us, e, _⟩
    · exact .inl f
    · exact .inr ⟨a, e⟩
  refine SeqAt.in_listAt noneU pl.isList (fun w hw => ?_) ⟨.bl _, H, I, rfl, ?_⟩
  · obtain ⟨y, hy, ry⟩ := vals_mem r w (by simpa using hw)
    rw [rel_none ry (fl y hy)]
    rcases ok y hy with f | ⟨a, us, e, sq⟩
    · have q := eqAt_V (A := X.A.in1) (s := s) ry (show RelV .non .none from rfl) f rfl
      have e : eqV y .non = noneV y := by cases y <;> rfl
      rw [e] at q
      exact q
    · subst e
      cases ry
      obtain ⟨its2, r2, pl2, hz2⟩ := I.tuple sq
      exact SeqAt.EqAt.tuple_none pl2 (by show X.A.units + 1 < cLine; omega)
  · rw [show its.toArray.any noneU = its.any noneU by simp, any_none r fl]
    exact q
end
def okND (d : DV) : Bool := flatD d || isTup d
def vNin (x y : DV) : M DV := fun h => match x with
  | .non => (match asL h y with
    | some l => if l.all okND then .ok (.bl (l.any isNon)) h else .bad
    | none => .bad)
  | _ => .bad
section
variable {X : Cx} {c : Cn} {pos : Pos} {a b : Expr} {ma mb : En → M DV}
theorem prim_nin {K : PySem.W.Frag} (hk : c.g.K = K) : Prim2 c (pV c) (pB c) (rV c) vNin (rNIn K) := by
  subst hk
  refine ⟨fun {W e h s H Hs x y v w Q} S rx ry nw q => ?_⟩
  unfold vNin at q
  cases x with
  | non =>
    simp only [] at q
    cases z : asL h y with
    | none =>
      rw [z] at q
      exact q.elim
    | some l =>
      rw [z] at q
      have q1 : Post c (rV c Hs) e s W H (if l.all okND then .ok (.bl (l.any isNon)) h else .bad) Q := q
      split at q1
      · rename_i f
        obtain ⟨p, vs, e1, sq, rs⟩ := asL_ok S ry z
        simp only [pV, Rep] at rx
        have both : ∀ {l : List DV} {vs : List V}, Reps c.g W H l vs → l.all okND = true → (∀ v ∈ vs, okNV c.g.K H v) ∧ vs.any noneV = l.any isNon := by
          intro l
          induction l with
          | nil =>
            intro vs r _
            simp only [Reps] at r
            subst r
            exact ⟨fun v hv => by (cases hv), rfl⟩
          | cons d ds ih =>
            intro vs r f
            simp only [Reps] at r
            obtain ⟨v, r2, e2, h1, h2⟩ := r
            rw [List.all_cons, Bool.and_eq_true] at f
            obtain ⟨i1, i2⟩ := ih h2 f.2
            have one : okNV c.g.K H v ∧ noneV v = isNon d := by
              have f1 := f.1
              unfold okND at f1
              cases d <;> simp only [Rep] at h1 <;> first
                | (subst h1; exact ⟨.inl rfl, rfl⟩)
                | (obtain ⟨a, us, e3, sq3, _⟩ := h1; subst e3; exact ⟨.inr ⟨a, us, rfl, sq3⟩, rfl⟩)
                | (cases f1)
            subst e2
            refine ⟨fun w hw => ?_, by rw [List.any_cons, List.any_cons, one.2, i2]⟩
            rcases List.mem_cons.mp hw with z | z
            · rw [z]; exact one.1
            · exact i1 w z
        obtain ⟨b1, b2⟩ := both rs f
        refine ⟨rx, p, vs, e1, sq, b1, ?_⟩
        rw [b2]
        exact q1.ret S (by simp only [rV, Rep])
      · exact q1.elim
  | _ => exact q.elim
theorem c_nin (hk : X.K = c.g.K) (hu : X.A.units + 64 < cLine) (ha : PE X a (RE c ma)) (hb : PE X b (RB c mb)) (hm : behindInMarks .In b = false := by rfl) : PE X (.Compare a [.In] [b] pos) (RE c (e2 vNin ma mb)) := c_cmp (op_nin hu) stays_V (prim_nin hk.symm) ha hb hm
theorem t_nin (hk : X.K = c.g.K) (hu : X.A.units + 64 < cLine) (ha : PE X a (RE c ma)) (hb : PE X b (RB c mb)) (hm : behindInMarks .In b = false := by rfl) : PT X (.Compare a [.In] [b] pos) (RT c (tb (e2 vNin ma mb))) := t_cmp (op_nin hu) stays_V (prim_nin hk.symm) ha hb hm
end
end LM

/-! Texts: str, int, split, join, slices, signs. -/
namespace LM
open PySem L2

/-! ### a list of texts -/
def strsD : List DV → Option (List Str)
  | [] => some []
  | .str x :: r => (match strsD r with
    | some ys => some (x :: ys)
    | none => none)
  | _ => none
theorem strsD_ok {g : Glue} {W : Wd} {H : Hp} : ∀ {l : List DV} {vs : List V} {ys : List Str}, strsD l = some ys → Reps g W H l vs → vs = ys.map V.str
  | [], vs, ys, e, r => by
    cases e
    simp only [Reps] at r
    rw [r]
    rfl
  | d :: ds, vs, ys, e, r => by
    simp only [Reps] at r
    obtain ⟨v, r2, e2, h1, h2⟩ := r
    subst e2
    cases d with
    | str x =>
      have e : (match strsD ds with
        | some ys => some (x :: ys)
        | none => none) = some ys := e
      cases z : strsD ds with
      | none =>
        rw [z] at e
        cases e
      | some zs =>
        rw [z] at e
        cases e
        simp only [Rep] at h1
        rw [h1, strsD_ok z h2]
        rfl
    | _ => cases e
@[simp] theorem strsD_map (l : List Str) : strsD (l.map DV.str) = some l := by
  induction l with
  | nil => rfl
  | cons x r ih => simp [strsD, ih]
theorem reps_texts {g : Glue} {W : Wd} {H : Hp} : ∀ l : List Str, Reps g W H (l.map DV.str) (l.map V.str)
  | [] => .nil
  | x :: r => .cons (by simp only [Rep]) (reps_texts r)

/-! ### text.split(sep), sep.join(texts) -/
/-- an operand that is a text, then another one -/
def onStr {A : Type} (x : DV) (f : Str → HP → Res A) (h : HP) : Res A := match x with
  | .str z => f z h
  | _ => .bad
def iT2 {A : Type} (a b : En → M DV) (f : Str → DV → M A) : En → M A := fun e => a e >>= fun x h => onStr x (fun z h => (b e >>= fun y => f z y) h) h
def lSplit (a : Str) (y : DV) : M (List DV) := match y with
  | .str b => if (b.length == 0) = false ∧ a.length + 2 ≤ LN then pure ((Txt.split a b).map DV.str) else M.bad
  | _ => M.bad
def joinOk (a : Str) (ys : List Str) : Bool := Nat.ble ((ys.map (·.length)).sum + ys.length * a.length) 16777216
def vJoin (a : Str) (y : DV) : M DV := fun h => match asS h y with
  | some l => (match strsD l with
    | some ys => if joinOk a ys then .ok (.str (Str.join a ys)) h else .bad
    | none => .bad)
  | none => .bad
section
variable {X : Cx} {c : Cn} {pos apos p1 : Pos} {o a ex tg : Expr} {mo ma me : En → M DV}
theorem txt_use {A B : Type} {R : Rl A B} {f : Str → DV → M A} {Rb : Wd → Hp → DV → V → Prop} {s : L2.St} {H : Hp} {Q : B → Hp → Prop} {r : V → V → Hp → (B → Hp → Prop) → Prop} (q : RX c R (iT2 mo me f) s H Q)
    (go : ∀ {W : Wd} {e : En} {h : HP} {H2 : Hp} {z : Str} {y : DV} {w : V}, Sim c W e h s H2 → Rb W H2 y w → (∀ a, H2 a = none → H a = none) → Post c (R H) e s W H2 (f z y h) Q → r (.str z) w H2 Q) :
    RE c mo s H fun x H1 => (∃ a, x = .str a) ∧ RX c (fun _ => Rb) me s H1 fun y H2 => r x y H2 Q := by
  refine RX.bind (k := fun e x h => onStr x (fun z h => (me e >>= fun y => f z y) h) h) q fun W e W1 H1 x v h1 t S rx q2 => ?_
  cases x with
  | str z =>
    have q2 : Post c (R H) e s W1 H1 ((me e >>= fun y => f z y) h1) Q := q2
    simp only [rV, Rep] at rx
    subst rx
    exact ⟨⟨z, rfl⟩, W1, e, h1, S, q2.bind fun W2 H2 y w h2 t2 S2 ry q3 => go S2 ry (fun a n => t.th a (t2.th a n)) q3⟩
  | _ => exact q2.elim
theorem c_split (ho : PE X o (RE c mo)) (he : PE X ex (RE c me)) (hs : starEach [ex] X.env = [(false, eval ex X.env)] := by rfl) (hbase : attributeBase o "split" X.env (eval o X.env) = eval o X.env := by rfl) (hline : (apos.endLine == pos.line) = true := by rfl) :
    PE X (.Call (.Attribute o "split" apos) [ex] [] pos) (RO c (iT2 mo me lSplit)) :=
  pe_imp (pe_split ho he hs hbase hline) fun s H Q q => by
    refine txt_use (Rb := pV c) (r := fun x y H Q => ∃ a b, x = .str a ∧ [y] = [.str b] ∧ (b.length == 0) = false ∧ a.length + 2 ≤ sizeLine ∧ rNewStrs (Txt.split a b) H Q) q fun {W e h H2 z y w} S ry n q3 => ?_
    unfold lSplit at q3
    cases y with
    | str b =>
      simp only [pV, Rep] at ry
      subst ry
      simp only [] at q3
      split at q3
      · rename_i hz
        exact ⟨z, b, rfl, rfl, hz.1, by rw [line_LN]; exact hz.2, fun p hp => post_own q3 S (reps_texts _) hp (n p hp)⟩
      · exact q3.elim
    | _ => exact q3.elim
theorem c_join (hk : X.K = c.g.K) (ho : PE X o (RE c mo)) (he : PE X ex (RB c me)) (hs : starEach [ex] X.env = [(false, eval ex X.env)] := by rfl) (hbase : attributeBase o "join" X.env (eval o X.env) = eval o X.env := by rfl) (hline : (apos.endLine == pos.line) = true := by rfl) :
    PE X (.Call (.Attribute o "join" apos) [ex] [] pos) (RE c (iT2 mo me vJoin)) :=
  pe_imp (pe_join ho he hs hbase hline) fun s H Q q => by
    refine txt_use (Rb := pB c) (r := fun x y H Q => ∃ a p, ∃ ys : List Str, x = .str a ∧ [y] = [.ref p] ∧ (SqL X.K H p (ys.map V.str) ∨ SqT X.K H p (ys.map V.str)) ∧ (ys.map (·.length)).sum + ys.length * a.length ≤ 16777216 ∧ Q (.str (Txt.join a ys)) H) q fun {W e h H2 z y w} S ry n q3 => ?_
    unfold vJoin at q3
    cases z1 : asS h y with
    | none =>
      rw [z1] at q3
      exact q3.elim
    | some l =>
      rw [z1] at q3
      have q3 : Post c (rV c H) e s W H2 (match strsD l with
        | some ys => if joinOk z ys then .ok (.str (Str.join z ys)) h else .bad
        | none => .bad) Q := q3
      obtain ⟨p, vs, e1, sq, rs⟩ := asS_ok S ry z1
      subst e1
      cases z2 : strsD l with
      | none =>
        rw [z2] at q3
        exact q3.elim
      | some ys =>
        rw [z2] at q3
        have q3 : Post c (rV c H) e s W H2 (if joinOk z ys then .ok (.str (Str.join z ys)) h else .bad) Q := q3
        split at q3
        · rename_i hz
          have ev := strsD_ok z2 rs
          subst ev
          refine ⟨z, p, ys, rfl, rfl, by rw [hk]; exact sq, Nat.le_of_ble_eq_true hz, ?_⟩
          rw [TL.join_eq]
          exact q3.ret S (by simp only [rV, Rep])
        · exact q3.elim

/-! ### str(x), int(text) -/
def vStr (x : DV) : M DV := match x with
  | .int i => if i.natAbs.log2 < 1920 then pure (.str (Str.ofString (toString i))) else M.bad
  | .str z => pure (.str z)
  | _ => M.bad
theorem call_str2 : CallR X (.type "str") (fun xs H Q => (∃ i : Int, xs = [.int i] ∧ i.natAbs.log2 < 1920 ∧ Q (.str (Str.ofString (toString i))) H) ∨ ∃ z, xs = [.str z] ∧ Q (.str z) H) := by
  intro pins s σ H xs us Q I rs q
  rcases q with q | q
  · exact call_str_int pins s σ H xs us Q I rs q
  · exact SkE.call_str_str pins s σ H xs us Q I rs q
theorem prim_str : Prim1 c (pV c) (rV c) vStr (fun xs H Q => (∃ i : Int, xs = [.int i] ∧ i.natAbs.log2 < 1920 ∧ Q (.str (Str.ofString (toString i))) H) ∨ ∃ z, xs = [.str z] ∧ Q (.str z) H) := by
  refine ⟨fun {W e h s H Hs x v Q} S rx nw q => ?_⟩
  unfold vStr at q
  split at q
  · simp only [pV, Rep] at rx
    subst rx
    split at q
    · rename_i hz
      exact .inl ⟨_, rfl, hz, q.ret S (by simp only [rV, Rep])⟩
    · exact q.elim
  · simp only [pV, Rep] at rx
    subst rx
    exact .inr ⟨_, rfl, q.ret S (by simp only [rV, Rep])⟩
  · exact q.elim
theorem c_strOf (hg : Gl X "str") (hm : X.mg "str" = none) (ha : PE X a (RE c ma)) (he : starEach (a :: []) X.env = (false, eval a X.env) :: starEach [] X.env := by rfl) : PE X (.Call (.Name "str" p1) [a] [] pos) (RE c (e1 vStr ma)) :=
  c_callTy call_str2 prim_str hg hm (by decide +kernel) ha (by decide) (by decide) he
def vIntS (x : DV) : M DV := fun h => match x with
  | .str z => (match PySem.intText? z with
    | some n => if z.length ≤ 640 then .ok (.int n) h else .bad
    | none => .bad)
  | _ => .bad
theorem prim_intS : Prim1 c (pV c) (rV c) vIntS (fun xs H Q => ∃ a n, xs = [.str a] ∧ PySem.intText? a = some n ∧ a.length ≤ 640 ∧ Q (.int n) H) := by
  refine ⟨fun {W e h s H Hs x v Q} S rx nw q => ?_⟩
  unfold vIntS at q
  cases x with
  | str z =>
    simp only [pV, Rep] at rx
    subst rx
    simp only [] at q
    cases z2 : PySem.intText? z with
    | none =>
      rw [z2] at q
      exact q.elim
    | some n =>
      rw [z2] at q
      have q : Post c (rV c Hs) e s W H (if z.length ≤ 640 then .ok (.int n) h else .bad) Q := q
      split at q
      · rename_i hz
        exact ⟨z, n, rfl, z2, hz, q.ret S (by simp only [rV, Rep])⟩
      · exact q.elim
  | _ => exact q.elim
theorem c_intS (hg : Gl X "int") (hm : X.mg "int" = none) (ha : PE X a (RE c ma)) (he : starEach (a :: []) X.env = (false, eval a X.env) :: starEach [] X.env := by rfl) : PE X (.Call (.Name "int" p1) [a] [] pos) (RE c (e1 vIntS ma)) :=
  c_callTy call_int_str prim_intS hg hm (by decide +kernel) ha (by decide) (by decide) he

/-! ### text[lo:hi] -/
def vCutS (x : DV) (lo hi : Option Int) : M DV := match x with
  | .str z => if z.length ≤ LN then pure (.str (cutS z lo hi)) else M.bad
  | _ => M.bad
def eCutS (m : En → M DV) (lo hi : En → M (Option Int)) : En → M DV := fun e => m e >>= fun x => lo e >>= fun l => hi e >>= fun u => vCutS x l u
theorem c_cutS {lo hi : Option Expr} {ml mh : En → M (Option Int)} {p2} (he : PE X ex (RE c me)) (hl : PO X lo (RP c ml)) (hu : PO X hi (RP c mh)) :
    PE X (.Subscript ex (.Slice lo hi none p2) pos) (RE c (eCutS me ml mh)) := pe_imp (pe_slice sl_str he hl hu) fun s H Q q => by
  refine RX.bind q fun W e W1 H1 x v h1 t S rx q2 => ⟨W1, e, h1, S, q2.bind fun W2 H2 lo l2 h2 t2 S2 rl q3 => ⟨W2, e, h2, S2, q3.bind fun W3 H3 hi u3 h3 t3 S3 ru q4 => ?_⟩⟩
  have rx3 := stays_V.go S2.hs t3 (stays_V.go S.hs t2 rx)
  have e1 : l2 = lo := rl
  have e2 : u3 = hi := ru
  subst e1 e2
  unfold vCutS at q4
  cases x with
  | str z =>
    simp only [rV, Rep] at rx3
    subst rx3
    simp only [] at q4
    split at q4
    · rename_i hz
      exact ⟨z, rfl, by rw [line_LN]; exact hz, q4.ret S3 (by simp only [rV, Rep])⟩
    · exact q4.elim
  | _ => exact q4.elim

/-! ### the signs of a text -/
def signs (z : Str) : List DV := z.cps.toList.map fun c => DV.str ⟨#[c]⟩
def itT (x : DV) : M (List DV) := match x with
  | .str z => pure (signs z)
  | _ => M.bad
theorem wk_text {W : Wd} {H : Hp} {z : Str} : Wk c W H (Its z) (signs z) where
  go := fun W2 H2 pr i d e => by
    unfold signs at e
    rw [List.getElem?_map, Array.getElem?_toList] at e
    cases q : z.cps[i]? with
    | none =>
      rw [q] at e
      cases e
    | some k =>
      rw [q] at e
      have e : DV.str ⟨#[k]⟩ = d := Option.some.inj e
      subst e
      refine ⟨(Array.getElem?_eq_some_iff.mp q).1, fun x H3 y => ?_⟩
      obtain ⟨h1, k2, h2, h3⟩ := y
      have e2 : k = k2 := some_inj2 q h2
      subst e2
      refine .inl ⟨h1, ?_⟩
      rw [h3]
      simp only [Rep]
  st := fun W2 H2 pr => by
    show z.cps.size ≤ (signs z).length
    unfold signs
    rw [List.length_map, Array.length_toList]
    exact Nat.le_refl _
theorem i_text (ha : PE X a (RE c ma)) : PI X tg a (RI c (iB ma itT)) := pi_imp (pi_str ha) fun s H R q => by
  unfold iB at q
  refine RX.bind q fun W e W1 H1 x v h1 t S rx q2 => ?_
  unfold itT at q2
  cases x with
  | str z =>
    simp only [rV, Rep] at rx
    exact ⟨z, rx, q2.ret S wk_text⟩
  | _ => exact q2.elim

/-! ### a sign in a text -/
def oneS (w : Str) : Option Nat := match w.cps.toList with
  | [k] => some k
  | _ => none
theorem oneS_ok {w : Str} {k : Nat} (h : oneS w = some k) : w = ⟨#[k]⟩ := by
  unfold oneS at h
  split at h
  · rename_i k2 e
    cases h
    apply TL.ext_tl
    exact e
  · cases h
def vInS (neg : Bool) (x y : DV) : M DV := fun h => match x, y with
  | .str w, .str z => (match oneS w with
    | some k => .ok (.bl (if neg then !decide (k ∈ z.cps.toList) else decide (k ∈ z.cps.toList))) h
    | none => .bad)
  | _, _ => .bad
def rInS (neg : Bool) : R2 := fun x y H Q => ∃ (c : Nat) (z : Str), x = .str ⟨#[c]⟩ ∧ y = .str z ∧ Q (.bl (if neg then !decide (c ∈ z.cps.toList) else decide (c ∈ z.cps.toList))) H
theorem prim_inS (neg : Bool) : Prim2 c (pV c) (pV c) (rV c) (vInS neg) (rInS neg) := by
  refine ⟨fun {W e h s H Hs x y v w Q} S rx ry nw q => ?_⟩
  unfold vInS at q
  cases x with
  | str u =>
    cases y with
    | str z =>
      simp only [pV, Rep] at rx ry
      simp only [] at q
      cases z2 : oneS u with
      | none =>
        rw [z2] at q
        exact q.elim
      | some k =>
        rw [z2] at q
        have eu := oneS_ok z2
        subst eu rx ry
        exact ⟨k, z, rfl, rfl, q.ret S (by simp only [rV, Rep])⟩
    | _ => exact q.elim
  | _ => exact q.elim
theorem op_inS : OpR X (compareOp .In) (rInS false) := op_in_sign
theorem op_notinS : OpR X (compareOp .NotIn) (rInS true) := op_notIn_sign
variable {b : Expr} {mb : En → M DV}
theorem c_inS (ha : PE X a (RE c ma)) (hb : PE X b (RE c mb)) (hm : behindInMarks .In b = false := by rfl) : PE X (.Compare a [.In] [b] pos) (RE c (e2 (vInS false) ma mb)) := c_cmp op_inS stays_V (prim_inS false) ha hb hm
theorem c_notinS (ha : PE X a (RE c ma)) (hb : PE X b (RE c mb)) (hm : behindInMarks .NotIn b = false := by rfl) : PE X (.Compare a [.NotIn] [b] pos) (RE c (e2 (vInS true) ma mb)) := c_cmp op_notinS stays_V (prim_inS true) ha hb hm
theorem t_inS (ha : PE X a (RE c ma)) (hb : PE X b (RE c mb)) (hm : behindInMarks .In b = false := by rfl) : PT X (.Compare a [.In] [b] pos) (RT c (tb (e2 (vInS false) ma mb))) := t_cmp op_inS stays_V (prim_inS false) ha hb hm
theorem t_notinS (ha : PE X a (RE c ma)) (hb : PE X b (RE c mb)) (hm : behindInMarks .NotIn b = false := by rfl) : PT X (.Compare a [.NotIn] [b] pos) (RT c (tb (e2 (vInS true) ma mb))) := t_cmp op_notinS stays_V (prim_inS true) ha hb hm

/-! ### text * number -/
def vMulS (x y : DV) : M DV := match x, y with
  | .str z, .int n => if Nat.ble 1 z.length && (Nat.ble z.length 1000 && (decide (2 ≤ n) && decide (n ≤ 1000))) then pure (.str ⟨(List.replicate n.toNat z.cps).foldl (· ++ ·) #[]⟩) else M.bad
  | _, _ => M.bad
def rMulS : R2 := fun x y H Q => ∃ (z : Str) (n : Int), x = .str z ∧ y = .int n ∧ 1 ≤ z.length ∧ z.length ≤ 1000 ∧ 2 ≤ n ∧ n ≤ 1000 ∧ Q (.str ⟨(List.replicate n.toNat z.cps).foldl (· ++ ·) #[]⟩) H
theorem op_mulS : OpR X (binaryOp .Mult) rMulS := by
  intro pins s σ H x y v u Q I rx ry h
  obtain ⟨z, n, rfl, rfl, h1, h2, h3, h4, q⟩ := h
  obtain ⟨t, rfl⟩ := rx
  obtain ⟨t', rfl⟩ := ry
  have hz : (PySem.Builtin.Str.tooLong (z.length * n.toNat)) = false := by
    have : z.length * n.toNat ≤ 1000 * 1000 := Nat.mul_le_mul h2 (by omega)
    unfold PySem.Builtin.Str.tooLong
    simp only [decide_eq_false_iff_not]
    have := sizeLine_eq
    omega
  refine PySem.P.mul_str (by
    have a1 : ¬ n < -(2 ^ 63 : Int) := by omega
    have a2 : ¬ n ≥ 2 ^ 63 := by omega
    rw [decide_eq_false a1, decide_eq_false a2]; rfl) (fun _ _ => ?_) (fun _ _ => hz) ?_
  · have h5 : (1000 : Int) ≤ (2 ^ 63 - 1) / n := by
      rw [Int.le_ediv_iff_mul_le (by omega)]
      omega
    omega
  · rw [if_neg (by omega : ¬ n < 1)]
    have e1 : (n == 1 || z.length == 0) = false := by
      simp only [Bool.or_eq_false_iff, beq_eq_false_iff_ne]
      exact ⟨by omega, by omega⟩
    rw [e1]
    refine ⟨?_, .str _, H, I.tok _, ⟨_, rfl⟩, q⟩
    have el : ∀ (k : Nat) (acc : Array Nat), ((List.replicate k z.cps).foldl (· ++ ·) acc).size = acc.size + k * z.cps.size := by
      intro k
      induction k with
      | zero => intro acc; simp
      | succ k ih =>
        intro acc
        rw [List.replicate_succ, List.foldl_cons, ih, Array.size_append, Nat.add_mul]
        omega
    show ((List.replicate n.toNat z.cps).foldl (· ++ ·) #[]).size ≤ sizeLine
    rw [el]
    have e3 : z.cps.size = z.length := rfl
    rw [e3]
    have : n.toNat * z.length ≤ 1000 * 1000 := Nat.mul_le_mul (by omega) h2
    have := sizeLine_eq
    simp only [List.size_toArray, List.length_nil]
    omega
theorem prim_mulS : Prim2 c (pV c) (pV c) (rV c) vMulS rMulS := by
  refine ⟨fun {W e h s H Hs x y v w Q} S rx ry nw q => ?_⟩
  unfold vMulS at q
  split at q
  · simp only [pV, Rep] at rx ry
    split at q
    · rename_i hz
      simp only [Bool.and_eq_true, Nat.ble_eq, decide_eq_true_eq] at hz
      exact ⟨_, _, rx, ry, hz.1, hz.2.1, hz.2.2.1, hz.2.2.2, q.ret S (by simp only [rV, Rep])⟩
    · exact q.elim
  · exact q.elim
theorem c_mulS (ha : PE X a (RE c ma)) (hb : PE X b (RE c mb)) : PE X (.BinOp a .Mult b pos) (RE c (e2 vMulS ma mb)) := c_bin op_mulS stays_V prim_mulS ha hb
end

/-! ### a text of the module; k in a table of the module -/
theorem k_cstr {T : Tp} {X : Cx} {c : Cn} {N : List Str} {k : Nat} {sc : Scope} {x : Str} {pos : Pos} {z : Str} (h : XEx T X c N k sc) (hg : Gl X x) (hm : ∃ t, T.mg x = some (.str z t)) (hd : (x == ("__debug__" : Str)) = false := by decide) : PE X (.Name x pos) (RE c (eC (.str z))) := by
  obtain ⟨t, e⟩ := hm
  exact c_glob hg ⟨_, .str z, by rw [h.pm]; exact e, ⟨t, rfl⟩, fun W H => by simp only [Rep]⟩ hd
structure KeyOk (T : Tp) (x : Str) (ks : List Str) : Prop where
  ex : ∃ d es n, T.mg x = some (.ref d) ∧ KDict T.g.K T.w d es n ∧ ∀ z, ∃ r, PySem.W.nsIn T.g.K d z = some r ∧ r.isSome = ks.contains z
theorem isStr_eq {y z : Str} {t : Tok} : (Value.str y t).isStr z = true ↔ y = z := by
  show (y == z) = true ↔ y = z
  exact beq_iff_eq
theorem key_of {T : Tp} {x : Str} {ks : List Str} {d : Addr} {en : Array DictEntry} {n : Nat} (hm : T.mg x = some (.ref d)) (D : KDict T.g.K T.w d en n) (b : keysB d ks T.g.K = true) : KeyOk T x ks := by
  refine ⟨d, en, n, hm, D, fun z => ?_⟩
  unfold keysB at b
  rw [D.at_] at b
  obtain ⟨b1, b2⟩ := He.ba b
  unfold PySem.W.nsIn
  rw [D.at_]
  simp only []
  cases q : en.toList.find? (·.key.isStr z) with
  | some e =>
    refine ⟨some e.val, rfl, ?_⟩
    have m := List.mem_of_find?_eq_some q
    have s := List.find?_some q
    have b3 := List.all_eq_true.mp b1 e m
    cases ek : e.key with
    | str y t =>
      rw [ek] at b3 s
      have ey : y = z := isStr_eq.mp s
      subst ey
      obtain ⟨k, hk, e2⟩ := List.any_eq_true.mp b3
      have e2 : k = y := of_decide_eq_true e2
      subst e2
      exact (List.contains_iff_mem.mpr hk).symm
    | _ =>
      rw [ek] at b3
      cases b3
  | none =>
    have nr : en.toList.any (·.refKey) = false := by
      rw [List.any_eq_false]
      intro e he
      obtain ⟨x, t, e1, _⟩ := D.lit.all e he
      unfold DictEntry.refKey
      rw [e1]
      simp
    rw [nr]
    refine ⟨none, rfl, ?_⟩
    have : z ∉ ks := fun hz => by
      have b3 := List.all_eq_true.mp b2 z hz
      obtain ⟨e, he, e2⟩ := List.any_eq_true.mp b3
      have := List.find?_eq_none.mp q e he
      exact this e2
    simp [this]
def vInT (ks : List Str) (neg : Bool) (x : DV) : M DV := match x with
  | .str z => pure (.bl (if neg then !ks.contains z else ks.contains z))
  | _ => M.bad
section
variable {T : Tp} {X : Cx} {c : Cn} {N : List Str} {k : Nat} {sc : Scope} {x : Str} {pos p1 : Pos} {a : Expr} {ma : En → M DV} {ks : List Str}
theorem in_use (neg : Bool) {d : Addr} (f : ∀ z, ∃ r : Option Value, PySem.W.nsIn X.K d z = some r ∧ r.isSome = ks.contains z) {s : L2.St} {H : Hp} {Q : VK} (q : RE c (e1 (vInT ks neg) ma) s H Q) :
    tOp (fun x y H Q => ∃ (z : Str) (r : Option Value), x = .str z ∧ y = .ref d ∧ PySem.W.nsIn X.K d z = some r ∧ Q (.bl (if neg then !r.isSome else r.isSome)) H) (RE c ma) (tC (.ref d)) s H Q := by
  refine RX.bind q fun W e W1 H1 x v h1 t S rx q2 => ?_
  unfold vInT at q2
  cases x with
  | str z =>
    simp only [rV, Rep] at rx
    subst rx
    obtain ⟨r, e1, e2⟩ := f z
    refine ⟨z, r, rfl, rfl, e1, ?_⟩
    rw [e2]
    exact q2.ret S (by simp only [rV, Rep])
  | _ => exact q2.elim
theorem k_inT (hX : XEx T X c N k sc) (t : KeyOk T x ks) (hg : Gl X x) (ha : PE X a (RE c ma)) (hm : behindInMarks .In (.Name x p1) = false := by rfl) (hd : (x == ("__debug__" : Str)) = false := by decide) : PE X (.Compare a [.In] [.Name x p1] pos) (RE c (e1 (vInT ks false) ma)) := by
  obtain ⟨d, es, n, h1, D, f⟩ := t.ex
  rw [← hX.pk] at f
  rw [← hX.pk, ← hX.pw] at D
  exact pe_imp (pe_cmpR (op_in_kd D) ha (pe_glob (v := .ref d) hg (by rw [hX.pm]; exact h1) rfl hd) hm) fun s H Q q => in_use false f q
theorem k_notinT (hX : XEx T X c N k sc) (t : KeyOk T x ks) (hg : Gl X x) (ha : PE X a (RE c ma)) (hm : behindInMarks .NotIn (.Name x p1) = false := by rfl) (hd : (x == ("__debug__" : Str)) = false := by decide) : PE X (.Compare a [.NotIn] [.Name x p1] pos) (RE c (e1 (vInT ks true) ma)) := by
  obtain ⟨d, es, n, h1, D, f⟩ := t.ex
  rw [← hX.pk] at f
  rw [← hX.pk, ← hX.pw] at D
  exact pe_imp (pe_cmpR (op_notIn_kd D) ha (pe_glob (v := .ref d) hg (by rw [hX.pm]; exact h1) rfl hd) hm) fun s H Q q => in_use true f q
theorem kt_inT (hX : XEx T X c N k sc) (t : KeyOk T x ks) (hg : Gl X x) (ha : PE X a (RE c ma)) (hm : behindInMarks .In (.Name x p1) = false := by rfl) (hd : (x == ("__debug__" : Str)) = false := by decide) : PT X (.Compare a [.In] [.Name x p1] pos) (RT c (tb (e1 (vInT ks false) ma))) := by
  obtain ⟨d, es, n, h1, D, f⟩ := t.ex
  rw [← hX.pk] at f
  rw [← hX.pk, ← hX.pw] at D
  exact pt_imp (pt_cmpR (op_in_kd D) ha (pe_glob (v := .ref d) hg (by rw [hX.pm]; exact h1) rfl hd) hm) fun s H Q q => tb_use (c := c) (ma := e1 (vInT ks false) ma) (fun _ z => in_use false f z) q
theorem kt_notinT (hX : XEx T X c N k sc) (t : KeyOk T x ks) (hg : Gl X x) (ha : PE X a (RE c ma)) (hm : behindInMarks .NotIn (.Name x p1) = false := by rfl) (hd : (x == ("__debug__" : Str)) = false := by decide) : PT X (.Compare a [.NotIn] [.Name x p1] pos) (RT c (tb (e1 (vInT ks true) ma))) := by
  obtain ⟨d, es, n, h1, D, f⟩ := t.ex
  rw [← hX.pk] at f
  rw [← hX.pk, ← hX.pw] at D
  exact pt_imp (pt_cmpR (op_notIn_kd D) ha (pe_glob (v := .ref d) hg (by rw [hX.pm]; exact h1) rfl hd) hm) fun s H Q q => tb_use (c := c) (ma := e1 (vInT ks true) ma) (fun _ z => in_use true f z) q
end

/-! ### rules for simp -/
@[simp] theorem onStr_str {A : Type} (z : Str) (f : Str → HP → Res A) (h : HP) : onStr (.str z) f h = f z h := rfl
@[simp] theorem iT2_app {A : Type} (a b : En → M DV) (f : Str → DV → M A) (e : En) (h : HP) : iT2 a b f e h = bR (a e h) fun x h => onStr x (fun z h => bR (b e h) fun y h => f z y h) h := rfl
end LM

/-! zip of a text and a list. -/
namespace LM
open PySem L2

abbrev StrAt (h : Heap) (it : Addr) (x : Str) (t : Tok) (i : Nat) : Prop := h.IsStrIter it (strIterType x) x t i
theorem strAt_obj {h : Heap} {it : Addr} {x : Str} {t : Tok} {i : Nat} (st : StrAt h it x t i) : ∃ o vs, h.get? it = some o ∧ o.data = .fields vs := by
  obtain ⟨o, e, _, d⟩ := st
  exact ⟨o, _, e, d⟩
theorem strAt_keep {h h' : Heap} {it : Addr} {x : Str} {t : Tok} {i : Nat} (st : StrAt h it x t i) (k : ∀ o, h.get? it = some o → h'.get? it = some o) : StrAt h' it x t i := by
  obtain ⟨o, e, r⟩ := st
  exact ⟨o, k o e, r⟩
def ItzX (b2 : Bool) (K : PySem.W.Frag) (x : Str) (b : Addr) : It :=
  ⟨fun i H => ∃ (k : Nat) (ys : List V) (y : V), x.cps[i]? = some k ∧ SqB b2 K H b ys ∧ ys[i]? = some y,
    fun i H v H' => ∃ T k y, v = .ref T ∧ H T = none ∧ H' = upd H T (.tup [.str ⟨#[k]⟩, y]) ∧ x.cps[i]? = some k ∧ (∀ ys, SqB b2 K H b ys → ys[i]? = some y),
    fun i H => ∃ ys : List V, SqB b2 K H b ys ∧ i ≤ x.cps.size ∧ i ≤ ys.length ∧ (i = x.cps.size ∨ i = ys.length)⟩
theorem turn_zipX {P : Program} {w : World} {K : PySem.W.Frag} {elts : List Expr} {kk : Nat} {tpos : Pos} (b2 : Bool) {x : Str} {t : Tok} {b z TI TO i1 i2 : Addr} (D : ZipSep2 z TI TO i1 i2 [i1] [i2, b]) :
    Turn P w K (.Tuple elts kk tpos) (ItzX b2 K x b) [z, TI, TO, i1, i2] z
      (fun i h => IsZip h z TI TO .none ∧ IsTupOf2 h TI (.ref i1) (.ref i2) ∧ (∃ x y, IsTupOf2 h TO x y) ∧ StrAt h i1 x t i ∧ ItB b2 h i2 b i) where
  mem := five.mpr (.inl rfl)
  obj := fun i h st c hc => by
    obtain ⟨hz, hTI, ⟨x, y, hTO⟩, h1, h2⟩ := st
    obtain ⟨o1, v1, e1, d1⟩ := strAt_obj h1
    obtain ⟨o2, v2, e2, d2⟩ := h2.obj
    rcases five.mp hc with q | q | q | q | q <;> subst q
    · exact ⟨_, hz, fun v q => by cases q⟩
    · exact ⟨_, hTI, fun v q => by cases q⟩
    · exact ⟨_, hTO, fun v q => by cases q⟩
    · exact ⟨_, e1, fun v q => by rw [d1] at q; cases q⟩
    · exact ⟨_, e2, fun v q => by rw [d2] at q; cases q⟩
  keep := fun i h h' st k => by
    obtain ⟨hz, hTI, ⟨x, y, hTO⟩, h1, h2⟩ := st
    have kk := fun c (m : c = z ∨ c = TI ∨ c = TO ∨ c = i1 ∨ c = i2) => k c (five.mpr m)
    exact ⟨kk z (.inl rfl) _ hz, kk TI (.inr (.inl rfl)) _ hTI, ⟨x, y, kk TO (.inr (.inr (.inl rfl))) _ hTO⟩, strAt_keep h1 (kk i1 (.inr (.inr (.inr (.inl rfl))))), h2.keep (kk i2 (.inr (.inr (.inr (.inr rfl)))))⟩
  item := by
    intro X hP hw hK hc i pins s σ H E I hf st hg
    subst hP hw hK
    obtain ⟨hz, hTI, ⟨x0, y0, hTO⟩, h1, h2⟩ := st
    obtain ⟨k, ys, y, ex, qy, ey⟩ := hg
    obtain ⟨its2, rv2, p2⟩ := sqB_is I qy
    obtain ⟨u2, hu2, ru2⟩ := rv2.get ey
    have lz : z < s.heap.objs.size := Heap.lt_size hz
    have lt1 : i < x.cps.size := (Array.getElem?_eq_some_iff.mp ex).1
    have lt2 : i < its2.toArray.size := by
      have q := (List.getElem?_eq_some_iff.mp hu2).1
      simpa using q
    have nb : b ≠ i2 := isB_ne p2 h2
    have hh : X.A.in1.handled = none := I.ok.hd hc
    refine wpAny_pyNext_zipD2_item D (Draws.text hh i1 x t) (drawsB hh b2 i2 b nb its2.toArray) hz hTI hTO h1 ⟨h2, p2⟩ lt1 lt2 fun x1 x2 h' tk P1 P2 z' TO' s1' s2' hT sz kp => ?_
    obtain ⟨k2, u, ek, ev⟩ := P1
    have e1 : k = k2 := Option.some.inj (ex.symm.trans ek)
    have e2 : x2 = u2 := by
      have q : its2[i]? = some x2 := by simpa using P2
      exact Option.some.inj (q.symm.trans hu2)
    subst e1 e2 ev
    refine ⟨_, rfl, wpAny_letOwnedTupleGo_zip (s := { s with heap := h', toks := tk }) z' fun h'' z'' sb => ?_⟩
    have hT2 : h''.get? s.heap.objs.size = some { cls := .type "tuple", data := .seq #[.str ⟨#[k]⟩ u, x2] } := (sb.2 _ (Nat.ne_of_gt lz)).trans hT
    have new : ObjOk X.prog X.w (upd H s.heap.objs.size (.tup [.str ⟨#[k]⟩, y])) h'' s.heap.objs.size (.tup [.str ⟨#[k]⟩, y]) := ⟨by show 2 ≤ sizeLine; decide +kernel, [.str ⟨#[k]⟩ u, x2], .cons ⟨u, rfl⟩ (.cons ru2 .nil), ⟨_, hT2, rfl, _, rfl⟩⟩
    have I1 : Inv X pins σ (upd H s.heap.objs.size (.tup [.str ⟨#[k]⟩, y])) { s with heap := h'', toks := tk } := I.turnedNew (ch := [z, TI, TO, i1, i2]) (fun c o hb q => by
      have hb : ¬ (c = z ∨ c = TI ∨ c = TO ∨ c = i1 ∨ c = i2) := fun w => hb (five.mpr w)
      exact (sb.2 c fun w => hb (.inl w)).trans (kp c o (fun w => hb (.inl w)) (fun w => hb (.inr (.inr (.inl w)))) (fun w => hb (.inr (.inr (.inr (.inl w))))) (fun w => hb (.inr (.inr (.inr (.inr w))))) q)) hf (Nat.le_refl _) new
    refine ⟨.ref s.heap.objs.size, _, I1, rfl, ⟨_, k, y, rfl, I.hok.fresh (Nat.le_refl _), rfl, ex, fun l q => by rw [sqB_inj I q qy]; exact ey⟩, ⟨z'', ?_, ⟨.str ⟨#[k]⟩ u, x2, ?_⟩, ?_, ?_⟩, fun c hcm => ?_⟩
    · exact (sb.2 _ D.TIz).trans (kp _ _ D.TIz D.TITO D.TIi1 D.TIi2 hTI)
    · exact (sb.2 _ D.TOz).trans TO'
    · exact strAt_keep s1' fun o q => (sb.2 _ (Ne.symm D.zi1)).trans q
    · exact s2'.1.keep fun o q => (sb.2 _ (Ne.symm D.zi2)).trans q
    · obtain ⟨o1, v1, g1, _⟩ := strAt_obj h1
      obtain ⟨o2, v2, g2, _⟩ := h2.obj
      have lt : c < s.heap.objs.size := by
        rcases five.mp hcm with q | q | q | q | q <;> subst q
        · exact lz
        · exact Heap.lt_size hTI
        · exact Heap.lt_size hTO
        · exact Heap.lt_size g1
        · exact Heap.lt_size g2
      rw [upd_ne (Nat.ne_of_lt lt)]
      exact (hf c hcm).1
  done := by
    intro X hP hw hK hc i pins s σ H E I hf st hg
    subst hP hw hK
    obtain ⟨hz, hTI, ⟨x0, y0, hTO⟩, h1, h2⟩ := st
    obtain ⟨ys, qy, l1, l2, hend⟩ := hg
    obtain ⟨its2, rv2, p2⟩ := sqB_is I qy
    have m2 := rv2.length
    have hh : X.A.in1.handled = none := I.ok.hd hc
    exact wpAny_pyNext_zipD2_end D (Draws.text hh i1 x t) (drawsB hh b2 i2 b (isB_ne p2 h2) its2.toArray) hz hTI hTO h1 ⟨h2, p2⟩ l1 (by simp; omega) (by
      rcases hend with q | q
      · left
        exact q
      · right
        simp
        omega) fun h' tk k => ⟨rfl, I.turnedL (t' := tk) (ch := [z, TI, TO, i1, i2]) (fun c o hb q => by
      have hb : ¬ (c = z ∨ c = TI ∨ c = TO ∨ c = i1 ∨ c = i2) := fun w => hb (five.mpr w)
      exact k c o (fun w => hb (.inl w)) (fun w => hb (.inr (.inr (.inl w)))) (fun w => hb (.inr (.inr (.inr (.inl w))))) (fun w => hb (.inr (.inr (.inr (.inr w))))) q) hf⟩
  self := fun A i s Q E st h => wpAny_pyIter_zip st.1 h
theorem sep_newX (n b : Nat) (lb : b < n) : ZipSep2 (n + 4) (n + 2) (n + 3) n (n + 1) [n] [n + 1, b] := by
  have two : ∀ {x y z : Nat}, x ≠ y → x ≠ z → x ∉ [y, z] := fun h1 h2 m => (pairE.mp m).elim h1 h2
  have one : ∀ {x y : Nat}, x ≠ y → x ∉ [y] := fun h m => h (List.mem_singleton.mp m)
  have ne : ∀ {x y : Nat}, x ≠ y → x ≠ y := id
  exact ⟨ne (by omega), ne (by omega), ne (by omega), ne (by omega), by simp, one (by omega), one (by omega), ne (by omega), by simp, two (by omega) (by omega), two (by omega) (by omega), two (by omega) (by omega), one (by omega)⟩
def iZipX (K : PySem.W.Frag) (ta : TA) : TI := fun σ H R => ta σ H fun vs H1 => ∃ b2 x b ys, vs = [.str x, .ref b] ∧ SqB b2 K H1 b ys ∧ R (ItzX b2 K x b) H1
theorem pi_zipX {X : Cx} {e e2 : Expr} {ta : TA} {p pos tpos : Pos} {elts : List Expr} {kk : Nat} (hg : Gl X "zip") (hm : X.mg "zip" = none) (ha : PA X [e, e2] ta)
    (hs : starEach [e, e2] X.env = (false, eval e X.env) :: starEach [e2] X.env := by rfl) (hpl : (backTo pos (starEach [e2] X.env)).any (·.1) = false := by rfl) : PI X (.Tuple elts kk tpos) (.Call (.Name "zip" p) [e, e2] [] pos) (iZipX X.K ta) := by
  refine ⟨fun pins s σ H R I h => ?_⟩
  refine PyProof.Rows.Call_ (ld_blt I hg hm PyProof.Rows.boot_zip (PyProof.Rows.callWith_type1 (thn (ha.run pos pins s σ H _ I h) fun us s1 ⟨vs, H1, I1, r1, q1⟩ => ?_) hs hpl))
  obtain ⟨b2, x, b, ys, ev, qy, q⟩ := q1
  subst ev
  cases r1 with
  | cons r rr =>
    cases rr with
    | cons r' rr =>
      cases rr
      obtain ⟨t, rfl⟩ := r
      cases r'
      obtain ⟨its2, rv2, p2⟩ := sqB_is I1 qy
      have lb := p2.lt
      refine zip_begins2 (begins_text x t) (beginsB b2 b its2.toArray) trivial p2 fun h' hz hTI hTO h1 h2 hsz hk => wpAny_pyIter_zip hz ?_
      have I2 : Inv X pins σ H1 { s1 with heap := h' } := I1.kept (t' := s1.toks) hk
      refine ⟨s1.heap.objs.size + 4, [s1.heap.objs.size + 4, s1.heap.objs.size + 2, s1.heap.objs.size + 3, s1.heap.objs.size, s1.heap.objs.size + 1], _, _, H1, rfl, I2, turn_zipX b2 (x := x) (t := t) (b := b) ?_, ⟨hz, hTI, ⟨_, _, hTO⟩, ⟨_, h1, rfl, rfl⟩, itB_new h2⟩, fun c hcm => ?_, q⟩
      · exact sep_newX _ _ lb
      · have hle : s1.heap.objs.size ≤ c := by
          rcases five.mp hcm with w | w | w | w | w <;> rw [w] <;> first
            | exact Nat.le_add_right _ _
            | exact Nat.le_refl _
        exact I1.fpOk hle (I1.hok.fresh hle)
/-- zip of a text and a sequence -/
def itZX (x y : DV) : M (List DV) := match x with
  | .str z => itS y >>= fun m => pure (zipD (signs z) m)
  | _ => M.bad
section
variable {X : Cx} {c : Cn} {pos p1 : Pos} {a b : Expr} {ma mb : En → M DV}
theorem signs_get {z : Str} {i : Nat} {d : DV} (e : (signs z)[i]? = some d) : ∃ k, z.cps[i]? = some k ∧ d = .str ⟨#[k]⟩ := by
  unfold signs at e
  rw [List.getElem?_map, Array.getElem?_toList] at e
  cases q : z.cps[i]? with
  | none =>
    rw [q] at e
    cases e
  | some k =>
    rw [q] at e
    exact ⟨k, rfl, (Option.some.inj e).symm⟩
theorem signs_len (z : Str) : (signs z).length = z.cps.size := by simp [signs]
theorem wk_zipX {W : Wd} {H : Hp} {b2 : Bool} {z : Str} {p : Addr} {ws : List V} {es : List DV} (f2 : SB c.g.K W H b2 p ws) (r2 : Reps c.g W H es ws) : Wk c W H (ItzX b2 c.g.K z p) (zipD (signs z) es) where
  go := fun W2 H2 pr i d e => by
    have sq2 := f2.per pr
    obtain ⟨x, y, e1, e2, e3⟩ := zipD_get e
    obtain ⟨k, g1, ek⟩ := signs_get e1
    obtain ⟨w, g2, rw'⟩ := (r2.per pr _ _).get e2
    refine ⟨⟨k, ws, w, g1, sq2, g2⟩, fun zz H3 yl => ?_⟩
    obtain ⟨T, k', y', h1, h2, h3, h4, h5⟩ := yl
    have q1 : k = k' := some_inj2 g1 h4
    have q2 : w = y' := some_inj2 g2 (h5 ws sq2)
    subst q1 q2
    exact .inr ⟨T, _, _, e3, h1, h2, h3, .cons (by rw [ek]; simp only [Rep]) (.cons rw' .nil)⟩
  st := fun W2 H2 pr => by
    refine ⟨ws, f2.per pr, ?_⟩
    rw [zipD_len, signs_len, r2.len]
    omega
theorem i_zipX (hk : X.K = c.g.K) (hg : Gl X "zip") (hm : X.mg "zip" = none) {elts : List Expr} {kk : Nat} {tpos : Pos} (ha : PE X a (RE c ma)) (hb : PE X b (RE c mb)) (he : starEach [a, b] X.env = (false, eval a X.env) :: starEach [b] X.env := by rfl) (he2 : starEach [b] X.env = (false, eval b X.env) :: starEach [] X.env := by rfl)
    (hpl : (backTo pos (starEach [b] X.env)).any (·.1) = false := by rfl) : PI X (.Tuple elts kk tpos) (.Call (.Name "zip" p1) [a, b] [] pos) (RI c (iB2 ma mb itZX)) :=
  pi_imp (pi_zipX hg hm (pa_cons ha (pa_cons hb pa_nil he2) he) he hpl) fun s H R q => by
    unfold iB2 at q
    exact RX.bind q fun W e W1 H1 x v h1 t S rx q2 => ⟨W1, e, h1, S, q2.bind fun W2 H2 y w h2 t2 S2 ry q3 => by
      have rx2 := stays_V.go S.hs t2 rx
      unfold itZX at q3
      cases x with
      | str z =>
        simp only [rV, Rep] at rx2
        subst rx2
        have q5 : Post c (fun W H ds J => Wk c W H J ds) e s W2 H2 ((itS y >>= fun m => pure (zipD (signs z) m)) h2) R := q3
        cases zy : itS y h2 with
        | bad =>
          rw [M.bind_def, zy] at q5
          exact q5.elim
        | exc z h4 => exact (itS_exc zy).elim
        | ok m h4 =>
          rw [M.bind_def, zy] at q5
          obtain ⟨eh, b2, p2, ws, e2, rs2, cy⟩ := itS_src S2 ry zy
          subst eh e2
          have q6 : Post c (fun W H ds J => Wk c W H J ds) e s W2 H2 (.ok (zipD (signs z) m) h4) R := q5
          refine ⟨b2, z, p2, ws, rfl, by rw [hk]; exact cy.now, ?_⟩
          rw [hk]
          exact q6.ret S2 (wk_zipX cy rs2)
      | _ => exact q3.elim⟩
end
@[simp] theorem itZX_app (z : Str) (y : DV) (h : HP) : itZX (.str z) y h = bR (itS y h) fun m h => .ok (zipD (signs z) m) h := rfl
@[simp] theorem itT_app (z : Str) (h : HP) : itT (.str z) h = .ok (signs z) h := rfl
/-! ### f() -/
section
variable {T : Tp} {X : Cx} {c : Cn} {N : List Str} {k : Nat} {sc : Scope} {pos p1 : Pos}
theorem c_call0 {x : Str} {id j : Nat} {m : List DV → M DV} (hX : XEx T X c N k sc) (F : Fo T x id j 0 m) (hj : j ≤ k) (hg : Gl X x) (hdb : (x == ("__debug__" : Str)) = false := by decide) :
    PE X (.Call (.Name x p1) [] [] pos) (RE c (eCall m aNil)) := by
  obtain ⟨gl, kp, fd, ps, b, f⟩ := F.at hX
  refine ⟨fun pins s σ H Q I q => ?_⟩
  refine wpAny_Call_Name_kw (ld_glob I hg gl ?_ hdb)
  have q2 := call_use (n := 0) q
  have q3 : spF c.g 0 m ([] ++ []) H Q (WE c.x σ) := by
    obtain ⟨W, e, h, S, q4⟩ := q2
    exact q4 W H [] (Step.refl _ _) S ⟨.nil, rfl⟩
  exact PySem.W.callWith_K0 I.kIn kp (run_fnSD (us := []) (vs := []) f (hX.room.mono hj) b .nil (L2N.passAt hX.tk σ) I .nil q3)
end
end LM

namespace LM
open PySem L2
def fnames : List Str := ["added", "lessened", "multiplied", "lesser", "greater", "is_below", "is_alike", "whole_of", "numbers_of", "part_of", "line_of", "read_program", "_law_taken", "_law_whole", "_law_numbers", "_law_forms", "_law_part", "_law_word", "_law_same", "_law_spoilt", "_law_found", "_law_refused", "law"]
abbrev s_added : Stmt := topS 2
abbrev N_added : List Str := ["one", "other"]
theorem sc_added : FnScope N_added ["one", "other"] (defScope s_added) := ⟨rfl, rfl, rfl, by decide +kernel, rfl, by decide +kernel, by decide +kernel⟩
def m_added : Stm := (sRet (e2 vMod (e2 vAdd (eVar 0) (eVar 1)) (eC (.int 1000003))))
def f_added : List DV → M DV := fnM 2 m_added
theorem d_added {T : Tp} {X : Cx} {c : Cn} (hb : Blt T.mg) (hC_REST : ∃ t, T.mg "REST" = some (.int (1000003) t)) (hX : XSt T X c N_added 0 (defScope s_added)) : PSs X (defBody s_added) (RS c m_added) :=
  (s_one (s_ret (c_mod (c_add hX.e.kk (c_toB (k_var hX.e 0 rfl (.inl rfl))) (c_toB (k_var hX.e 1 rfl (.inl rfl)))) (k_cint hX.e (hX.e.gl rfl) hC_REST))))
abbrev s_lessened : Stmt := topS 3
abbrev N_lessened : List Str := ["one", "other"]
theorem sc_lessened : FnScope N_lessened ["one", "other"] (defScope s_lessened) := ⟨rfl, rfl, rfl, by decide +kernel, rfl, by decide +kernel, by decide +kernel⟩
def m_lessened : Stm := (sRet (e2 vMod (e2 vSub (eVar 0) (eVar 1)) (eC (.int 1000003))))
def f_lessened : List DV → M DV := fnM 2 m_lessened
theorem d_lessened {T : Tp} {X : Cx} {c : Cn} (hb : Blt T.mg) (hC_REST : ∃ t, T.mg "REST" = some (.int (1000003) t)) (hX : XSt T X c N_lessened 0 (defScope s_lessened)) : PSs X (defBody s_lessened) (RS c m_lessened) :=
  (s_one (s_ret (c_mod (c_sub (k_var hX.e 0 rfl (.inl rfl)) (k_var hX.e 1 rfl (.inl rfl))) (k_cint hX.e (hX.e.gl rfl) hC_REST))))
abbrev s_multiplied : Stmt := topS 4
abbrev N_multiplied : List Str := ["one", "other"]
theorem sc_multiplied : FnScope N_multiplied ["one", "other"] (defScope s_multiplied) := ⟨rfl, rfl, rfl, by decide +kernel, rfl, by decide +kernel, by decide +kernel⟩
def m_multiplied : Stm := (sRet (e2 vMod (e2 vMul (eVar 0) (eVar 1)) (eC (.int 1000003))))
def f_multiplied : List DV → M DV := fnM 2 m_multiplied
theorem d_multiplied {T : Tp} {X : Cx} {c : Cn} (hb : Blt T.mg) (hC_REST : ∃ t, T.mg "REST" = some (.int (1000003) t)) (hX : XSt T X c N_multiplied 0 (defScope s_multiplied)) : PSs X (defBody s_multiplied) (RS c m_multiplied) :=
  (s_one (s_ret (c_mod (c_mul (k_var hX.e 0 rfl (.inl rfl)) (k_var hX.e 1 rfl (.inl rfl))) (k_cint hX.e (hX.e.gl rfl) hC_REST))))
abbrev s_lesser : Stmt := topS 5
abbrev N_lesser : List Str := ["one", "other"]
theorem sc_lesser : FnScope N_lesser ["one", "other"] (defScope s_lesser) := ⟨rfl, rfl, rfl, by decide +kernel, rfl, by decide +kernel, by decide +kernel⟩
def m_lesser : Stm := (sRet (e2 vMin (eVar 0) (eVar 1)))
def f_lesser : List DV → M DV := fnM 2 m_lesser
theorem d_lesser {T : Tp} {X : Cx} {c : Cn} (hb : Blt T.mg)  (hX : XSt T X c N_lesser 0 (defScope s_lesser)) : PSs X (defBody s_lesser) (RS c m_lesser) :=
  (s_one (s_ret (c_min2 hX.e.calm (hX.e.gl rfl) (hX.e.no hb.min) (k_var hX.e 0 rfl (.inl rfl)) (k_var hX.e 1 rfl (.inl rfl)))))
abbrev s_greater : Stmt := topS 6
abbrev N_greater : List Str := ["one", "other"]
theorem sc_greater : FnScope N_greater ["one", "other"] (defScope s_greater) := ⟨rfl, rfl, rfl, by decide +kernel, rfl, by decide +kernel, by decide +kernel⟩
def m_greater : Stm := (sRet (e2 vMax (eVar 0) (eVar 1)))
def f_greater : List DV → M DV := fnM 2 m_greater
theorem d_greater {T : Tp} {X : Cx} {c : Cn} (hb : Blt T.mg)  (hX : XSt T X c N_greater 0 (defScope s_greater)) : PSs X (defBody s_greater) (RS c m_greater) :=
  (s_one (s_ret (c_max2 hX.e.calm (hX.e.gl rfl) (hX.e.no hb.max) (k_var hX.e 0 rfl (.inl rfl)) (k_var hX.e 1 rfl (.inl rfl)))))
abbrev s_is_below : Stmt := topS 7
abbrev N_is_below : List Str := ["one", "other"]
theorem sc_is_below : FnScope N_is_below ["one", "other"] (defScope s_is_below) := ⟨rfl, rfl, rfl, by decide +kernel, rfl, by decide +kernel, by decide +kernel⟩
def m_is_below : Stm := (sRet (e1 vInt (e2 vLt (eVar 0) (eVar 1))))
def f_is_below : List DV → M DV := fnM 2 m_is_below
theorem d_is_below {T : Tp} {X : Cx} {c : Cn} (hb : Blt T.mg)  (hX : XSt T X c N_is_below 0 (defScope s_is_below)) : PSs X (defBody s_is_below) (RS c m_is_below) :=
  (s_one (s_ret (c_intOf (hX.e.gl rfl) (hX.e.no hb.int) (c_lt (k_var hX.e 0 rfl (.inl rfl)) (k_var hX.e 1 rfl (.inl rfl))))))
abbrev s_is_alike : Stmt := topS 8
abbrev N_is_alike : List Str := ["one", "other"]
theorem sc_is_alike : FnScope N_is_alike ["one", "other"] (defScope s_is_alike) := ⟨rfl, rfl, rfl, by decide +kernel, rfl, by decide +kernel, by decide +kernel⟩
def m_is_alike : Stm := (sRet (e1 vInt (e2 vEq (eVar 0) (eVar 1))))
def f_is_alike : List DV → M DV := fnM 2 m_is_alike
theorem d_is_alike {T : Tp} {X : Cx} {c : Cn} (hb : Blt T.mg)  (hX : XSt T X c N_is_alike 0 (defScope s_is_alike)) : PSs X (defBody s_is_alike) (RS c m_is_alike) :=
  (s_one (s_ret (c_intOf (hX.e.gl rfl) (hX.e.no hb.int) (c_eq hX.e.kk hX.e.u (c_toB (k_var hX.e 0 rfl (.inl rfl))) (c_toB (k_var hX.e 1 rfl (.inl rfl)))))))
abbrev s_whole_of : Stmt := topS 22
abbrev N_whole_of : List Str := ["word", "figures", "sign"]
theorem sc_whole_of : FnScope N_whole_of ["word"] (defScope s_whole_of) := ⟨rfl, rfl, rfl, by decide +kernel, rfl, by decide +kernel, by decide +kernel⟩
def m_whole_of_b1 : Stm := (sIf (tb (e2 (vInS true) (eVar 2) (eC (.str (Str.ofString "0123456789"))))) (sRet (eC .non)) sNext)
def m_whole_of : Stm := (sSeq (sSet 1 (eVar 0)) (sSeq (sIf (tb (e2 vEq (eCutS (eVar 0) oNone (oSome (eC (.int 1)))) (eC (.str (Str.ofString "-"))))) (sSet 1 (eCutS (eVar 0) (oSome (eC (.int 1))) oNone)) sNext) (sSeq (sIf (tOr (tb (e2 vEq (eVar 1) (eC (.str (Str.ofString ""))))) (tb (e2 vGt (e1 vLen (eVar 1)) (eC (.int 12))))) (sRet (eC .non)) sNext) (sSeq (sFor (iB (eVar 1) itT) (tName 2) [2] m_whole_of_b1) (sSeq (sIf (tAnd (tb (e2 vEq (e2 vIdx (eVar 1) (eC (.int 0))) (eC (.str (Str.ofString "0"))))) (tOr (tb (e2 vGt (e1 vLen (eVar 1)) (eC (.int 1)))) (tb (e2 vEq (eCutS (eVar 0) oNone (oSome (eC (.int 1)))) (eC (.str (Str.ofString "-"))))))) (sRet (eC .non)) sNext) (sRet (e1 vIntS (eVar 0))))))))
def f_whole_of : List DV → M DV := fnM 3 m_whole_of
theorem d_whole_of {T : Tp} {X : Cx} {c : Cn} (hb : Blt T.mg) (hS_FIGURES : ∃ t, T.mg "FIGURES" = some (.str (Str.ofString "0123456789") t)) (hC_MOST_FIGURES : ∃ t, T.mg "MOST_FIGURES" = some (.int (12) t)) (hX : XSt T X c N_whole_of 0 (defScope s_whole_of)) : PSs X (defBody s_whole_of) (RS c m_whole_of) :=
  (s_cons (k_set hX (i := 1) rfl (.inl rfl) (k_var hX.e 0 rfl (.inl rfl))) (s_cons (s_if (t_eq hX.e.kk hX.e.u (c_toB (c_cutS (k_var hX.e 0 rfl (.inl rfl)) c_pn (c_ps c_int))) (c_toB c_str)) (s_one (k_set hX (i := 1) rfl (.inl rfl) (c_cutS (k_var hX.e 0 rfl (.inl rfl)) (c_ps c_int) c_pn))) s_nil) (s_cons (s_if (PW.pt (t_or (t_eq hX.e.kk hX.e.u (c_toB (k_var hX.e 1 rfl (.inl rfl))) (c_toB c_str)) (t_or1 (t_gt (c_len hX.e.kk (hX.e.gl rfl) (hX.e.no hb.len) (c_toB (k_var hX.e 1 rfl (.inl rfl)))) (k_cint hX.e (hX.e.gl rfl) hC_MOST_FIGURES))))) (s_one (s_ret c_non)) s_nil) (s_cons (k_for [2] hX (i_text (k_var hX.e 1 rfl (.inl rfl))) (k_gn hX (i := 2) rfl (.inl rfl)) (s_one (s_if (t_notinS (k_var hX.e 2 rfl (.inl rfl)) (k_cstr hX.e (hX.e.gl rfl) hS_FIGURES)) (s_one (s_ret c_non)) s_nil))) (s_cons (s_if (PW.pt (t_and (t_eq hX.e.kk hX.e.u (c_toB (c_idx hX.e.kk (c_toB (k_var hX.e 1 rfl (.inl rfl))) c_int)) (c_toB c_str)) (t_and1 (PW.pt (t_or (t_gt (c_len hX.e.kk (hX.e.gl rfl) (hX.e.no hb.len) (c_toB (k_var hX.e 1 rfl (.inl rfl)))) c_int) (t_or1 (t_eq hX.e.kk hX.e.u (c_toB (c_cutS (k_var hX.e 0 rfl (.inl rfl)) c_pn (c_ps c_int))) (c_toB c_str)))))))) (s_one (s_ret c_non)) s_nil) (s_one (s_ret (c_intS (hX.e.gl rfl) (hX.e.no hb.int) (k_var hX.e 0 rfl (.inl rfl))))))))))
abbrev s_numbers_of : Stmt := topS 23
abbrev N_numbers_of : List Str := ["word", "found", "part"]
theorem sc_numbers_of : FnScope N_numbers_of ["word"] (defScope s_numbers_of) := ⟨rfl, rfl, rfl, by decide +kernel, rfl, by decide +kernel, by decide +kernel⟩
def m_numbers_of_c1 : En → M (List DV) := (mLc [2] (iB (eFrz (iT2 (eVar 0) (eC (.str (Str.ofString ","))) lSplit)) itS) (tName 2) mYes (eCall f_whole_of (aCons (eVar 2) aNil)))
def m_numbers_of : Stm := (sSeq (sIf (tb (e2 vEq (eVar 0) (eC (.str (Str.ofString "-"))))) (sRet (eTup aNil)) sNext) (sSeq (sSetL 1 m_numbers_of_c1) (sSeq (sIf (tb (e2 vNin (eC .non) (eVar 1))) (sRet (eC .non)) sNext) (sRet (e1 vTup (eVar 1))))))
def f_numbers_of : List DV → M DV := fnM 3 m_numbers_of
theorem d_numbers_of {T : Tp} {X : Cx} {c : Cn} (hb : Blt T.mg) (F_whole_of : Fo T "whole_of" 7 1 1 f_whole_of) (hX : XSt T X c N_numbers_of 1 (defScope s_numbers_of)) : PSs X (defBody s_numbers_of) (RS c m_numbers_of) :=
  (s_cons (s_if (t_eq hX.e.kk hX.e.u (c_toB (k_var hX.e 0 rfl (.inl rfl))) (c_toB c_str)) (s_one (s_ret (c_tup c_nil))) s_nil) (s_cons (s_after (k_setLc hX (i := 1) [("part", 2)] rfl rfl rfl (by decide +kernel) rfl (i_seq hX.e.kk (c_frz (c_split (k_var hX.e 0 rfl (.inl rfl)) c_str))) (by decide +kernel) (fun X' b1 => (k_gnB b1 (i := 2) rfl (.inl rfl) (.inr rfl))) (fun X' b1 => ts_nil) (fun X' b1 => (c_call b1.e F_whole_of (by decide) (b1.e.gl rfl) (c_cons (k_var b1.e 2 rfl (.inl rfl)) c_nil))))) (s_cons (s_if (t_nin hX.e.kk hX.e.u c_non (c_toB (k_var hX.e 1 rfl (.inl rfl)))) (s_one (s_ret c_non)) s_nil) (s_one (s_ret (c_tupOf hX.e.kk (hX.e.gl rfl) (hX.e.no hb.tuple) (c_toB (k_var hX.e 1 rfl (.inl rfl)))))))))
abbrev s_part_of : Stmt := topS 24
abbrev N_part_of : List Str := ["form", "word"]
theorem sc_part_of : FnScope N_part_of ["form", "word"] (defScope s_part_of) := ⟨rfl, rfl, rfl, by decide +kernel, rfl, by decide +kernel, by decide +kernel⟩
abbrev fs_BOTH : Fns := [(0, f_added), (1, f_lessened), (2, f_multiplied), (3, f_lesser), (4, f_greater), (5, f_is_below), (6, f_is_alike)]
def m_part_of : Stm := (sSeq (sIf (tb (e2 vEq (eVar 0) (eC (.str (Str.ofString "n"))))) (sRet (eCall f_whole_of (aCons (eVar 1) aNil))) sNext) (sSeq (sIf (tb (e2 vEq (eVar 0) (eC (.str (Str.ofString "s"))))) (sRet (eCall f_numbers_of (aCons (eVar 1) aNil))) sNext) (sSeq (sIf (tOr (tAnd (tb (e2 vEq (eVar 0) (eC (.str (Str.ofString "1"))))) (tb (e2 (vIn false) (eVar 1) (eC (.tup [DV.str (Str.ofString "minus"), DV.str (Str.ofString "half"), DV.str (Str.ofString "none")]))))) (tOr (tAnd (tb (e2 vEq (eVar 0) (eC (.str (Str.ofString "2"))))) (tb (e1 (vInT ks_BOTH false) (eVar 1)))) (tAnd (tb (e2 vEq (eVar 0) (eC (.str (Str.ofString "f"))))) (tb (e2 (vIn false) (eVar 1) (eC (.tup [DV.str (Str.ofString "add"), DV.str (Str.ofString "times"), DV.str (Str.ofString "least"), DV.str (Str.ofString "most")]))))))) (sRet (eVar 1)) sNext) (sRet (eC .non)))))
def f_part_of : List DV → M DV := fnM 2 m_part_of
theorem d_part_of {T : Tp} {X : Cx} {c : Cn} (hb : Blt T.mg) (F_whole_of : Fo T "whole_of" 7 1 1 f_whole_of) (F_numbers_of : Fo T "numbers_of" 8 2 1 f_numbers_of) (hCt_FOLDS : CstOk T "FOLDS" [Str.ofString "add", Str.ofString "times", Str.ofString "least", Str.ofString "most"]) (hCt_ONES : CstOk T "ONES" [Str.ofString "minus", Str.ofString "half", Str.ofString "none"]) (hI_BOTH : KeyOk T "BOTH" ks_BOTH) (hT_BOTH : TabOk T "BOTH" tab_BOTH) (hX : XSt T X c N_part_of 2 (defScope s_part_of)) : PSs X (defBody s_part_of) (RS c m_part_of) :=
  (s_cons (s_if (t_eq hX.e.kk hX.e.u (c_toB (k_var hX.e 0 rfl (.inl rfl))) (c_toB c_str)) (s_one (s_ret (c_call hX.e F_whole_of (by decide) (hX.e.gl rfl) (c_cons (k_var hX.e 1 rfl (.inl rfl)) c_nil)))) s_nil) (s_cons (s_if (t_eq hX.e.kk hX.e.u (c_toB (k_var hX.e 0 rfl (.inl rfl))) (c_toB c_str)) (s_one (s_ret (c_call hX.e F_numbers_of (by decide) (hX.e.gl rfl) (c_cons (k_var hX.e 1 rfl (.inl rfl)) c_nil)))) s_nil) (s_cons (s_if (PW.pt (t_or (PW.pt (t_and (t_eq hX.e.kk hX.e.u (c_toB (k_var hX.e 0 rfl (.inl rfl))) (c_toB c_str)) (t_and1 (t_in hX.e.kk (k_var hX.e 1 rfl (.inl rfl)) (c_toB (k_ctup hX.e (hX.e.gl rfl) hCt_ONES)))))) (t_or (PW.pt (t_and (t_eq hX.e.kk hX.e.u (c_toB (k_var hX.e 0 rfl (.inl rfl))) (c_toB c_str)) (t_and1 (kt_inT hX.e hI_BOTH (hX.e.gl rfl) (k_var hX.e 1 rfl (.inl rfl)))))) (t_or1 (PW.pt (t_and (t_eq hX.e.kk hX.e.u (c_toB (k_var hX.e 0 rfl (.inl rfl))) (c_toB c_str)) (t_and1 (t_in hX.e.kk (k_var hX.e 1 rfl (.inl rfl)) (c_toB (k_ctup hX.e (hX.e.gl rfl) hCt_FOLDS)))))))))) (s_one (s_ret (k_var hX.e 1 rfl (.inl rfl)))) s_nil) (s_one (s_ret c_non)))))
abbrev s_line_of : Stmt := topS 25
abbrev N_line_of : List Str := ["text", "words", "found", "form", "word"]
theorem sc_line_of : FnScope N_line_of ["text"] (defScope s_line_of) := ⟨rfl, rfl, rfl, by decide +kernel, rfl, by decide +kernel, by decide +kernel⟩
def m_line_of_b1 : Stm := (sApp 2 (eCall f_part_of (aCons (eVar 3) (aCons (eVar 4) aNil))))
def m_line_of : Stm := (sSeq (sSet 1 (eFrz (iT2 (eVar 0) (eC (.str (Str.ofString " "))) lSplit))) (sSeq (sIf (tOr (tb (e1 (vInT ks_FORMS true) (e2 vIdx (eVar 1) (eC (.int 0))))) (tb (e2 vNe (e1 vLen (eVar 1)) (e2 vAdd (e1 vLen (e1 (vTab tab_FORMS) (e2 vIdx (eVar 1) (eC (.int 0))))) (eC (.int 1)))))) (sRet (eC .non)) sNext) (sSeq (sSetO 2 (aCons (e2 vIdx (eVar 1) (eC (.int 0))) aNil)) (sSeq (sFor (iB2 (e1 (vTab tab_FORMS) (e2 vIdx (eVar 1) (eC (.int 0)))) (eCut (eVar 1) (oSome (eC (.int 1))) oNone) itZX) (tTup [3, 4]) [3, 4] m_line_of_b1) (sSeq (sIf (tb (e2 vNin (eC .non) (eBor 2))) (sRet (eC .non)) sNext) (sRet (e1 vTup (eBor 2))))))))
def f_line_of : List DV → M DV := fnM 5 m_line_of
theorem d_line_of {T : Tp} {X : Cx} {c : Cn} (hb : Blt T.mg) (F_part_of : Fo T "part_of" 9 3 2 f_part_of) (hI_FORMS : KeyOk T "FORMS" ks_FORMS) (hT_FORMS : TabOk T "FORMS" tab_FORMS) (hX : XSt T X c N_line_of 3 (defScope s_line_of)) : PSs X (defBody s_line_of) (RS c m_line_of) :=
  (s_cons (k_set hX (i := 1) rfl (.inl rfl) (c_frz (c_split (k_var hX.e 0 rfl (.inl rfl)) c_str))) (s_cons (s_if (PW.pt (t_or (kt_notinT hX.e hI_FORMS (hX.e.gl rfl) (c_idx hX.e.kk (c_toB (k_var hX.e 1 rfl (.inl rfl))) c_int)) (t_or1 (t_ne hX.e.kk hX.e.u (c_toB (c_len hX.e.kk (hX.e.gl rfl) (hX.e.no hb.len) (c_toB (k_var hX.e 1 rfl (.inl rfl))))) (c_toB (c_add hX.e.kk (c_toB (c_len hX.e.kk (hX.e.gl rfl) (hX.e.no hb.len) (c_toB (k_tab hX.e hT_FORMS (hX.e.gl rfl) (c_idx hX.e.kk (c_toB (k_var hX.e 1 rfl (.inl rfl))) c_int))))) (c_toB c_int))))))) (s_one (s_ret c_non)) s_nil) (s_cons (k_setO hX (i := 2) rfl (.inl rfl) (c_lst (c_cons (c_idx hX.e.kk (c_toB (k_var hX.e 1 rfl (.inl rfl))) c_int) c_nil))) (s_cons (k_for [3, 4] hX (i_zipX hX.e.kk (hX.e.gl rfl) (hX.e.no hb.zip) (k_tab hX.e hT_FORMS (hX.e.gl rfl) (c_idx hX.e.kk (c_toB (k_var hX.e 1 rfl (.inl rfl))) c_int)) (c_cut hX.e.kk (c_toB (k_var hX.e 1 rfl (.inl rfl))) (c_ps c_int) c_pn)) (g_tup hX.e.kk hX.e.calm (k_gs hX (i := 3) rfl (.inl rfl) (k_gs hX (i := 4) rfl (.inl rfl) gs_nil))) (s_one (k_app hX (i := 2) rfl (.inl rfl) (c_call hX.e F_part_of (by decide) (hX.e.gl rfl) (c_cons (k_var hX.e 3 rfl (.inl rfl)) (c_cons (k_var hX.e 4 rfl (.inl rfl)) c_nil)))))) (s_cons (s_if (t_nin hX.e.kk hX.e.u c_non (k_bor hX.e 2 rfl (.inl rfl))) (s_one (s_ret c_non)) s_nil) (s_one (s_ret (c_tupOf hX.e.kk (hX.e.gl rfl) (hX.e.no hb.tuple) (k_bor hX.e 2 rfl (.inl rfl))))))))))
abbrev s_read_program : Stmt := topS 26
abbrev N_read_program : List Str := ["text", "found", "row", "part", "line"]
theorem sc_read_program : FnScope N_read_program ["text"] (defScope s_read_program) := ⟨rfl, rfl, rfl, by decide +kernel, rfl, by decide +kernel, by decide +kernel⟩
def m_read_program_b1 : Stm := (sSeq (sSet 4 (eCall f_line_of (aCons (eVar 3) aNil))) (sSeq (sIf (tb (e1 vIsN (eVar 4))) (sRaise 4 (aCons (eVar 2) aNil)) sNext) (sApp 1 (eVar 4))))
def m_read_program : Stm := (sSeq (sSetO 1 aNil) (sSeq (sFor (iB (eFrz (iT2 (eVar 0) (eC (.str (Str.ofString "\n"))) lSplit)) itE) (tTup [2, 3]) [2, 3, 4] m_read_program_b1) (sSeq (sFrz 1) (sRet (eVar 1)))))
def f_read_program : List DV → M DV := fnM 5 m_read_program
theorem d_read_program {T : Tp} {X : Cx} {c : Cn} (hb : Blt T.mg) (F_line_of : Fo T "line_of" 10 4 1 f_line_of) (hE_NoText : Eo1 T "NoText" 4 "row") (hX : XSt T X c N_read_program 4 (defScope s_read_program)) : PSs X (defBody s_read_program) (RS c m_read_program) :=
  (s_cons (k_setO hX (i := 1) rfl (.inl rfl) (c_lst c_nil)) (s_cons (k_for [2, 3, 4] hX (i_enum hX.e.kk (hX.e.gl rfl) (hX.e.no hb.enumerate) (c_frz (c_split (k_var hX.e 0 rfl (.inl rfl)) c_str))) (g_tup hX.e.kk hX.e.calm (k_gs hX (i := 2) rfl (.inl rfl) (k_gs hX (i := 3) rfl (.inl rfl) gs_nil))) (s_cons (k_set hX (i := 4) rfl (.inl rfl) (c_call hX.e F_line_of (by decide) (hX.e.gl rfl) (c_cons (k_var hX.e 3 rfl (.inl rfl)) c_nil))) (s_cons (s_if (t_isN (c_toB (k_var hX.e 4 rfl (.inl rfl)))) (s_one (s_raise1 hX hE_NoText (by decide) (hX.e.gl rfl) (c_cons (k_var hX.e 2 rfl (.inl rfl)) c_nil))) s_nil) (s_one (k_app hX (i := 1) rfl (.inl rfl) (k_var hX.e 4 rfl (.inl rfl))))))) (s_one (s_frz (i := 1) (s_ret (k_var hX.e 1 rfl (.inl rfl)))))))
abbrev s_law_taken : Stmt := topS 28
abbrev N_law_taken : List Str := ["_law_row", "_law_many", "_law_at"]
theorem sc_law_taken : FnScope N_law_taken ["_law_row", "_law_many"] (defScope s_law_taken) := ⟨rfl, rfl, rfl, by decide +kernel, rfl, by decide +kernel, by decide +kernel⟩
def m_law_taken : Stm := (sSeq (sSet 2 (e2 vIdx (eVar 0) (eC (.int 1)))) (sSeq (sSetH (e2 vAdd (eVar 2) (eC (.int 1))) (eVar 0) (eC (.int 1))) (sSeq (sIf (tb (e2 vLt (eVar 2) (e1 vLen (e2 vIdx (eVar 0) (eC (.int 0)))))) (sRet (e2 vMod (e2 vIdx (e2 vIdx (eVar 0) (eC (.int 0))) (eVar 2)) (eVar 1))) sNext) (sRet (eC (.int 0))))))
def f_law_taken : List DV → M DV := fnM 3 m_law_taken
theorem d_law_taken {T : Tp} {X : Cx} {c : Cn} (hb : Blt T.mg)  (hX : XSt T X c N_law_taken 0 (defScope s_law_taken)) : PSs X (defBody s_law_taken) (RS c m_law_taken) :=
  (s_cons (k_set hX (i := 2) rfl (.inl rfl) (c_idx hX.e.kk (c_toB (k_var hX.e 0 rfl (.inl rfl))) c_int)) (s_cons (s_setH (c_add hX.e.kk (c_toB (k_var hX.e 2 rfl (.inl rfl))) (c_toB c_int)) (k_var hX.e 0 rfl (.inl rfl)) c_int) (s_cons (s_if (t_lt (k_var hX.e 2 rfl (.inl rfl)) (c_len hX.e.kk (hX.e.gl rfl) (hX.e.no hb.len) (c_toB (c_idx hX.e.kk (c_toB (k_var hX.e 0 rfl (.inl rfl))) c_int)))) (s_one (s_ret (c_mod (c_idx hX.e.kk (c_toB (c_idx hX.e.kk (c_toB (k_var hX.e 0 rfl (.inl rfl))) c_int)) (k_var hX.e 2 rfl (.inl rfl))) (k_var hX.e 1 rfl (.inl rfl))))) s_nil) (s_one (s_ret c_int)))))
abbrev s_law_whole : Stmt := topS 29
abbrev N_law_whole : List Str := ["_law_found_here"]
theorem sc_law_whole : FnScope N_law_whole ["_law_found_here"] (defScope s_law_whole) := ⟨rfl, rfl, rfl, by decide +kernel, rfl, by decide +kernel, by decide +kernel⟩
def m_law_whole : Stm := (sRet (eAnd (e1 (vIsI .int) (eVar 0)) (e1 vNot (e1 (vIsI .bool) (eVar 0)))))
def f_law_whole : List DV → M DV := fnM 1 m_law_whole
theorem d_law_whole {T : Tp} {X : Cx} {c : Cn} (hb : Blt T.mg)  (hX : XSt T X c N_law_whole 0 (defScope s_law_whole)) : PSs X (defBody s_law_whole) (RS c m_law_whole) :=
  (s_one (s_ret (c_and (c_isI .int hX.e.kk (hX.e.gl rfl) (hX.e.no hb.isinstance) (hX.e.gl rfl) (hX.e.no hb.int) (by decide +kernel) (c_toB (k_var hX.e 0 rfl (.inl rfl)))) (c_one (c_not (c_isI .bool hX.e.kk (hX.e.gl rfl) (hX.e.no hb.isinstance) (hX.e.gl rfl) (hX.e.no hb.bool) (by decide +kernel) (c_toB (k_var hX.e 0 rfl (.inl rfl)))))))))
abbrev s_law_numbers : Stmt := topS 30
abbrev N_law_numbers : List Str := ["_law_found_here", "_law_due", "_law_number"]
theorem sc_law_numbers : FnScope N_law_numbers ["_law_found_here", "_law_due"] (defScope s_law_numbers) := ⟨rfl, rfl, rfl, by decide +kernel, rfl, by decide +kernel, by decide +kernel⟩
def m_law_numbers_b1 : Stm := (sIf (tNot (tb (eCall f_law_whole (aCons (eVar 2) aNil)))) (sRet (eC (.bl false))) sNext)
def m_law_numbers : Stm := (sSeq (sIf (tOr (tNot (tb (e1 (vIsI .tuple) (eVar 0)))) (tb (e2 vNe (e1 vLen (eVar 0)) (e1 vLen (eVar 1))))) (sRet (eC (.bl false))) sNext) (sSeq (sFor (iB (eVar 0) itS) (tName 2) [2] m_law_numbers_b1) (sRet (e2 vEq (eVar 0) (eVar 1)))))
def f_law_numbers : List DV → M DV := fnM 3 m_law_numbers
theorem d_law_numbers {T : Tp} {X : Cx} {c : Cn} (hb : Blt T.mg) (F_law_whole : Fo T "_law_whole" 13 1 1 f_law_whole) (hX : XSt T X c N_law_numbers 1 (defScope s_law_numbers)) : PSs X (defBody s_law_numbers) (RS c m_law_numbers) :=
  (s_cons (s_if (PW.pt (t_or (t_not (t_val (c_isI .tuple hX.e.kk (hX.e.gl rfl) (hX.e.no hb.isinstance) (hX.e.gl rfl) (hX.e.no hb.tuple) (by decide +kernel) (c_toB (k_var hX.e 0 rfl (.inl rfl)))))) (t_or1 (t_ne hX.e.kk hX.e.u (c_toB (c_len hX.e.kk (hX.e.gl rfl) (hX.e.no hb.len) (c_toB (k_var hX.e 0 rfl (.inl rfl))))) (c_toB (c_len hX.e.kk (hX.e.gl rfl) (hX.e.no hb.len) (c_toB (k_var hX.e 1 rfl (.inl rfl))))))))) (s_one (s_ret c_bl)) s_nil) (s_cons (k_for [2] hX (i_seq hX.e.kk (k_var hX.e 0 rfl (.inl rfl))) (k_gn hX (i := 2) rfl (.inl rfl)) (s_one (s_if (t_not (t_val (c_call hX.e F_law_whole (by decide) (hX.e.gl rfl) (c_cons (k_var hX.e 2 rfl (.inl rfl)) c_nil)))) (s_one (s_ret c_bl)) s_nil))) (s_one (s_ret (c_eq hX.e.kk hX.e.u (c_toB (k_var hX.e 0 rfl (.inl rfl))) (c_toB (k_var hX.e 1 rfl (.inl rfl))))))))
abbrev s_law_forms : Stmt := topS 31
abbrev N_law_forms : List Str := ["_law_found_here"]
theorem sc_law_forms : FnScope N_law_forms [] (defScope s_law_forms) := ⟨rfl, rfl, rfl, by decide +kernel, rfl, by decide +kernel, by decide +kernel⟩
def m_law_forms : Stm := (sSeq (sSet 0 (eFrz (aCons (eTup (aCons (eC (.str (Str.ofString "given"))) (aCons (eC (.str (Str.ofString "n"))) aNil))) (aCons (eTup (aCons (eC (.str (Str.ofString "even"))) (aCons (eC (.str (Str.ofString "sn"))) aNil))) (aCons (eTup (aCons (eC (.str (Str.ofString "turn"))) (aCons (eC (.str (Str.ofString "ns"))) aNil))) (aCons (eTup (aCons (eC (.str (Str.ofString "cut"))) (aCons (eC (.str (Str.ofString "nnnnn"))) aNil))) (aCons (eTup (aCons (eC (.str (Str.ofString "drop"))) (aCons (eC (.str (Str.ofString "nnn"))) aNil))) (aCons (eTup (aCons (eC (.str (Str.ofString "wide"))) (aCons (eC (.str (Str.ofString "nn"))) aNil))) aNil)))))))) (sSeq (sSet 0 (e2 vAdd (eVar 0) (eFrz (aCons (eTup (aCons (eC (.str (Str.ofString "spread"))) (aCons (eC (.str (Str.ofString "ns"))) aNil))) (aCons (eTup (aCons (eC (.str (Str.ofString "shape"))) (aCons (eC (.str (Str.ofString "ns"))) aNil))) (aCons (eTup (aCons (eC (.str (Str.ofString "shift"))) (aCons (eC (.str (Str.ofString "nnnn"))) aNil))) (aCons (eTup (aCons (eC (.str (Str.ofString "one"))) (aCons (eC (.str (Str.ofString "1n"))) aNil))) (aCons (eTup (aCons (eC (.str (Str.ofString "both"))) (aCons (eC (.str (Str.ofString "2nn"))) aNil))) aNil)))))))) (sRet (e2 vAdd (eVar 0) (eFrz (aCons (eTup (aCons (eC (.str (Str.ofString "where"))) (aCons (eC (.str (Str.ofString "nnn"))) aNil))) (aCons (eTup (aCons (eC (.str (Str.ofString "fold"))) (aCons (eC (.str (Str.ofString "fnn"))) aNil))) (aCons (eTup (aCons (eC (.str (Str.ofString "run"))) (aCons (eC (.str (Str.ofString "fnn"))) aNil))) (aCons (eTup (aCons (eC (.str (Str.ofString "pick"))) (aCons (eC (.str (Str.ofString "nnn"))) aNil))) (aCons (eTup (aCons (eC (.str (Str.ofString "join"))) (aCons (eC (.str (Str.ofString "nnn"))) aNil))) aNil))))))))))
def f_law_forms : List DV → M DV := fnM 1 m_law_forms
theorem d_law_forms {T : Tp} {X : Cx} {c : Cn} (hb : Blt T.mg)  (hX : XSt T X c N_law_forms 0 (defScope s_law_forms)) : PSs X (defBody s_law_forms) (RS c m_law_forms) :=
  (s_cons (k_set hX (i := 0) rfl (.inl rfl) (c_frz (c_lst (c_cons (c_tup (c_cons c_str (c_cons c_str c_nil))) (c_cons (c_tup (c_cons c_str (c_cons c_str c_nil))) (c_cons (c_tup (c_cons c_str (c_cons c_str c_nil))) (c_cons (c_tup (c_cons c_str (c_cons c_str c_nil))) (c_cons (c_tup (c_cons c_str (c_cons c_str c_nil))) (c_cons (c_tup (c_cons c_str (c_cons c_str c_nil))) c_nil))))))))) (s_cons (k_set hX (i := 0) rfl (.inl rfl) (c_add hX.e.kk (c_toB (k_var hX.e 0 rfl (.inl rfl))) (c_oB (c_lst (c_cons (c_tup (c_cons c_str (c_cons c_str c_nil))) (c_cons (c_tup (c_cons c_str (c_cons c_str c_nil))) (c_cons (c_tup (c_cons c_str (c_cons c_str c_nil))) (c_cons (c_tup (c_cons c_str (c_cons c_str c_nil))) (c_cons (c_tup (c_cons c_str (c_cons c_str c_nil))) c_nil))))))))) (s_one (s_ret (c_add hX.e.kk (c_toB (k_var hX.e 0 rfl (.inl rfl))) (c_oB (c_lst (c_cons (c_tup (c_cons c_str (c_cons c_str c_nil))) (c_cons (c_tup (c_cons c_str (c_cons c_str c_nil))) (c_cons (c_tup (c_cons c_str (c_cons c_str c_nil))) (c_cons (c_tup (c_cons c_str (c_cons c_str c_nil))) (c_cons (c_tup (c_cons c_str (c_cons c_str c_nil))) c_nil))))))))))))
abbrev s_law_part : Stmt := topS 32
abbrev N_law_part : List Str := ["_law_row", "_law_form", "_law_folds", "_law_way", "_law_number", "_law_k"]
theorem sc_law_part : FnScope N_law_part ["_law_row", "_law_form"] (defScope s_law_part) := ⟨rfl, rfl, rfl, by decide +kernel, rfl, by decide +kernel, by decide +kernel⟩
def m_law_part_c1 : En → M (List DV) := (mLc [5] (iB (eCall f_law_taken (aCons (eVar 0) (aCons (eC (.int 10)) aNil))) itN) (tName 5) mYes (e2 vSub (eCall f_law_taken (aCons (eVar 0) (aCons (eC (.int 70)) aNil))) (eC (.int 3))))
def m_law_part : Stm := (sSeq (sIf (tb (e2 vEq (eVar 1) (eC (.str (Str.ofString "n"))))) (sSeq (sSet 3 (eCall f_law_taken (aCons (eVar 0) (aCons (eC (.int 4)) aNil)))) (sSeq (sSet 4 (eCall f_law_taken (aCons (eVar 0) (aCons (e2 vPow (eC (.int 10)) (eC (.int 12))) aNil)))) (sSeq (sIf (tb (e2 vLt (eVar 3) (eC (.int 2)))) (sRet (e2 vSub (e2 vMod (eVar 4) (eC (.int 50))) (eC (.int 9)))) sNext) (sRet (e2 vIdx (eFrz (aCons (eVar 4) (aCons (e2 vSub (eC (.int 0)) (eVar 4)) aNil))) (e2 vSub (eVar 3) (eC (.int 2)))))))) sNext) (sSeq (sIf (tb (e2 vEq (eVar 1) (eC (.str (Str.ofString "s"))))) (sRet (e1 vTup (eFrz m_law_part_c1))) sNext) (sSeq (sIf (tb (e2 vEq (eVar 1) (eC (.str (Str.ofString "1"))))) (sRet (e2 vIdx (eFrz (aCons (eC (.str (Str.ofString "minus"))) (aCons (eC (.str (Str.ofString "half"))) (aCons (eC (.str (Str.ofString "none"))) aNil)))) (eCall f_law_taken (aCons (eVar 0) (aCons (eC (.int 3)) aNil))))) sNext) (sSeq (sSet 2 (eFrz (aCons (eC (.str (Str.ofString "add"))) (aCons (eC (.str (Str.ofString "times"))) (aCons (eC (.str (Str.ofString "least"))) (aCons (eC (.str (Str.ofString "most"))) aNil)))))) (sSeq (sIf (tb (e2 vEq (eVar 1) (eC (.str (Str.ofString "f"))))) (sRet (e2 vIdx (eVar 2) (eCall f_law_taken (aCons (eVar 0) (aCons (eC (.int 4)) aNil))))) sNext) (sRet (e2 vIdx (e2 vAdd (eVar 2) (eFrz (aCons (eC (.str (Str.ofString "less"))) (aCons (eC (.str (Str.ofString "below"))) (aCons (eC (.str (Str.ofString "alike"))) aNil))))) (eCall f_law_taken (aCons (eVar 0) (aCons (eC (.int 7)) aNil))))))))))
def f_law_part : List DV → M DV := fnM 6 m_law_part
theorem d_law_part {T : Tp} {X : Cx} {c : Cn} (hb : Blt T.mg) (F_law_taken : Fo T "_law_taken" 12 1 2 f_law_taken) (hX : XSt T X c N_law_part 1 (defScope s_law_part)) : PSs X (defBody s_law_part) (RS c m_law_part) :=
  (s_cons (s_if (t_eq hX.e.kk hX.e.u (c_toB (k_var hX.e 1 rfl (.inl rfl))) (c_toB c_str)) (s_cons (k_set hX (i := 3) rfl (.inl rfl) (c_call hX.e F_law_taken (by decide) (hX.e.gl rfl) (c_cons (k_var hX.e 0 rfl (.inr (.inl rfl))) (c_cons c_int c_nil)))) (s_cons (k_set hX (i := 4) rfl (.inl rfl) (c_call hX.e F_law_taken (by decide) (hX.e.gl rfl) (c_cons (k_var hX.e 0 rfl (.inr (.inl rfl))) (c_cons (c_pow c_int c_int) c_nil)))) (s_cons (s_if (t_lt (k_var hX.e 3 rfl (.inl rfl)) c_int) (s_one (s_ret (c_sub (c_mod (k_var hX.e 4 rfl (.inl rfl)) c_int) c_int))) s_nil) (s_one (s_ret (c_idx hX.e.kk (c_oB (c_lst (c_cons (k_var hX.e 4 rfl (.inl rfl)) (c_cons (c_sub c_int (k_var hX.e 4 rfl (.inl rfl))) c_nil)))) (c_sub (k_var hX.e 3 rfl (.inl rfl)) c_int))))))) s_nil) (s_cons (s_if (t_eq hX.e.kk hX.e.u (c_toB (k_var hX.e 1 rfl (.inl rfl))) (c_toB c_str)) (s_one (s_ret (c_tupOf hX.e.kk (hX.e.gl rfl) (hX.e.no hb.tuple) (c_oB (k_lc hX.e [("_law_k", 5)] (i_rng (hX.e.gl rfl) (hX.e.no hb.range) (c_call hX.e F_law_taken (by decide) (hX.e.gl rfl) (c_cons (k_var hX.e 0 rfl (.inr (.inl rfl))) (c_cons c_int c_nil)))) (by decide +kernel) (fun X' b1 => (k_gnB b1 (i := 5) rfl (.inl rfl) (.inr rfl))) (fun X' b1 => ts_nil) (fun X' b1 => (c_sub (c_call b1.e F_law_taken (by decide) (b1.e.gl rfl) (c_cons (k_var b1.e 0 rfl (.inr (.inl rfl))) (c_cons c_int c_nil))) c_int))))))) s_nil) (s_cons (s_if (t_eq hX.e.kk hX.e.u (c_toB (k_var hX.e 1 rfl (.inl rfl))) (c_toB c_str)) (s_one (s_ret (c_idx hX.e.kk (c_oB (c_lst (c_cons c_str (c_cons c_str (c_cons c_str c_nil))))) (c_call hX.e F_law_taken (by decide) (hX.e.gl rfl) (c_cons (k_var hX.e 0 rfl (.inr (.inl rfl))) (c_cons c_int c_nil)))))) s_nil) (s_cons (k_set hX (i := 2) rfl (.inl rfl) (c_frz (c_lst (c_cons c_str (c_cons c_str (c_cons c_str (c_cons c_str c_nil))))))) (s_cons (s_if (t_eq hX.e.kk hX.e.u (c_toB (k_var hX.e 1 rfl (.inl rfl))) (c_toB c_str)) (s_one (s_ret (c_idx hX.e.kk (c_toB (k_var hX.e 2 rfl (.inl rfl))) (c_call hX.e F_law_taken (by decide) (hX.e.gl rfl) (c_cons (k_var hX.e 0 rfl (.inr (.inl rfl))) (c_cons c_int c_nil)))))) s_nil) (s_one (s_ret (c_idx hX.e.kk (c_toB (c_add hX.e.kk (c_toB (k_var hX.e 2 rfl (.inl rfl))) (c_oB (c_lst (c_cons c_str (c_cons c_str (c_cons c_str c_nil))))))) (c_call hX.e F_law_taken (by decide) (hX.e.gl rfl) (c_cons (k_var hX.e 0 rfl (.inr (.inl rfl))) (c_cons c_int c_nil)))))))))))
abbrev s_law_word : Stmt := topS 33
abbrev N_law_word : List Str := ["_law_part_here", "_law_number"]
theorem sc_law_word : FnScope N_law_word ["_law_part_here"] (defScope s_law_word) := ⟨rfl, rfl, rfl, by decide +kernel, rfl, by decide +kernel, by decide +kernel⟩
def m_law_word_c1 : En → M (List DV) := (mLc [1] (iB (eVar 0) itS) (tName 1) mYes (e1 vStr (eVar 1)))
def m_law_word : Stm := (sSeq (sIf (tNot (tb (e1 (vIsI .tuple) (eVar 0)))) (sRet (e1 vStr (eVar 0))) sNext) (sSeq (sIf (tb (e2 vEq (eVar 0) (eTup aNil))) (sRet (eC (.str (Str.ofString "-")))) sNext) (sRet (iT2 (eC (.str (Str.ofString ","))) (eFrz m_law_word_c1) vJoin))))
def f_law_word : List DV → M DV := fnM 2 m_law_word
theorem d_law_word {T : Tp} {X : Cx} {c : Cn} (hb : Blt T.mg)  (hX : XSt T X c N_law_word 0 (defScope s_law_word)) : PSs X (defBody s_law_word) (RS c m_law_word) :=
  (s_cons (s_if (t_not (t_val (c_isI .tuple hX.e.kk (hX.e.gl rfl) (hX.e.no hb.isinstance) (hX.e.gl rfl) (hX.e.no hb.tuple) (by decide +kernel) (c_toB (k_var hX.e 0 rfl (.inl rfl)))))) (s_one (s_ret (c_strOf (hX.e.gl rfl) (hX.e.no hb.str) (k_var hX.e 0 rfl (.inl rfl))))) s_nil) (s_cons (s_if (t_eq hX.e.kk hX.e.u (c_toB (k_var hX.e 0 rfl (.inl rfl))) (c_toB (c_tup c_nil))) (s_one (s_ret c_str)) s_nil) (s_one (s_ret (c_join hX.e.kk c_str (c_oB (k_lc hX.e [("_law_number", 1)] (i_seq hX.e.kk (k_var hX.e 0 rfl (.inl rfl))) (by decide +kernel) (fun X' b1 => (k_gnB b1 (i := 1) rfl (.inl rfl) (.inr rfl))) (fun X' b1 => ts_nil) (fun X' b1 => (c_strOf (b1.e.gl rfl) (b1.e.no hb.str) (k_var b1.e 1 rfl (.inl rfl)))))))))))
abbrev s_law_same : Stmt := topS 34
abbrev N_law_same : List Str := ["_law_found_here", "_law_program", "_law_k", "_law_one", "_law_due"]
theorem sc_law_same : FnScope N_law_same ["_law_found_here", "_law_program"] (defScope s_law_same) := ⟨rfl, rfl, rfl, by decide +kernel, rfl, by decide +kernel, by decide +kernel⟩
def m_law_same_b1 : Stm := (sSeq (sIf (tAnd (tb (e1 (vIsI .tuple) (eVar 4))) (tNot (tb (eCall f_law_numbers (aCons (eVar 3) (aCons (eVar 4) aNil)))))) (sRet (eC (.bl false))) sNext) (sSeq (sIf (tAnd (tb (e1 (vIsI .str) (eVar 4))) (tNot (tAnd (tb (e1 (vIsI .str) (eVar 3))) (tb (e2 vEq (eVar 3) (eVar 4)))))) (sRet (eC (.bl false))) sNext) (sIf (tAnd (tb (eCall f_law_whole (aCons (eVar 4) aNil))) (tNot (tAnd (tb (eCall f_law_whole (aCons (eVar 3) aNil))) (tb (e2 vEq (eVar 3) (eVar 4)))))) (sRet (eC (.bl false))) sNext)))
def m_law_same_b2 : Stm := (sSeq (sIf (tOr (tNot (tb (e1 (vIsI .tuple) (e2 vIdx (eVar 0) (eVar 2))))) (tb (e2 vNe (e1 vLen (e2 vIdx (eVar 0) (eVar 2))) (e1 vLen (e2 vIdx (eVar 1) (eVar 2)))))) (sRet (eC (.bl false))) sNext) (sFor (iB2 (e2 vIdx (eVar 0) (eVar 2)) (e2 vIdx (eVar 1) (eVar 2)) itZM) (tTup [3, 4]) [3, 4] m_law_same_b1))
def m_law_same : Stm := (sSeq (sIf (tOr (tNot (tb (e1 (vIsI .list) (eVar 0)))) (tb (e2 vNe (e1 vLen (eVar 0)) (e1 vLen (eVar 1))))) (sRet (eC (.bl false))) sNext) (sSeq (sFor (iB (e1 vLen (eVar 1)) itN) (tName 2) [2, 3, 4] m_law_same_b2) (sRet (eC (.bl true)))))
def f_law_same : List DV → M DV := fnM 5 m_law_same
theorem d_law_same {T : Tp} {X : Cx} {c : Cn} (hb : Blt T.mg) (F_law_whole : Fo T "_law_whole" 13 1 1 f_law_whole) (F_law_numbers : Fo T "_law_numbers" 14 2 2 f_law_numbers) (hX : XSt T X c N_law_same 2 (defScope s_law_same)) : PSs X (defBody s_law_same) (RS c m_law_same) :=
  (s_cons (s_if (PW.pt (t_or (t_not (t_val (c_isI .list hX.e.kk (hX.e.gl rfl) (hX.e.no hb.isinstance) (hX.e.gl rfl) (hX.e.no hb.list) (by decide +kernel) (c_toB (k_var hX.e 0 rfl (.inl rfl)))))) (t_or1 (t_ne hX.e.kk hX.e.u (c_toB (c_len hX.e.kk (hX.e.gl rfl) (hX.e.no hb.len) (c_toB (k_var hX.e 0 rfl (.inl rfl))))) (c_toB (c_len hX.e.kk (hX.e.gl rfl) (hX.e.no hb.len) (c_toB (k_var hX.e 1 rfl (.inl rfl))))))))) (s_one (s_ret c_bl)) s_nil) (s_cons (k_for [2, 3, 4] hX (i_rng (hX.e.gl rfl) (hX.e.no hb.range) (c_len hX.e.kk (hX.e.gl rfl) (hX.e.no hb.len) (c_toB (k_var hX.e 1 rfl (.inl rfl))))) (k_gn hX (i := 2) rfl (.inl rfl)) (s_cons (s_if (PW.pt (t_or (t_not (t_val (c_isI .tuple hX.e.kk (hX.e.gl rfl) (hX.e.no hb.isinstance) (hX.e.gl rfl) (hX.e.no hb.tuple) (by decide +kernel) (c_toB (c_idx hX.e.kk (c_toB (k_var hX.e 0 rfl (.inl rfl))) (k_var hX.e 2 rfl (.inl rfl))))))) (t_or1 (t_ne hX.e.kk hX.e.u (c_toB (c_len hX.e.kk (hX.e.gl rfl) (hX.e.no hb.len) (c_toB (c_idx hX.e.kk (c_toB (k_var hX.e 0 rfl (.inl rfl))) (k_var hX.e 2 rfl (.inl rfl)))))) (c_toB (c_len hX.e.kk (hX.e.gl rfl) (hX.e.no hb.len) (c_toB (c_idx hX.e.kk (c_toB (k_var hX.e 1 rfl (.inl rfl))) (k_var hX.e 2 rfl (.inl rfl)))))))))) (s_one (s_ret c_bl)) s_nil) (s_one (k_for [3, 4] hX (i_zipM hX.e.kk (hX.e.gl rfl) (hX.e.no hb.zip) (c_idx hX.e.kk (c_toB (k_var hX.e 0 rfl (.inl rfl))) (k_var hX.e 2 rfl (.inl rfl))) (c_idx hX.e.kk (c_toB (k_var hX.e 1 rfl (.inl rfl))) (k_var hX.e 2 rfl (.inl rfl)))) (g_tup hX.e.kk hX.e.calm (k_gs hX (i := 3) rfl (.inl rfl) (k_gs hX (i := 4) rfl (.inl rfl) gs_nil))) (s_cons (s_if (PW.pt (t_and (t_val (c_isI .tuple hX.e.kk (hX.e.gl rfl) (hX.e.no hb.isinstance) (hX.e.gl rfl) (hX.e.no hb.tuple) (by decide +kernel) (c_toB (k_var hX.e 4 rfl (.inl rfl))))) (t_and1 (t_not (t_val (c_call hX.e F_law_numbers (by decide) (hX.e.gl rfl) (c_cons (k_var hX.e 3 rfl (.inl rfl)) (c_cons (k_var hX.e 4 rfl (.inl rfl)) c_nil)))))))) (s_one (s_ret c_bl)) s_nil) (s_cons (s_if (PW.pt (t_and (t_val (c_isI .str hX.e.kk (hX.e.gl rfl) (hX.e.no hb.isinstance) (hX.e.gl rfl) (hX.e.no hb.str) (by decide +kernel) (c_toB (k_var hX.e 4 rfl (.inl rfl))))) (t_and1 (t_not (PW.pt (t_and (t_val (c_isI .str hX.e.kk (hX.e.gl rfl) (hX.e.no hb.isinstance) (hX.e.gl rfl) (hX.e.no hb.str) (by decide +kernel) (c_toB (k_var hX.e 3 rfl (.inl rfl))))) (t_and1 (t_eq hX.e.kk hX.e.u (c_toB (k_var hX.e 3 rfl (.inl rfl))) (c_toB (k_var hX.e 4 rfl (.inl rfl))))))))))) (s_one (s_ret c_bl)) s_nil) (s_one (s_if (PW.pt (t_and (t_val (c_call hX.e F_law_whole (by decide) (hX.e.gl rfl) (c_cons (k_var hX.e 4 rfl (.inl rfl)) c_nil))) (t_and1 (t_not (PW.pt (t_and (t_val (c_call hX.e F_law_whole (by decide) (hX.e.gl rfl) (c_cons (k_var hX.e 3 rfl (.inl rfl)) c_nil))) (t_and1 (t_eq hX.e.kk hX.e.u (c_toB (k_var hX.e 3 rfl (.inl rfl))) (c_toB (k_var hX.e 4 rfl (.inl rfl))))))))))) (s_one (s_ret c_bl)) s_nil)))))))) (s_one (s_ret c_bl))))
abbrev s_law_spoilt : Stmt := topS 35
abbrev N_law_spoilt : List Str := ["_law_words", "_law_form", "_law_way", "_law_at", "_law_spot", "_law_bad", "_law_some"]
theorem sc_law_spoilt : FnScope N_law_spoilt ["_law_words", "_law_form", "_law_way", "_law_at"] (defScope s_law_spoilt) := ⟨rfl, rfl, rfl, by decide +kernel, rfl, by decide +kernel, by decide +kernel⟩
def m_law_spoilt_r11 : Stm := (sSeq (sFrz 5) (sRet (eVar 5)))
def m_law_spoilt_r10 : Stm := (sSeq (sIf (tb (e2 vEq (eVar 2) (eC (.int 6)))) (sSeq (sSetI 5 (e2 vIdx (eFrz (aCons (eC (.str (Str.ofString "1-"))) (aCons (eC (.str (Str.ofString "00"))) (aCons (eC (.str (Str.ofString "-01"))) (aCons (eC (.str (Str.ofString "-"))) (aCons (eC (.str (Str.ofString "1 2"))) (aCons (eC (.str (Str.ofString "ADD"))) (aCons (eC (.str (Str.ofString "0x1"))) aNil)))))))) (e2 vMod (e2 vDiv (eVar 3) (eC (.int 7))) (eC (.int 7)))) (eVar 4)) (sIf (tAnd (tb (e2 vEq (e2 vIdx (eVar 1) (e2 vSub (eVar 4) (eC (.int 1)))) (eC (.str (Str.ofString "s"))))) (tb (e2 vEq (e2 vIdx (eBor 5) (eVar 4)) (eC (.str (Str.ofString "-")))))) (sSetI 5 (eC (.str (Str.ofString "--"))) (eVar 4)) sNext)) sNext) m_law_spoilt_r11)
def m_law_spoilt_r9 : Stm := (sSeq (sSetI 5 (e2 vIdx (eVar 6) (e2 vMod (e2 vDiv (eVar 3) (eC (.int 7))) (eC (.int 14)))) (eVar 4)) m_law_spoilt_r10)
def m_law_spoilt_r8 : Stm := (sSeq (sSet 6 (eFrz (aCons (eC (.str (Str.ofString "x"))) (aCons (eC (.str (Str.ofString "1x"))) (aCons (eC (.str (Str.ofString "--1"))) (aCons (eC (.str (Str.ofString "1_0"))) (aCons (eC (.str (Str.ofString "1.0"))) (aCons (eC (.str (Str.ofString "adds"))) (aCons (eC (.str (Str.ofString "07"))) (aCons (eC (.str (Str.ofString "-0"))) (aCons (e2 vMulS (eC (.str (Str.ofString "1"))) (eC (.int 13))) (aCons (eC (.str (Str.ofString "+1"))) (aCons (eC (.str (Str.ofString ""))) (aCons (eC (.str (Str.ofString "1,"))) (aCons (eC (.str (Str.ofString ",1"))) (aCons (eC (.str (Str.ofString "1\t2"))) aNil)))))))))))))))) m_law_spoilt_r9)
def m_law_spoilt_r7 : Stm := (sSeq (sIf (tb (e2 vEq (eVar 2) (eC (.int 5)))) (sRet (e2 vIdx (eFrz (aCons (e2 vAdd (eBor 5) (eFrz (aCons (eC (.str (Str.ofString ""))) aNil))) (aCons (e2 vAdd (eFrz (aCons (e2 vAdd (e2 vIdx (eBor 5) (eC (.int 0))) (eC (.str (Str.ofString "\t")))) aNil)) (eCut (eBor 5) (oSome (eC (.int 1))) oNone)) aNil))) (e2 vMod (eVar 3) (eC (.int 2))))) sNext) m_law_spoilt_r8)
def m_law_spoilt_r6 : Stm := (sSeq (sIf (tb (e2 vEq (eVar 2) (eC (.int 4)))) (sRet (e2 vAdd (e2 vAdd (eCut (eBor 5) oNone (oSome (eVar 4))) (eFrz (aCons (eC (.str (Str.ofString ""))) aNil))) (eCut (eBor 5) (oSome (eVar 4)) oNone))) sNext) m_law_spoilt_r7)
def m_law_spoilt_r5 : Stm := (sSeq (sIf (tb (e2 vEq (eVar 2) (eC (.int 3)))) (sRet (eFrz (aCons (eC (.str (Str.ofString ""))) aNil))) sNext) m_law_spoilt_r6)
def m_law_spoilt_r4 : Stm := (sSeq (sIf (tb (e2 vEq (eVar 2) (eC (.int 2)))) (sRet (e2 vAdd (eFrz (aCons (e2 vIdx (eFrz (aCons (eC (.str (Str.ofString "givens"))) (aCons (eC (.str (Str.ofString "Even"))) (aCons (eC (.str (Str.ofString "cuts"))) (aCons (eC (.str (Str.ofString "-"))) (aCons (eC (.str (Str.ofString "line"))) (aCons (eC (.str (Str.ofString ""))) aNil))))))) (e2 vMod (eVar 3) (eC (.int 6)))) aNil)) (eCut (eBor 5) (oSome (eC (.int 1))) oNone))) sNext) m_law_spoilt_r5)
def m_law_spoilt_r3 : Stm := (sSeq (sIf (tb (e2 vEq (eVar 2) (eC (.int 1)))) (sRet (eCut (eBor 5) oNone (oSome (e1 vNeg (eC (.int 1)))))) sNext) m_law_spoilt_r4)
def m_law_spoilt_r2 : Stm := (sSeq (sIf (tb (e2 vEq (eVar 2) (eC (.int 0)))) (sRet (e2 vAdd (eBor 5) (eFrz (aCons (eC (.str (Str.ofString "1"))) aNil)))) sNext) m_law_spoilt_r3)
def m_law_spoilt_r1 : Stm := (sSeq (sSetO 5 (iB (eVar 0) lLst)) m_law_spoilt_r2)
def m_law_spoilt : Stm := (sSeq (sSet 4 (e2 vAdd (eC (.int 1)) (e2 vMod (eVar 3) (e1 vLen (eVar 1))))) m_law_spoilt_r1)
def f_law_spoilt : List DV → M DV := fnM 7 m_law_spoilt
theorem d_law_spoilt {T : Tp} {X : Cx} {c : Cn} (hb : Blt T.mg)  (hX : XSt T X c N_law_spoilt 0 (defScope s_law_spoilt)) : PSs X (defBody s_law_spoilt) (RS c m_law_spoilt) :=
  (s_cons (k_set hX (i := 4) rfl (.inl rfl) (c_add hX.e.kk (c_toB c_int) (c_toB (c_mod (k_var hX.e 3 rfl (.inl rfl)) (c_len hX.e.kk (hX.e.gl rfl) (hX.e.no hb.len) (c_toB (k_var hX.e 1 rfl (.inl rfl)))))))) (s_cons (k_setO hX (i := 5) rfl (.inl rfl) (c_listOf hX.e.kk (hX.e.gl rfl) (hX.e.no hb.list) (c_toB (k_var hX.e 0 rfl (.inl rfl))))) (s_cons (s_if (t_eq hX.e.kk hX.e.u (c_toB (k_var hX.e 2 rfl (.inl rfl))) (c_toB c_int)) (s_one (s_ret (c_add hX.e.kk (k_bor hX.e 5 rfl (.inl rfl)) (c_oB (c_lst (c_cons c_str c_nil)))))) s_nil) (s_cons (s_if (t_eq hX.e.kk hX.e.u (c_toB (k_var hX.e 2 rfl (.inl rfl))) (c_toB c_int)) (s_one (s_ret (c_cut hX.e.kk (k_bor hX.e 5 rfl (.inl rfl)) c_pn (c_ps (c_neg c_int))))) s_nil) (s_cons (s_if (t_eq hX.e.kk hX.e.u (c_toB (k_var hX.e 2 rfl (.inl rfl))) (c_toB c_int)) (s_one (s_ret (c_add hX.e.kk (c_oB (c_lst (c_cons (c_idx hX.e.kk (c_oB (c_lst (c_cons c_str (c_cons c_str (c_cons c_str (c_cons c_str (c_cons c_str (c_cons c_str c_nil)))))))) (c_mod (k_var hX.e 3 rfl (.inl rfl)) c_int)) c_nil))) (c_toB (c_cut hX.e.kk (k_bor hX.e 5 rfl (.inl rfl)) (c_ps c_int) c_pn))))) s_nil) (s_cons (s_if (t_eq hX.e.kk hX.e.u (c_toB (k_var hX.e 2 rfl (.inl rfl))) (c_toB c_int)) (s_one (s_ret (c_frz (c_lst (c_cons c_str c_nil))))) s_nil) (s_cons (s_if (t_eq hX.e.kk hX.e.u (c_toB (k_var hX.e 2 rfl (.inl rfl))) (c_toB c_int)) (s_one (s_ret (c_add hX.e.kk (c_toB (c_add hX.e.kk (c_toB (c_cut hX.e.kk (k_bor hX.e 5 rfl (.inl rfl)) c_pn (c_ps (k_var hX.e 4 rfl (.inl rfl))))) (c_oB (c_lst (c_cons c_str c_nil))))) (c_toB (c_cut hX.e.kk (k_bor hX.e 5 rfl (.inl rfl)) (c_ps (k_var hX.e 4 rfl (.inl rfl))) c_pn))))) s_nil) (s_cons (s_if (t_eq hX.e.kk hX.e.u (c_toB (k_var hX.e 2 rfl (.inl rfl))) (c_toB c_int)) (s_one (s_ret (c_idx hX.e.kk (c_oB (c_lst (c_cons (c_add hX.e.kk (k_bor hX.e 5 rfl (.inl rfl)) (c_oB (c_lst (c_cons c_str c_nil)))) (c_cons (c_add hX.e.kk (c_oB (c_lst (c_cons (c_add hX.e.kk (c_toB (c_idx hX.e.kk (k_bor hX.e 5 rfl (.inl rfl)) c_int)) (c_toB c_str)) c_nil))) (c_toB (c_cut hX.e.kk (k_bor hX.e 5 rfl (.inl rfl)) (c_ps c_int) c_pn))) c_nil)))) (c_mod (k_var hX.e 3 rfl (.inl rfl)) c_int)))) s_nil) (s_cons (k_set hX (i := 6) rfl (.inl rfl) (c_frz (c_lst (c_cons c_str (c_cons c_str (c_cons c_str (c_cons c_str (c_cons c_str (c_cons c_str (c_cons c_str (c_cons c_str (c_cons (c_mulS c_str c_int) (c_cons c_str (c_cons c_str (c_cons c_str (c_cons c_str (c_cons c_str c_nil))))))))))))))))) (s_cons (k_setI hX (s0 := 5) rfl (.inl rfl) (c_idx hX.e.kk (c_toB (k_var hX.e 6 rfl (.inl rfl))) (c_mod (c_div (k_var hX.e 3 rfl (.inl rfl)) c_int) c_int)) (k_var hX.e 4 rfl (.inl rfl))) (s_cons (s_if (t_eq hX.e.kk hX.e.u (c_toB (k_var hX.e 2 rfl (.inl rfl))) (c_toB c_int)) (s_cons (k_setI hX (s0 := 5) rfl (.inl rfl) (c_idx hX.e.kk (c_oB (c_lst (c_cons c_str (c_cons c_str (c_cons c_str (c_cons c_str (c_cons c_str (c_cons c_str (c_cons c_str c_nil))))))))) (c_mod (c_div (k_var hX.e 3 rfl (.inl rfl)) c_int) c_int)) (k_var hX.e 4 rfl (.inl rfl))) (s_one (s_if (PW.pt (t_and (t_eq hX.e.kk hX.e.u (c_toB (c_idx hX.e.kk (c_toB (k_var hX.e 1 rfl (.inl rfl))) (c_sub (k_var hX.e 4 rfl (.inl rfl)) c_int))) (c_toB c_str)) (t_and1 (t_eq hX.e.kk hX.e.u (c_toB (c_idx hX.e.kk (k_bor hX.e 5 rfl (.inl rfl)) (k_var hX.e 4 rfl (.inl rfl)))) (c_toB c_str))))) (s_one (k_setI hX (s0 := 5) rfl (.inl rfl) c_str (k_var hX.e 4 rfl (.inl rfl)))) s_nil))) s_nil) (s_one (s_frz (i := 5) (s_ret (k_var hX.e 5 rfl (.inl rfl))))))))))))))))
abbrev s_law_found : Stmt := topS 36
abbrev N_law_found : List Str := ["_law_text", "e"]
theorem sc_law_found : FnScope N_law_found ["_law_text"] (defScope s_law_found) := ⟨rfl, rfl, rfl, by decide +kernel, rfl, by decide +kernel, by decide +kernel⟩
def ck_NoText (i : Nat) : Option Bool := [(0, false), (1, false), (2, false), (3, false), (4, true)].lookup i
def m_law_found : Stm := (sTry ck_NoText 1 (sRet (eCall f_read_program (aCons (eVar 0) aNil))) (sSeq (sIf (tOr (tb (eXis 1 [(4, false)])) (tOr (tb (eXis 1 [(4, false)])) (tOr (tb (eXis 1 [(4, false)])) (tNot (tb (eCallH f_law_whole (aCons (eXf 1 4 0) aNil))))))) (sRet (eC .non)) sNext) (sRet (eXf 1 4 0))))
def f_law_found : List DV → M DV := fnM 2 m_law_found
theorem d_law_found {T : Tp} {X : Cx} {c : Cn} (hb : Blt T.mg) (F_read_program : Fo T "read_program" 11 5 1 f_read_program) (FH_law_whole : FoH T "_law_whole" 13 1 1 f_law_whole) (hK_NoText : CkOk T (.ref (T.g.cA 4)) ck_NoText) (hM_BadLine : T.mg "BadLine" = some (.ref (T.g.cA 2))) (hM_NoCell : T.mg "NoCell" = some (.ref (T.g.cA 3))) (hM_NoTable : T.mg "NoTable" = some (.ref (T.g.cA 1))) (hM_NoText : T.mg "NoText" = some (.ref (T.g.cA 4))) (hXf_NoText_row : Xf T 4 "row" 0) (hXi_BadLine_4 : XiL T [(4, false)] (.ref (T.g.cA 2))) (hXi_NoCell_4 : XiL T [(4, false)] (.ref (T.g.cA 3))) (hXi_NoTable_4 : XiL T [(4, false)] (.ref (T.g.cA 1))) (hX : XSt T X c N_law_found 5 (defScope s_law_found)) : PSs X (defBody s_law_found) (RS c m_law_found) :=
  (s_one (s_try hX (i := 1) rfl rfl (hX.e.gl rfl) hM_NoText hK_NoText (fun X' c' hX => (s_one (s_ret (c_call hX.e F_read_program (by decide) (hX.e.gl rfl) (c_cons (k_var hX.e 0 rfl (.inl rfl)) c_nil))))) (fun X' c' hH => (s_cons (s_if (PW.pt (t_or (t_val (k_xis hH 1 rfl (.inl rfl) (hH.gl rfl) (hH.no hb.isinstance) (pe_glob (v := .ref (T.g.cA 1)) (hH.gl rfl) (by rw [hH.pm]; exact hM_NoTable) rfl) (fun u r => r) hXi_NoTable_4)) (t_or (t_val (k_xis hH 1 rfl (.inl rfl) (hH.gl rfl) (hH.no hb.isinstance) (pe_glob (v := .ref (T.g.cA 3)) (hH.gl rfl) (by rw [hH.pm]; exact hM_NoCell) rfl) (fun u r => r) hXi_NoCell_4)) (t_or (t_val (k_xis hH 1 rfl (.inl rfl) (hH.gl rfl) (hH.no hb.isinstance) (pe_glob (v := .ref (T.g.cA 2)) (hH.gl rfl) (by rw [hH.pm]; exact hM_BadLine) rfl) (fun u r => r) hXi_BadLine_4)) (t_or1 (t_not (t_val (c_callH hH FH_law_whole (by decide) (hH.gl rfl) (c_cons (k_xf hH 1 rfl (.inl rfl) hXf_NoText_row) c_nil))))))))) (s_one (s_ret c_non)) s_nil) (s_one (s_ret (k_xf hH 1 rfl (.inl rfl) hXf_NoText_row)))))))
abbrev s_law_refused : Stmt := topS 37
abbrev N_law_refused : List Str := ["_law_text", "e"]
theorem sc_law_refused : FnScope N_law_refused ["_law_text"] (defScope s_law_refused) := ⟨rfl, rfl, rfl, by decide +kernel, rfl, by decide +kernel, by decide +kernel⟩
def ck_LoomError (i : Nat) : Option Bool := [(0, true), (1, true), (2, true), (3, true), (4, true)].lookup i
def m_law_refused : Stm := (sSeq (sTry ck_LoomError 1 (sExpr (eCall f_read_program (aCons (eVar 0) aNil))) (sRet (eXis 1 [(0, true), (1, true), (2, true), (3, true), (4, true)]))) (sRet (eC (.bl false))))
def f_law_refused : List DV → M DV := fnM 2 m_law_refused
theorem d_law_refused {T : Tp} {X : Cx} {c : Cn} (hb : Blt T.mg) (F_read_program : Fo T "read_program" 11 5 1 f_read_program) (hK_LoomError : CkOk T (.ref (T.g.cA 0)) ck_LoomError) (hM_LoomError : T.mg "LoomError" = some (.ref (T.g.cA 0))) (hXi_ValueError_0_1_2_3_4 : XiL T [(0, true), (1, true), (2, true), (3, true), (4, true)] (.type "ValueError")) (hX : XSt T X c N_law_refused 5 (defScope s_law_refused)) : PSs X (defBody s_law_refused) (RS c m_law_refused) :=
  (s_cons (s_try hX (i := 1) rfl rfl (hX.e.gl rfl) hM_LoomError hK_LoomError (fun X' c' hX => (s_one (s_expr (c_call hX.e F_read_program (by decide) (hX.e.gl rfl) (c_cons (k_var hX.e 0 rfl (.inl rfl)) c_nil))))) (fun X' c' hH => (s_one (s_ret (k_xis hH 1 rfl (.inl rfl) (hH.gl rfl) (hH.no hb.isinstance) (pe_bltn (v := .ty "ValueError") (hH.gl rfl) (hH.no hb.ValueError) (by decide +kernel) rfl) (fun u r => r) hXi_ValueError_0_1_2_3_4))))) (s_one (s_ret c_bl)))
abbrev s_law : Stmt := topS 38
abbrev N_law : List Str := ["_law_script", "_law_row", "_law_way", "_law_at", "_law_program", "_law_rows", "_law_forms_here", "_law_k", "_law_bad", "_law_text", "_law_form", "_law_words", "_law_part_here", "_law_one"]
theorem sc_law : FnScope N_law ["_law_script"] (defScope s_law) := ⟨rfl, rfl, rfl, by decide +kernel, rfl, by decide +kernel, by decide +kernel⟩
def m_law_c1 : En → M (List DV) := (mLc [13] (iB (e2 vIdx (eVar 10) (eC (.int 1))) itT) (tName 13) mYes (eCall f_law_part (aCons (eVar 1) (aCons (eVar 13) aNil))))
def m_law_c2 : En → M (List DV) := (mLc [12] (iB (e2 vIdx (eBor 4) (eVar 7)) itS) (tName 12) mYes (eCall f_law_word (aCons (eVar 12) aNil)))
def m_law_b1 : Stm := (sSeq (sSet 10 (e2 vIdx (eCall f_law_forms aNil) (eCall f_law_taken (aCons (eVar 1) (aCons (eC (.int 16)) aNil))))) (sSeq (sApp 4 (e1 vTup (e2 vAdd (eFrz (aCons (e2 vIdx (eVar 10) (eC (.int 0))) aNil)) (eFrz m_law_c1)))) (sSeq (sApp 5 (eFrz m_law_c2)) (sApp 6 (e2 vIdx (eVar 10) (eC (.int 1)))))))
def m_law_c3 : En → M (List DV) := (mLc [11] (iB (eVar 5) itS) (tName 11) mYes (iT2 (eC (.str (Str.ofString " "))) (eVar 11) vJoin))
def m_law_c4 : En → M (List DV) := (mLc [11] (iB (eVar 5) itS) (tName 11) mYes (iT2 (eC (.str (Str.ofString " "))) (eVar 11) vJoin))
def m_law_r12 : Stm := (sRet (eAnd (e2 vEq (eCall f_law_found (aCons (eVar 9) aNil)) (eVar 8)) (eCall f_law_refused (aCons (eVar 9) aNil))))
def m_law_r11 : Stm := (sSeq (sSeq (sFrz 5) (sSet 9 (iT2 (eC (.str (Str.ofString "\n"))) (eFrz m_law_c4) vJoin))) m_law_r12)
def m_law_r10 : Stm := (sSeq (sIf (tAnd (tb (e2 vEq (e2 vMod (eVar 3) (eC (.int 3))) (eC (.int 0)))) (tb (e2 vLt (e2 vAdd (eVar 8) (eC (.int 1))) (e1 vLen (eBor 5))))) (sSetI 5 (eFrz (aCons (eC (.str (Str.ofString ""))) aNil)) (e1 vNeg (eC (.int 1)))) sNext) m_law_r11)
def m_law_r9 : Stm := (sSeq (sSetI 5 (eCall f_law_spoilt (aCons (e2 vIdx (eBor 5) (eVar 8)) (aCons (e2 vIdx (eBor 6) (eVar 8)) (aCons (eVar 2) (aCons (e2 vMod (eVar 3) (eC (.int 98))) aNil))))) (eVar 8)) m_law_r10)
def m_law_r8 : Stm := (sSeq (sSet 8 (e2 vMod (e2 vDiv (eVar 3) (eC (.int 100))) (e1 vLen (eBor 5)))) m_law_r9)
def m_law_r7 : Stm := (sSeq (sIf (tb (e2 vGt (eVar 2) (eC (.int 7)))) (sSeq (sFrz 5) (sSeq (sFrz 4) (sRet (eCall f_law_same (aCons (eCall f_read_program (aCons (iT2 (eC (.str (Str.ofString "\n"))) (eFrz m_law_c3) vJoin) aNil)) (aCons (eVar 4) aNil)))))) sNext) m_law_r8)
def m_law_r6 : Stm := (sSeq (sFor (iB (e2 vAdd (eC (.int 1)) (eCall f_law_taken (aCons (eVar 1) (aCons (eC (.int 5)) aNil)))) itN) (tName 7) [7, 10] m_law_b1) m_law_r7)
def m_law_r5 : Stm := (sSeq (sSetO 6 aNil) m_law_r6)
def m_law_r4 : Stm := (sSeq (sSetO 5 aNil) m_law_r5)
def m_law_r3 : Stm := (sSeq (sSetO 4 aNil) m_law_r4)
def m_law_r2 : Stm := (sSeq (sSet 3 (eCall f_law_taken (aCons (eVar 1) (aCons (eC (.int 1000003)) aNil)))) m_law_r3)
def m_law_r1 : Stm := (sSeq (sSet 2 (eCall f_law_taken (aCons (eVar 1) (aCons (eC (.int 10)) aNil)))) m_law_r2)
def m_law : Stm := (sSeq (sSet 1 (eNew (aCons (eVar 0) (aCons (eC (.int 0)) aNil)))) m_law_r1)
def f_law : List DV → M DV := fnM 14 m_law
theorem d_law {T : Tp} {X : Cx} {c : Cn} (hb : Blt T.mg) (F_read_program : Fo T "read_program" 11 5 1 f_read_program) (F_law_taken : Fo T "_law_taken" 12 1 2 f_law_taken) (F_law_forms : Fo T "_law_forms" 15 1 0 f_law_forms) (F_law_part : Fo T "_law_part" 16 2 2 f_law_part) (F_law_word : Fo T "_law_word" 17 1 1 f_law_word) (F_law_same : Fo T "_law_same" 18 3 2 f_law_same) (F_law_spoilt : Fo T "_law_spoilt" 19 1 4 f_law_spoilt) (F_law_found : Fo T "_law_found" 20 6 1 f_law_found) (F_law_refused : Fo T "_law_refused" 21 6 1 f_law_refused) (hX : XSt T X c N_law 6 (defScope s_law)) : PSs X (defBody s_law) (RS c m_law) :=
  (s_cons (k_set hX (i := 1) rfl (.inr rfl) (c_new (c_lst (c_cons (k_var hX.e 0 rfl (.inl rfl)) (c_cons c_int c_nil))))) (s_cons (k_set hX (i := 2) rfl (.inl rfl) (c_call hX.e F_law_taken (by decide) (hX.e.gl rfl) (c_cons (k_var hX.e 1 rfl (.inr (.inl rfl))) (c_cons c_int c_nil)))) (s_cons (k_set hX (i := 3) rfl (.inl rfl) (c_call hX.e F_law_taken (by decide) (hX.e.gl rfl) (c_cons (k_var hX.e 1 rfl (.inr (.inl rfl))) (c_cons c_int c_nil)))) (s_cons (k_setO hX (i := 4) rfl (.inl rfl) (c_lst c_nil)) (s_cons (k_setO hX (i := 5) rfl (.inl rfl) (c_lst c_nil)) (s_cons (k_setO hX (i := 6) rfl (.inl rfl) (c_lst c_nil)) (s_cons (k_for [7, 10] hX (i_rng (hX.e.gl rfl) (hX.e.no hb.range) (c_add hX.e.kk (c_toB c_int) (c_toB (c_call hX.e F_law_taken (by decide) (hX.e.gl rfl) (c_cons (k_var hX.e 1 rfl (.inr (.inl rfl))) (c_cons c_int c_nil)))))) (k_gn hX (i := 7) rfl (.inl rfl)) (s_cons (k_set hX (i := 10) rfl (.inl rfl) (c_idx hX.e.kk (c_toB (c_call0 hX.e F_law_forms (by decide) (hX.e.gl rfl))) (c_call hX.e F_law_taken (by decide) (hX.e.gl rfl) (c_cons (k_var hX.e 1 rfl (.inr (.inl rfl))) (c_cons c_int c_nil))))) (s_cons (k_app hX (i := 4) rfl (.inl rfl) (c_tupOf hX.e.kk (hX.e.gl rfl) (hX.e.no hb.tuple) (c_toB (c_add hX.e.kk (c_oB (c_lst (c_cons (c_idx hX.e.kk (c_toB (k_var hX.e 10 rfl (.inl rfl))) c_int) c_nil))) (c_oB (k_lc hX.e [("_law_one", 13)] (i_text (c_idx hX.e.kk (c_toB (k_var hX.e 10 rfl (.inl rfl))) c_int)) (by decide +kernel) (fun X' b1 => (k_gnB b1 (i := 13) rfl (.inl rfl) (.inr rfl))) (fun X' b1 => ts_nil) (fun X' b1 => (c_call b1.e F_law_part (by decide) (b1.e.gl rfl) (c_cons (k_var b1.e 1 rfl (.inr (.inl rfl))) (c_cons (k_var b1.e 13 rfl (.inl rfl)) c_nil)))))))))) (s_cons (k_app hX (i := 5) rfl (.inl rfl) (c_frz (k_lc hX.e [("_law_part_here", 12)] (i_seq hX.e.kk (c_idx hX.e.kk (k_bor hX.e 4 rfl (.inl rfl)) (k_var hX.e 7 rfl (.inl rfl)))) (by decide +kernel) (fun X' b2 => (k_gnB b2 (i := 12) rfl (.inl rfl) (.inr rfl))) (fun X' b2 => ts_nil) (fun X' b2 => (c_call b2.e F_law_word (by decide) (b2.e.gl rfl) (c_cons (k_var b2.e 12 rfl (.inl rfl)) c_nil)))))) (s_one (k_app hX (i := 6) rfl (.inl rfl) (c_idx hX.e.kk (c_toB (k_var hX.e 10 rfl (.inl rfl))) c_int))))))) (s_cons (s_if (t_gt (k_var hX.e 2 rfl (.inl rfl)) c_int) (s_one (s_frz (i := 5) (s_frz (i := 4) (s_ret (c_call hX.e F_law_same (by decide) (hX.e.gl rfl) (c_cons (c_call hX.e F_read_program (by decide) (hX.e.gl rfl) (c_cons (c_join hX.e.kk c_str (c_oB (k_lc hX.e [("_law_words", 11)] (i_seq hX.e.kk (k_var hX.e 5 rfl (.inl rfl))) (by decide +kernel) (fun X' b3 => (k_gnB b3 (i := 11) rfl (.inl rfl) (.inr rfl))) (fun X' b3 => ts_nil) (fun X' b3 => (c_join b3.e.kk c_str (c_toB (k_var b3.e 11 rfl (.inl rfl)))))))) c_nil)) (c_cons (k_var hX.e 4 rfl (.inl rfl)) c_nil))))))) s_nil) (s_cons (k_set hX (i := 8) rfl (.inl rfl) (c_mod (c_div (k_var hX.e 3 rfl (.inl rfl)) c_int) (c_len hX.e.kk (hX.e.gl rfl) (hX.e.no hb.len) (k_bor hX.e 5 rfl (.inl rfl))))) (s_cons (k_setI hX (s0 := 5) rfl (.inl rfl) (c_call hX.e F_law_spoilt (by decide) (hX.e.gl rfl) (c_cons (c_idx hX.e.kk (k_bor hX.e 5 rfl (.inl rfl)) (k_var hX.e 8 rfl (.inl rfl))) (c_cons (c_idx hX.e.kk (k_bor hX.e 6 rfl (.inl rfl)) (k_var hX.e 8 rfl (.inl rfl))) (c_cons (k_var hX.e 2 rfl (.inl rfl)) (c_cons (c_mod (k_var hX.e 3 rfl (.inl rfl)) c_int) c_nil))))) (k_var hX.e 8 rfl (.inl rfl))) (s_cons (s_if (PW.pt (t_and (t_eq hX.e.kk hX.e.u (c_toB (c_mod (k_var hX.e 3 rfl (.inl rfl)) c_int)) (c_toB c_int)) (t_and1 (t_lt (c_add hX.e.kk (c_toB (k_var hX.e 8 rfl (.inl rfl))) (c_toB c_int)) (c_len hX.e.kk (hX.e.gl rfl) (hX.e.no hb.len) (k_bor hX.e 5 rfl (.inl rfl))))))) (s_one (k_setI hX (s0 := 5) rfl (.inl rfl) (c_frz (c_lst (c_cons c_str c_nil))) (c_neg c_int))) s_nil) (s_cons (s_frz (i := 5) (k_set hX (i := 9) rfl (.inl rfl) (c_join hX.e.kk c_str (c_oB (k_lc hX.e [("_law_words", 11)] (i_seq hX.e.kk (k_var hX.e 5 rfl (.inl rfl))) (by decide +kernel) (fun X' b4 => (k_gnB b4 (i := 11) rfl (.inl rfl) (.inr rfl))) (fun X' b4 => ts_nil) (fun X' b4 => (c_join b4.e.kk c_str (c_toB (k_var b4.e 11 rfl (.inl rfl)))))))))) (s_one (s_ret (c_and (c_eq hX.e.kk hX.e.u (c_toB (c_call hX.e F_law_found (by decide) (hX.e.gl rfl) (c_cons (k_var hX.e 9 rfl (.inl rfl)) c_nil))) (c_toB (k_var hX.e 8 rfl (.inl rfl)))) (c_one (c_call hX.e F_law_refused (by decide) (hX.e.gl rfl) (c_cons (k_var hX.e 9 rfl (.inl rfl)) c_nil))))))))))))))))))
theorem dh_law_whole {T : Tp} {X : Cx} {c : Cn} (hb : Blt T.mg) (hH : XHb T X c N_law_whole 0 (defScope s_law_whole)) : PSs X (defBody s_law_whole) (RS c m_law_whole) :=
  (s_one (s_ret (c_and (c_isI .int hH.kk (hH.gl rfl) (hH.no hb.isinstance) (hH.gl rfl) (hH.no hb.int) (by decide +kernel) (c_toB (kh_var hH 0 rfl (.inl rfl)))) (c_one (c_not (c_isI .bool hH.kk (hH.gl rfl) (hH.no hb.isinstance) (hH.gl rfl) (hH.no hb.bool) (by decide +kernel) (c_toB (kh_var hH 0 rfl (.inl rfl)))))))))
end LM
-- dropped: 
namespace LM
open PySem L2
theorem lay_str (a : Str) (h : PyData.strOk a = true) : (PyData.str a).canLay0 = true := by
  unfold PyData.canLay0
  exact h

/-! ### texts, told by their signs -/
def tS (l : List Nat) : Str := ⟨l.toArray⟩
def tL (x : Str) : List Nat := TL.tl x
@[simp] theorem tL_tS (l : List Nat) : tL (tS l) = l := rfl
theorem tS_tL (x : Str) : tS (tL x) = x := TL.mk_tl x
theorem tL_def (x : Str) : tL x = TL.tl x := rfl
theorem tS_inj {a b : List Nat} (h : tS a = tS b) : a = b := congrArg TL.tl h
theorem tL_ext {x y : Str} (h : tL x = tL y) : x = y := TL.ext_tl h
theorem tL_len (x : Str) : x.length = (tL x).length := TL.len_tl x
def okS (x : Str) : Prop := (∀ c ∈ tL x, c < 1114112) ∧ (tL x).length ≤ 16000000
theorem okS_lay {x : Str} (h : okS x) : (PyData.str x).canLay0 = true := by
  refine lay_str x ?_
  unfold PyData.strOk
  rw [Array.all_eq_true_iff_forall_mem]
  intro c hc
  exact decide_eq_true (h.1 c (Array.mem_toList_iff.mpr hc))
theorem vEqS {a b : Str} (ha : okS a) (hb : okS b) (h : HP) : vEq (.str a) (.str b) h = .ok (.bl (decide (a = b))) h := vEq_str h a b (okS_lay ha) (okS_lay hb)
theorem okS_len {x : Str} (h : okS x) : x.length ≤ 16777216 := by
  rw [tL_len]
  have := h.2
  omega
theorem okS_sub {x y : Str} (h : okS x) (h1 : ∀ c ∈ tL y, c ∈ tL x) (h2 : (tL y).length ≤ (tL x).length) : okS y := ⟨fun c hc => h.1 c (h1 c hc), Nat.le_trans h2 h.2⟩
theorem cutS_take (x : Str) : cutS x none (some 1) = tS ((tL x).take 1) := by
  refine tL_ext ?_
  show ((x.cps.toList.drop (HT.sIx x.length 0 none)).take (HT.sIx x.length x.length (some 1) - HT.sIx x.length 0 none)) = (tL x).take 1
  have e0 : HT.sIx x.length 0 none = 0 := rfl
  have e1 : HT.sIx x.length x.length (some 1) = min 1 x.length := rfl
  have el : x.length = (tL x).length := tL_len x
  rw [e0, e1, List.drop_zero, Nat.sub_zero, el]
  show (tL x).take _ = _
  generalize tL x = l
  cases l <;> simp
theorem cutS_drop (x : Str) : cutS x (some 1) none = tS ((tL x).drop 1) := by
  refine tL_ext ?_
  show ((x.cps.toList.drop (HT.sIx x.length 0 (some 1))).take (HT.sIx x.length x.length none - HT.sIx x.length 0 (some 1))) = (tL x).drop 1
  have e0 : HT.sIx x.length x.length none = x.length := rfl
  have e1 : HT.sIx x.length 0 (some 1) = min 1 x.length := rfl
  have el : x.length = (tL x).length := tL_len x
  rw [e0, e1, el]
  show ((tL x).drop _).take _ = _
  generalize tL x = l
  cases l with
  | nil => simp
  | cons a r =>
    have : min 1 (a :: r).length = 1 := by simp
    rw [this]
    refine List.take_of_length_le ?_
    simp
/-! ### a number's text -/
def sI (i : Int) : Str := Str.ofString (toString i)
theorem tL_nat (n : Nat) : tL (sI (n : Int)) = TL.numL n := TL.tl_num n
theorem tL_neg (n : Nat) : tL (sI (-((n + 1 : Nat) : Int))) = 45 :: TL.numL (n + 1) := by
  have e : (-((n + 1 : Nat) : Int)) = Int.negSucc n := rfl
  have e2 : toString (Int.negSucc n) = "-" ++ Nat.repr (n + 1) := rfl
  unfold sI
  rw [e, e2]
  show TL.tl _ = _
  rw [TL.tl_ofString, String.toList_append, List.map_append, Nat.toList_repr]
  rfl
theorem numL_head (n : Nat) (h : 0 < n) : ∃ d r, TL.numL n = d :: r ∧ 49 ≤ d ∧ d ≤ 57 := by
  induction n using Nat.strongRecOn with
  | _ n ih =>
    by_cases h2 : n < 10
    · exact ⟨48 + n, [], TL.numL_lt h2, by omega, by omega⟩
    · obtain ⟨d, r, e, a, b⟩ := ih (n / 10) (by omega) (by omega)
      refine ⟨d, r ++ [48 + n % 10], ?_, a, b⟩
      rw [TL.numL_step (by omega), e]
      rfl
theorem numL_zero : TL.numL 0 = [48] := TL.numL_lt (by decide)
/-! ### the number that signs write -/
def digs (l : List Nat) : Bool := l.all fun c => decide (48 ≤ c) && decide (c ≤ 57)
def wholeL (w : List Nat) : Option Int :=
  let g := w.take 1 == [45]
  let f := if g then w.drop 1 else w
  if f == [] || Nat.blt 12 f.length then none
  else if !digs f then none
  else if f.head? == some 48 && (Nat.blt 1 f.length || g) then none
  else some (if g then -((NumText.digitsVal f : Nat) : Int) else ((NumText.digitsVal f : Nat) : Int))
theorem digs_iff (l : List Nat) : digs l = true ↔ NumText.AllDigits l := by
  unfold digs NumText.AllDigits
  rw [List.all_eq_true]
  constructor
  · intro h c hc
    have := h c hc
    simp only [Bool.and_eq_true, decide_eq_true_eq] at this
    exact this
  · intro h c hc
    have := h c hc
    simp only [Bool.and_eq_true, decide_eq_true_eq]
    exact this
theorem digs_num (n : Nat) : digs (TL.numL n) = true := (digs_iff _).mpr (TL.numL_digits n)
theorem numL_short {n : Nat} (h : n < 10 ^ 12) : (TL.numL n).length ≤ 12 := TL.numL_len (by decide) h
theorem whole_nat (n : Nat) (h : n < 10 ^ 12) : wholeL (TL.numL n) = some (n : Int) := by
  have hs := numL_short h
  have hd := digs_num n
  have hv := TL.numL_val n
  by_cases h0 : n = 0
  · subst h0
    rw [numL_zero]
    decide
  · obtain ⟨d, r, e, a, b⟩ := numL_head n (by omega)
    rw [e] at hs hd hv ⊢
    have g : ((d :: r).take 1 == [45]) = false := by
      rw [List.take_succ_cons, List.take_zero]
      exact beq_eq_false_iff_ne.mpr fun z => by
        have : d = 45 := List.head_eq_of_cons_eq z
        omega
    unfold wholeL
    simp only [g, Bool.false_eq_true, if_false]
    have f1 : ((d :: r == []) || Nat.blt 12 (d :: r).length) = false := by
      rw [Bool.or_eq_false_iff]
      refine ⟨rfl, ?_⟩
      rw [← Bool.not_eq_true, Nat.blt_eq]
      omega
    have f2 : ((d :: r).head? == some 48) = false := by
      rw [List.head?_cons]
      exact beq_eq_false_iff_ne.mpr fun z => by
        have : d = 48 := Option.some.inj z
        omega
    rw [f1, hd, f2, hv]
    simp
theorem whole_neg (n : Nat) (h : n + 1 < 10 ^ 12) : wholeL (45 :: TL.numL (n + 1)) = some (-((n + 1 : Nat) : Int)) := by
  have hs := numL_short h
  have hd := digs_num (n + 1)
  have hv := TL.numL_val (n + 1)
  obtain ⟨d, r, e, a, b⟩ := numL_head (n + 1) (by omega)
  rw [e] at hs hd hv ⊢
  have g : ((45 :: d :: r).take 1 == [45]) = true := rfl
  unfold wholeL
  simp only [g, if_true]
  have f0 : (45 :: d :: r).drop 1 = d :: r := rfl
  have f1 : ((d :: r == []) || Nat.blt 12 (d :: r).length) = false := by
    rw [Bool.or_eq_false_iff]
    refine ⟨rfl, ?_⟩
    rw [← Bool.not_eq_true, Nat.blt_eq]
    omega
  have f2 : ((d :: r).head? == some 48) = false := by
    rw [List.head?_cons]
    exact beq_eq_false_iff_ne.mpr fun z => by
      have : d = 48 := Option.some.inj z
      omega
  rw [f0, f1, hd, f2, hv]
  simp
theorem sI_cases (i : Int) : (∃ n : Nat, i = (n : Int) ∧ tL (sI i) = TL.numL n) ∨ ∃ n : Nat, i = -((n + 1 : Nat) : Int) ∧ tL (sI i) = 45 :: TL.numL (n + 1) := by
  cases i with
  | ofNat n => exact .inl ⟨n, rfl, tL_nat n⟩
  | negSucc n => exact .inr ⟨n, rfl, tL_neg n⟩
theorem whole_sI (i : Int) (h : i.natAbs < 10 ^ 12) : wholeL (tL (sI i)) = some i := by
  rcases sI_cases i with ⟨n, e, t⟩ | ⟨n, e, t⟩
  · rw [t, e]
    exact whole_nat n (by omega)
  · rw [t, e]
    exact whole_neg n (by omega)
theorem sI_sign (i : Int) : ∀ c ∈ tL (sI i), c = 45 ∨ (48 ≤ c ∧ c ≤ 57) := by
  intro c hc
  rcases sI_cases i with ⟨n, e, t⟩ | ⟨n, e, t⟩
  · rw [t] at hc
    exact .inr (TL.numL_digits n c hc)
  · rw [t] at hc
    rcases List.mem_cons.mp hc with z | z
    · exact .inl z
    · exact .inr (TL.numL_digits _ c z)
theorem sI_len (i : Int) (h : i.natAbs < 10 ^ 12) : (tL (sI i)).length ≤ 13 := by
  rcases sI_cases i with ⟨n, e, t⟩ | ⟨n, e, t⟩
  · rw [t]
    have := numL_short (n := n) (by omega)
    omega
  · rw [t]
    have := numL_short (n := n + 1) (by omega)
    rw [List.length_cons]
    omega
theorem sI_two (i : Int) : ∃ d r, (tL (sI i) = d :: r ∧ d ≠ 45) ∨ tL (sI i) = 45 :: d :: r := by
  rcases sI_cases i with ⟨n, e, t⟩ | ⟨n, e, t⟩
  · rw [t]
    have hne := TL.numL_ne n
    have hd := TL.numL_digits n
    cases q : TL.numL n with
    | nil => exact absurd q hne
    | cons d r =>
      have := hd d (by rw [q]; exact List.mem_cons_self)
      exact ⟨d, r, .inl ⟨rfl, by omega⟩⟩
  · rw [t]
    obtain ⟨d, r, e2, _⟩ := numL_head (n + 1) (by omega)
    exact ⟨d, r, .inr (by rw [e2])⟩
theorem sI_ok (i : Int) (h : i.natAbs < 10 ^ 12) : okS (sI i) := ⟨fun c hc => by
  have := sI_sign i c hc
  omega, by
  have := sI_len i h
  omega⟩
/-! ### joined, split -/
theorem split_mem (x y : Str) (hy : tL y ≠ []) (hk : y.cps.all (· < 256) = true) : ∀ w ∈ Txt.split x y, (∀ c ∈ tL w, c ∈ tL x) ∧ (tL w).length ≤ (tL x).length := by
  have key : ∀ (S : List Nat) (k : Nat) (acc l : List Nat), ∀ p ∈ TL.spl S k acc l, (∀ c ∈ p, c ∈ acc ∨ c ∈ l) ∧ p.length ≤ acc.length + l.length := by
    intro S k acc l
    induction l generalizing k acc with
    | nil =>
      intro p hp
      rw [TL.spl_nil] at hp
      rw [List.mem_singleton.mp hp]
      exact ⟨fun c hc => .inl hc, by simp⟩
    | cons c r ih =>
      intro p hp
      cases k with
      | zero =>
        cases z : TL.pre S (c :: r) with
        | true =>
          rw [TL.spl_hit z] at hp
          rcases List.mem_cons.mp hp with q | q
          · rw [q]
            exact ⟨fun d hd => .inl hd, by omega⟩
          · obtain ⟨h1, h2⟩ := ih _ _ p q
            refine ⟨fun d hd => ?_, by simp at h2 ⊢; omega⟩
            rcases h1 d hd with w | w
            · cases w
            · exact .inr (List.mem_cons_of_mem _ w)
        | false =>
          rw [TL.spl_miss z] at hp
          obtain ⟨h1, h2⟩ := ih _ _ p hp
          refine ⟨fun d hd => ?_, by simp at h2 ⊢; omega⟩
          rcases h1 d hd with w | w
          · rcases List.mem_append.mp w with w | w
            · exact .inl w
            · rw [List.mem_singleton.mp w]
              exact .inr List.mem_cons_self
          · exact .inr (List.mem_cons_of_mem _ w)
      | succ k =>
        have hp : p ∈ TL.spl S k acc r := hp
        obtain ⟨h1, h2⟩ := ih _ _ p hp
        refine ⟨fun d hd => ?_, by simp; omega⟩
        rcases h1 d hd with w | w
        · exact .inl w
        · exact .inr (List.mem_cons_of_mem _ w)
  intro w hw
  have e : (Txt.split x y).map tL = TL.spl (tL y) 0 [] (tL x) := TL.split_spl x y hy (TL.kind_ok hk)
  have m : tL w ∈ TL.spl (tL y) 0 [] (tL x) := by
    rw [← e]
    exact List.mem_map_of_mem hw
  obtain ⟨h1, h2⟩ := key _ _ _ _ _ m
  refine ⟨fun c hc => ?_, by simpa using h2⟩
  rcases h1 c hc with z | z
  · cases z
  · exact z
theorem okS_split {x y : Str} (h : okS x) (hy : tL y ≠ []) (hk : y.cps.all (· < 256) = true) : ∀ w ∈ Txt.split x y, okS w := fun w hw => by
  obtain ⟨h1, h2⟩ := split_mem x y hy hk w hw
  exact okS_sub h h1 h2
theorem split_few {x y : Str} (h : okS x) : (Txt.split x y).length ≤ 16000002 := by
  have h1 := PyProof.Rows.split_le x y
  have h2 := h.2
  rw [tL_len] at h1
  omega
theorem join_signs {y : Str} {c : Nat} {l : List Str} (h : c ∈ tL (Str.join y l)) : (∃ t ∈ l, c ∈ tL t) ∨ c ∈ tL y := by
  rcases (PyProof.Rows.mem_join y c l).mp h with q | q
  · exact .inl q
  · exact .inr q.2
theorem join_len (y : Str) : ∀ l : List Str, (tL (Str.join y l)).length ≤ (l.map fun x => (tL x).length + (tL y).length).sum
  | [] => Nat.zero_le _
  | [x] => by
    show (tL x).length ≤ _
    simp
  | x :: z :: r => by
    have ih := join_len y (z :: r)
    show (tL (x ++ y ++ Str.join y (z :: r))).length ≤ _
    have e1 : tL (x ++ y ++ Str.join y (z :: r)) = tL x ++ tL y ++ tL (Str.join y (z :: r)) := by
      show TL.tl _ = _
      rw [TL.tl_append, TL.tl_append]
      rfl
    rw [e1, List.length_append, List.length_append, List.map_cons, List.sum_cons]
    omega
theorem sum_le {A : Type} (f : A → Nat) (k : Nat) : ∀ l : List A, (∀ x ∈ l, f x ≤ k) → (l.map f).sum ≤ k * l.length
  | [], _ => by simp
  | x :: r, h => by
    have h1 := h x List.mem_cons_self
    have h2 := sum_le f k r fun y hy => h y (List.mem_cons_of_mem _ hy)
    rw [List.map_cons, List.sum_cons, List.length_cons, Nat.mul_add]
    omega
theorem join_okS {y : Str} {l : List Str} {k : Nat} (hy : ∀ c ∈ tL y, c < 1114112) (h : ∀ x ∈ l, (∀ c ∈ tL x, c < 1114112) ∧ (tL x).length + (tL y).length ≤ k) (hk : k * l.length ≤ 16000000) : okS (Str.join y l) ∧ (tL (Str.join y l)).length ≤ k * l.length := by
  have hl := Nat.le_trans (join_len y l) (sum_le _ k l fun x hx => (h x hx).2)
  refine ⟨⟨fun c hc => ?_, Nat.le_trans hl hk⟩, hl⟩
  rcases join_signs hc with ⟨t, ht, q⟩ | q
  · exact (h t ht).1 c q
  · exact hy c q
theorem join_can {y : Str} {l : List Str} {k : Nat} (h : ∀ x ∈ l, (tL x).length ≤ k) (hk : k * l.length + l.length * (tL y).length ≤ 16777216) : joinOk y l = true := by
  unfold joinOk
  rw [Nat.ble_eq]
  have := sum_le (fun x : Str => x.length) k l fun x hx => by
    show x.length ≤ k
    rw [tL_len]
    exact h x hx
  have e : y.length = (tL y).length := tL_len y
  rw [e]
  omega

end LM

-- dropped: 
namespace LM
open PySem L2
@[simp] theorem eCutS_app (m : En → M DV) (lo hi : En → M (Option Int)) (e : En) (h : HP) : eCutS m lo hi e h = bR (m e h) fun x h => bR (lo e h) fun l h => bR (hi e h) fun u h => vCutS x l u h := rfl
theorem vLenS {x : Str} (hx : okS x) (h : HP) : vLen (.str x) h = .ok (.int ((tL x).length : Nat)) h := by
  show (if x.length ≤ LN then Res.ok (DV.int x.length) h else .bad) = _
  rw [if_pos (okS_len hx), tL_len]
theorem okS_take {x : Str} (hx : okS x) (n : Nat) : okS (tS ((tL x).take n)) := okS_sub hx (fun c hc => List.mem_of_mem_take hc) (by rw [show tL (tS ((tL x).take n)) = (tL x).take n from rfl, List.length_take]; omega)
theorem okS_drop {x : Str} (hx : okS x) (n : Nat) : okS (tS ((tL x).drop n)) := okS_sub hx (fun c hc => List.mem_of_mem_drop hc) (by rw [show tL (tS ((tL x).drop n)) = (tL x).drop n from rfl, List.length_drop]; omega)
theorem vCutS_take {x : Str} (hx : okS x) (h : HP) : vCutS (.str x) none (some 1) h = .ok (.str (tS ((tL x).take 1))) h := by
  show (if x.length ≤ LN then (pure (DV.str (cutS x none (some 1))) : M DV) else M.bad) h = _
  rw [if_pos (okS_len hx), cutS_take]
  rfl
theorem vCutS_drop {x : Str} (hx : okS x) (h : HP) : vCutS (.str x) (some 1) none h = .ok (.str (tS ((tL x).drop 1))) h := by
  show (if x.length ≤ LN then (pure (DV.str (cutS x (some 1) none)) : M DV) else M.bad) h = _
  rw [if_pos (okS_len hx), cutS_drop]
  rfl
def okW (x : Str) : Bool := decide (∀ c ∈ tL x, c < 1114112) && Nat.ble (tL x).length 16000000
theorem okW_ok {x : Str} (h : okW x = true) : okS x := by
  unfold okW at h
  simp only [Bool.and_eq_true, decide_eq_true_eq, Nat.ble_eq] at h
  exact h
theorem minus_is : Str.ofString "-" = tS [45] := by decide +kernel
theorem none_is : Str.ofString "" = tS [] := by decide +kernel
theorem zero_is : Str.ofString "0" = tS [48] := by decide +kernel
theorem figs_is : Str.ofString "0123456789" = tS [48, 49, 50, 51, 52, 53, 54, 55, 56, 57] := by decide +kernel
theorem okS_lit (l : List Nat) (h : okW (tS l) = true) : okS (tS l) := okW_ok h
theorem vInS_fig (c : Nat) (h : HP) : vInS true (.str (tS [c])) (.str (Str.ofString "0123456789")) h = .ok (.bl (!(decide (48 ≤ c) && decide (c ≤ 57)))) h := by
  rw [figs_is]
  have e : decide (c ∈ [48, 49, 50, 51, 52, 53, 54, 55, 56, 57]) = (decide (48 ≤ c) && decide (c ≤ 57)) := by
    rw [← Bool.decide_and]
    apply decide_eq_decide.mpr
    simp only [List.mem_cons, List.not_mem_nil, or_false]
    omega
  rw [← e]
  rfl
def sg (c : Nat) : DV := .str (tS [c])
theorem signs_is (x : Str) : signs x = (tL x).map sg := rfl
theorem wh_loop (l : List Nat) (A B : Slot) (h : HP) : forL (tName 2) m_whole_of_b1 [2] (l.map sg) [A, B, .none] h = if digs l then .nx [A, B, .none] h else .rt .non h := by
  induction l with
  | nil => rfl
  | cons c r ih =>
    have ed : digs (c :: r) = ((decide (48 ≤ c) && decide (c ≤ 57)) && digs r) := rfl
    have t : turn (tName 2) m_whole_of_b1 [2] (sg c) [A, B, .none] h = if (decide (48 ≤ c) && decide (c ≤ 57)) then .nx [A, B, .none] h else .rt .non h := by
      unfold sg
      cases z : (decide (48 ≤ c) && decide (c ≤ 57)) <;> simp [m_whole_of_b1, vInS_fig, z]
    rw [List.map_cons, forL_cons, t, ed]
    cases z : (decide (48 ≤ c) && decide (c ≤ 57)) with
    | false => rfl
    | true =>
      rw [if_pos rfl, lR_nx, ih]
      rfl
def optD : Option Int → DV
  | some i => .int i
  | none => .non
theorem vIdx_str0 {x : Str} (hx : okS x) {c : Nat} {r : List Nat} (e : tL x = c :: r) (h : HP) : vIdx (.str x) (.int 0) h = .ok (.str (tS [c])) h := by
  show (if x.length ≤ LN then (match atI x.cps.toList 0 with
    | some c => Res.ok (DV.str ⟨#[c]⟩) h
    | none => .bad) else .bad) = _
  rw [if_pos (okS_len hx), show x.cps.toList = c :: r from e]
  have : atI (c :: r) ((0 : Nat) : Int) = some c := atI_nat _ 0
  rw [show (0 : Int) = ((0 : Nat) : Int) from rfl, this]
  rfl
theorem read_int {x : Str} {g : Bool} {f : List Nat} (e : tL x = if g then 45 :: f else f) (hd : digs f = true) (hne : f ≠ []) (hl : f.length ≤ 12) (h : HP) : vIntS (.str x) h = .ok (.int (if g then -((NumText.digitsVal f : Nat) : Int) else ((NumText.digitsVal f : Nat) : Int))) h := by
  have ad := (digs_iff f).mp hd
  have lx : x.length ≤ 13 := by
    rw [tL_len, e]
    cases g
    · simp only [Bool.false_eq_true, if_false]
      omega
    · simp only [if_true, List.length_cons]
      omega
  have ei : PySem.intText? x = some (if g then -((NumText.digitsVal f : Nat) : Int) else ((NumText.digitsVal f : Nat) : Int)) := by
    cases g with
    | false =>
      have e : x.cps.toList = f := e
      have := intText_digits (x := x) (by rw [e]; exact ad) (by rw [e]; exact hne) (by omega)
      rw [this, e]
      rfl
    | true =>
      have e : x.cps.toList = 45 :: f := e
      have := intText_neg (x := x) e ad hne (by omega)
      rw [this]
      rfl
  show (match PySem.intText? x with
    | some n => if x.length ≤ 640 then Res.ok (DV.int n) h else .bad
    | none => .bad) = _
  rw [ei]
  show (if x.length ≤ 640 then _ else _) = _
  rw [if_pos (by omega)]
def m_wh_tail : Stm := (sSeq (sIf (tOr (tb (e2 vEq (eVar 1) (eC (.str (Str.ofString ""))))) (tb (e2 vGt (e1 vLen (eVar 1)) (eC (.int 12))))) (sRet (eC .non)) sNext) (sSeq (sFor (iB (eVar 1) itT) (tName 2) [2] m_whole_of_b1) (sSeq (sIf (tAnd (tb (e2 vEq (e2 vIdx (eVar 1) (eC (.int 0))) (eC (.str (Str.ofString "0"))))) (tOr (tb (e2 vGt (e1 vLen (eVar 1)) (eC (.int 1)))) (tb (e2 vEq (eCutS (eVar 0) oNone (oSome (eC (.int 1)))) (eC (.str (Str.ofString "-"))))))) (sRet (eC .non)) sNext) (sRet (e1 vIntS (eVar 0))))))
def wholeT (g : Bool) (f : List Nat) : Option Int :=
  if f == [] || Nat.blt 12 f.length then none
  else if !digs f then none
  else if f.head? == some 48 && (Nat.blt 1 f.length || g) then none
  else some (if g then -((NumText.digitsVal f : Nat) : Int) else ((NumText.digitsVal f : Nat) : Int))
theorem wh_tail {x F : Str} {g : Bool} (hx : okS x) (hF : okS F) (e : tL x = if g then 45 :: tL F else tL F) (eg : ((tL x).take 1 == [45]) = g) (h : HP) :
    m_wh_tail [.val (.str x), .val (.str F), .none] h = .rt (optD (wholeT g (tL F))) h := by
  have q1 : ∀ h, vEq (.str F) (.str (Str.ofString "")) h = .ok (.bl (tL F == [])) h := fun h => by
    rw [none_is, vEqS hF (okS_lit _ (by decide))]
    congr 2
    by_cases z : tL F = []
    · rw [z]
      have : F = tS [] := tL_ext z
      simp [this]
    · have : ¬ F = tS [] := fun q => z (by rw [q]; rfl)
      rw [decide_eq_false this]
      exact (beq_eq_false_iff_ne.mpr z).symm
  have q2 : ∀ h, vEq (.str (tS ((tL x).take 1))) (.str (Str.ofString "-")) h = .ok (.bl g) h := fun h => by
    rw [minus_is, vEqS (okS_take hx 1) (okS_lit _ (by decide)), ← eg]
    congr 2
    by_cases z : (tL x).take 1 = [45]
    · rw [z]
      simp
    · have : ¬ tS ((tL x).take 1) = tS [45] := fun q => z (tS_inj q)
      rw [decide_eq_false this]
      exact (beq_eq_false_iff_ne.mpr z).symm
  have q3 := vLenS hF
  have q4 := wh_loop (tL F)
  have q5 := vCutS_take hx
  have s1 := signs_is F
  unfold wholeT
  by_cases c1 : tL F = []
  · simp [m_wh_tail, q1, c1, optD]
  · have c1' : (tL F == []) = false := beq_eq_false_iff_ne.mpr c1
    by_cases c2 : 12 < (tL F).length
    · have c2' : Nat.blt 12 (tL F).length = true := by rw [Nat.blt_eq]; exact c2
      have c2'' : (12 : Int) < ((tL F).length : Int) := by omega
      simp [m_wh_tail, q1, q3, c1, c2', c2'', optD]
    · have c2' : Nat.blt 12 (tL F).length = false := by rw [← Bool.not_eq_true, Nat.blt_eq]; exact c2
      have c2'' : ¬ (12 : Int) < ((tL F).length : Int) := by omega
      rw [c1', c2']
      simp only [Bool.or_self, Bool.false_eq_true, if_false]
      cases hd : digs (tL F) with
      | false => simp [m_wh_tail, q1, q3, c1', c2'', s1, q4, hd, optD]
      | true =>
        obtain ⟨c, r, er⟩ : ∃ c r, tL F = c :: r := by
          cases z : tL F with
          | nil => exact absurd z c1
          | cons c r => exact ⟨c, r, rfl⟩
        have q6 := vIdx_str0 hF er
        have oc : okS (tS [c]) := okS_sub hF (fun d hd => by
          have : d = c := List.mem_singleton.mp hd
          rw [this, er]
          exact List.mem_cons_self) (by rw [er]; simp)
        have q7 : ∀ h, vEq (.str (tS [c])) (.str (Str.ofString "0")) h = .ok (.bl (c == 48)) h := fun h => by
          rw [zero_is, vEqS oc (okS_lit _ (by decide))]
          congr 2
          by_cases z : c = 48
          · rw [z]
            simp
          · have : ¬ tS [c] = tS [48] := fun q => z (List.head_eq_of_cons_eq (tS_inj q))
            rw [decide_eq_false this]
            exact (beq_eq_false_iff_ne.mpr z).symm
        have q8 := read_int e hd c1 (by omega)
        have eh : ((tL F).head? == some 48) = (c == 48) := by
          rw [er, List.head?_cons]
          by_cases z : c = 48
          · rw [z]; rfl
          · rw [beq_eq_false_iff_ne.mpr z]
            exact beq_eq_false_iff_ne.mpr fun w => z (Option.some.inj w)
        rw [eh]
        simp only [Bool.not_true, Bool.false_eq_true, if_false]
        cases z48 : (c == 48) with
        | false => simp [m_wh_tail, q1, q3, c1', c2'', s1, q4, hd, q6, q7, z48, q8, optD]
        | true =>
          by_cases c3 : 1 < (tL F).length
          · have c3' : Nat.blt 1 (tL F).length = true := by rw [Nat.blt_eq]; exact c3
            have c3'' : (1 : Int) < ((tL F).length : Int) := by omega
            simp [m_wh_tail, q1, q3, c1', c2'', s1, q4, hd, q6, q7, z48, q8, optD, c3', c3'']
          · have c3' : Nat.blt 1 (tL F).length = false := by rw [← Bool.not_eq_true, Nat.blt_eq]; exact c3
            have c3'' : ¬ (1 : Int) < ((tL F).length : Int) := by omega
            cases g with
            | false => simp [m_wh_tail, q1, q3, c1', c2'', s1, q4, hd, q6, q7, z48, q8, optD, c3', c3'', q5, q2]
            | true => simp [m_wh_tail, q1, q3, c1', c2'', s1, q4, hd, q6, q7, z48, q8, optD, c3', c3'', q5, q2]
theorem wh_split : m_whole_of = sSeq (sSet 1 (eVar 0)) (sSeq (sIf (tb (e2 vEq (eCutS (eVar 0) oNone (oSome (eC (.int 1)))) (eC (.str (Str.ofString "-"))))) (sSet 1 (eCutS (eVar 0) (oSome (eC (.int 1))) oNone)) sNext) m_wh_tail) := rfl
theorem whole_is {x : Str} (hx : okS x) (h : HP) : f_whole_of [.str x] h = .ok (optD (wholeL (tL x))) h := by
  unfold f_whole_of
  rw [fnM_app, wh_split]
  have q5 := vCutS_take hx
  have q6 := vCutS_drop hx
  cases eg : ((tL x).take 1 == [45]) with
  | false =>
    have q2 : ∀ h, vEq (.str (tS ((tL x).take 1))) (.str (Str.ofString "-")) h = .ok (.bl false) h := fun h => by
      rw [minus_is, vEqS (okS_take hx 1) (okS_lit _ (by decide))]
      have : ¬ tS ((tL x).take 1) = tS [45] := fun q => beq_eq_false_iff_ne.mp eg (tS_inj q)
      rw [decide_eq_false this]
    have w := wh_tail (g := false) hx hx rfl eg h
    have ew : wholeL (tL x) = wholeT false (tL x) := by
      unfold wholeL wholeT
      simp only [eg]
      rfl
    rw [ew]
    simp [List.replicate, q5, q2, w]
  | true =>
    have et : (tL x).take 1 = [45] := eq_of_beq eg
    have ex : tL x = 45 :: (tL x).drop 1 := by
      cases z : tL x with
      | nil =>
        rw [z] at et
        cases et
      | cons c r =>
        rw [z] at et
        have : c = 45 := List.head_eq_of_cons_eq et
        rw [this]
        rfl
    have q2 : ∀ h, vEq (.str (tS ((tL x).take 1))) (.str (Str.ofString "-")) h = .ok (.bl true) h := fun h => by
      rw [minus_is, vEqS (okS_take hx 1) (okS_lit _ (by decide)), et]
      simp
    have w := wh_tail (g := true) (F := tS ((tL x).drop 1)) hx (okS_drop hx 1) ex eg h
    have ew : wholeL (tL x) = wholeT true ((tL x).drop 1) := by
      unfold wholeL wholeT
      simp only [eg]
      rfl
    rw [ew]
    have w2 : m_wh_tail [.val (.str x), .val (.str (tS ((tL x).drop 1))), .none] h = .rt (optD (wholeT true ((tL x).drop 1))) h := w
    simp [List.replicate, q5, q2, q6] at w2 ⊢
    simp [w2]

end LM

-- dropped: 
namespace LM
open PySem L2
/-! ### a row of numbers -/
theorem comma_is : Str.ofString "," = tS [44] := by decide +kernel
theorem blank_is : Str.ofString " " = tS [32] := by decide +kernel
theorem nl_is : Str.ofString "\n" = tS [10] := by decide +kernel
theorem lSplit_is {x : Str} (hx : okS x) (c : Nat) (h : HP) : lSplit x (.str (tS [c])) h = .ok ((Txt.split x (tS [c])).map DV.str) h := by
  have e := hx.2
  have l := tL_len x
  show (if ((tS [c]).length == 0) = false ∧ x.length + 2 ≤ LN then (pure ((Txt.split x (tS [c])).map DV.str) : M (List DV)) else M.bad) h = _
  rw [if_pos ⟨rfl, by show x.length + 2 ≤ 16777216; omega⟩]
  rfl
theorem okS_cut {x : Str} (hx : okS x) {c : Nat} (hc : c < 256) : ∀ w ∈ Txt.split x (tS [c]), okS w := okS_split hx (by simp) (by
  show (#[c] : Array Nat).all (· < 256) = true
  simp [hc])
theorem split_ne (x : Str) {c : Nat} (hc : c < 256) : Txt.split x (tS [c]) ≠ [] := fun e => by
  have q : (Txt.split x (tS [c])).map tL = TL.spl [c] 0 [] (tL x) := TL.split_spl x (tS [c]) (by show [c] ≠ []; simp) (TL.kind_ok (by
    show (#[c] : Array Nat).all (· < 256) = true
    simp [hc]))
  rw [e, List.map_nil] at q
  have key : ∀ (S : List Nat) (l acc : List Nat), TL.spl S 0 acc l ≠ [] := by
    intro S l
    induction l with
    | nil =>
      intro acc
      rw [TL.spl_nil]
      simp
    | cons c r ih =>
      intro acc
      cases z : TL.pre S (c :: r) with
      | true =>
        rw [TL.spl_hit z]
        simp
      | false =>
        rw [TL.spl_miss z]
        exact ih _
  exact key _ _ _ q.symm
def numsP (x : Str) : DV :=
  if x = tS [45] then .tup []
  else if (Txt.split x (tS [44])).any (fun w => (wholeL (tL w)).isNone) then .non
  else .tup ((Txt.split x (tS [44])).map fun w => optD (wholeL (tL w)))
theorem okND_opt (o : Option Int) : okND (optD o) = true := by cases o <;> rfl
theorem isNon_opt (o : Option Int) : isNon (optD o) = o.isNone := by cases o <;> rfl
theorem vNin_lst (l : List DV) (q : l.all okND = true) (h : HP) : vNin .non (.lst l) h = .ok (.bl (l.any isNon)) h := by
  show (if l.all okND then Res.ok (DV.bl (l.any isNon)) h else .bad) = _
  rw [q]
  rfl
theorem numbers_is {x : Str} (hx : okS x) (h : HP) : f_numbers_of [.str x] h = .ok (numsP x) h := by
  unfold f_numbers_of
  rw [fnM_app]
  have q1 : ∀ h, vEq (.str x) (.str (Str.ofString "-")) h = .ok (.bl (decide (x = tS [45]))) h := fun h => by
    rw [minus_is, vEqS hx (okS_lit _ (by decide))]
  have few : (Txt.split x (tS [44])).length ≤ 16777216 := by
    have := split_few (y := tS [44]) hx
    omega
  have sp := lSplit_is hx 44 h
  have c1 := mLc_ints (A := Str) (vs := [2]) (mi := iB (eFrz (iT2 (eVar 0) (eC (.str (Str.ofString ","))) lSplit)) itS) (t := tName 2) (me := eCall f_whole_of (aCons (eVar 2) aNil)) (e := [.val (.str x), .none, .none]) (h := h) (l := Txt.split x (tS [44]))
    DV.str (fun w => optD (wholeL (tL w))) (by simp [comma_is, sp]) few (fun w hw => by
      have := whole_is (okS_cut hx (by decide) w hw) h
      exact ⟨_, rfl, by simp [this]⟩)
  have ea : ((Txt.split x (tS [44])).map fun w => optD (wholeL (tL w))).all okND = true := by
    rw [List.all_map, List.all_eq_true]
    exact fun w _ => okND_opt _
  have en : ((Txt.split x (tS [44])).map fun w => optD (wholeL (tL w))).any isNon = (Txt.split x (tS [44])).any (fun w => (wholeL (tL w)).isNone) := by
    rw [List.any_map]
    congr 1
    funext w
    exact isNon_opt _
  have vn := fun h => vNin_lst _ ea h
  rw [en] at vn
  unfold numsP
  by_cases z : x = tS [45]
  · rw [if_pos z]
    have q1 : ∀ h, vEq (.str x) (.str (Str.ofString "-")) h = .ok (.bl true) h := fun h => by rw [q1, decide_eq_true z]
    simp [m_numbers_of, List.replicate, q1]
  · rw [if_neg z]
    cases zz : (Txt.split x (tS [44])).any (fun w => (wholeL (tL w)).isNone) with
    | true =>
      rw [zz] at vn
      simp only [m_numbers_of, m_numbers_of_c1]
      simp [List.replicate, q1, z, c1, vn]
    | false =>
      rw [zz] at vn
      simp only [m_numbers_of, m_numbers_of_c1]
      simp [List.replicate, q1, z, c1, vn]
/-! ### a part -/
def onesL : List Str := [Str.ofString "minus", Str.ofString "half", Str.ofString "none"]
def foldsL : List Str := [Str.ofString "add", Str.ofString "times", Str.ofString "least", Str.ofString "most"]
def partP (k : Nat) (x : Str) : DV :=
  if k = 110 then optD (wholeL (tL x)) else if k = 115 then numsP x
  else if (k == 49 && onesL.any (· == x)) || ((k == 50 && ks_BOTH.contains x) || (k == 102 && foldsL.any (· == x))) then .str x else .non
theorem vIn_strs (l : List Str) (x : Str) (h : HP) : vIn false (.str x) (.tup (l.map DV.str)) h = .ok (.bl (l.any (· == x))) h := by
  have e1 : (l.map DV.str).all flatD = true := by
    rw [List.all_map, List.all_eq_true]
    exact fun _ _ => rfl
  have e2 : ((l.map DV.str).any fun y => eqF y (.str x)) = l.any (· == x) := by
    rw [List.any_map]
    rfl
  show (if flatD (.str x) && (l.map DV.str).all flatD then Res.ok (DV.bl (if false then _ else (l.map DV.str).any fun y => eqF y (.str x))) h else .bad) = _
  rw [e1, e2]
  rfl
theorem vEq_sign {k : Nat} (hk : k < 1114112) {c : Nat} (hc : okW (tS [c]) = true) (h : HP) : vEq (.str (tS [k])) (.str (tS [c])) h = .ok (.bl (k == c)) h := by
  have ok : okS (tS [k]) := ⟨fun d hd => by
    have : d = k := List.mem_singleton.mp hd
    omega, by simp⟩
  rw [vEqS ok (okW_ok hc)]
  congr 2
  by_cases z : k = c
  · rw [z]
    simp
  · have : ¬ tS [k] = tS [c] := fun q => z (List.head_eq_of_cons_eq (tS_inj q))
    rw [decide_eq_false this]
    exact (beq_eq_false_iff_ne.mpr z).symm
theorem n_is : Str.ofString "n" = tS [110] := by decide +kernel
theorem s_is : Str.ofString "s" = tS [115] := by decide +kernel
theorem o_is : Str.ofString "1" = tS [49] := by decide +kernel
theorem t_is : Str.ofString "2" = tS [50] := by decide +kernel
theorem f_is : Str.ofString "f" = tS [102] := by decide +kernel
theorem vInT_str (ks : List Str) (x : Str) (h : HP) : vInT ks false (.str x) h = .ok (.bl (ks.contains x)) h := rfl
theorem vInT_strN (ks : List Str) (x : Str) (h : HP) : vInT ks true (.str x) h = .ok (.bl (!ks.contains x)) h := rfl
theorem part_is {k : Nat} (hk : k < 1114112) {x : Str} (hx : okS x) (h : HP) : f_part_of [sg k, .str x] h = .ok (partP k x) h := by
  unfold f_part_of sg
  rw [fnM_app]
  have q1 := fun h => vEq_sign hk (c := 110) (by decide) h
  have q2 := fun h => vEq_sign hk (c := 115) (by decide) h
  have q3 := fun h => vEq_sign hk (c := 49) (by decide) h
  have q4 := fun h => vEq_sign hk (c := 50) (by decide) h
  have q5 := fun h => vEq_sign hk (c := 102) (by decide) h
  have v1 : ∀ h, vIn false (.str x) (.tup [DV.str (Str.ofString "minus"), DV.str (Str.ofString "half"), DV.str (Str.ofString "none")]) h = .ok (.bl (onesL.any (· == x))) h := fun h => vIn_strs onesL x h
  have v2 : ∀ h, vIn false (.str x) (.tup [DV.str (Str.ofString "add"), DV.str (Str.ofString "times"), DV.str (Str.ofString "least"), DV.str (Str.ofString "most")]) h = .ok (.bl (foldsL.any (· == x))) h := fun h => vIn_strs foldsL x h
  have w1 := fun h => whole_is hx h
  have w2 := fun h => numbers_is hx h
  unfold partP
  generalize onesL.any (· == x) = b1 at *
  generalize foldsL.any (· == x) = b2 at *
  have v3 := fun h => vInT_str ks_BOTH x h
  generalize ks_BOTH.contains x = b3 at *
  by_cases z1 : k = 110
  · subst z1
    simp [m_part_of, List.replicate, n_is, q1, w1]
  · by_cases z2 : k = 115
    · subst z2
      simp [m_part_of, List.replicate, n_is, s_is, q1, q2, w2]
    · have y1 : (k == 110) = false := beq_eq_false_iff_ne.mpr z1
      have y2 : (k == 115) = false := beq_eq_false_iff_ne.mpr z2
      rw [if_neg z1, if_neg z2]
      cases b1 <;> cases b2 <;> cases b3 <;> cases k1 : (k == 49) <;> (try cases k2 : (k == 50)) <;> (try cases k3 : (k == 102)) <;> simp [m_part_of, List.replicate, n_is, s_is, o_is, t_is, f_is, q1, q2, q3, q4, q5, y1, y2, v1, v2, v3, *]

end LM

-- dropped: 
namespace LM
open PySem L2
abbrev cNT : Nat := 4

/-! ### a line -/
def formOf (x : Str) : Option Str := match tab_FORMS.lookup x with
  | some (.str z) => some z
  | _ => none
theorem lookup_some {A : Type} : ∀ (l : List (Str × A)) (x : Str), (l.map (·.1)).contains x = (l.lookup x).isSome
  | [], _ => rfl
  | (y, t) :: r, x => by
    rw [List.map_cons, List.contains_cons, List.lookup_cons, lookup_some r x]
    show (x == y || _) = _
    cases z : (x == y) <;> rfl
theorem forms_keys : ks_FORMS = tab_FORMS.map (·.1) := rfl
theorem forms_str : (tab_FORMS.all fun t => match t.2 with
  | .str f => okW f && Nat.ble (tL f).length 10 && !(tL f).isEmpty
  | _ => false) = true := by decide +kernel
theorem form_at {x : Str} : (∃ f, tab_FORMS.lookup x = some (.str f) ∧ formOf x = some f ∧ okS f ∧ (tL f).length ≤ 10 ∧ ks_FORMS.contains x = true) ∨ (formOf x = none ∧ ks_FORMS.contains x = false) := by
  have e : ks_FORMS.contains x = (tab_FORMS.lookup x).isSome := by
    rw [forms_keys]
    exact lookup_some _ _
  cases z : tab_FORMS.lookup x with
  | none =>
    refine .inr ⟨?_, by rw [e, z]; rfl⟩
    unfold formOf
    rw [z]
  | some t =>
    have m := mem_of_lookup z
    have q := List.all_eq_true.mp forms_str _ m
    cases t with
    | str f =>
      have q : (okW f && Nat.ble (tL f).length 10 && !(tL f).isEmpty) = true := q
      simp only [Bool.and_eq_true, Nat.ble_eq] at q
      refine .inl ⟨f, rfl, ?_, okW_ok q.1.1, q.1.2, by rw [e, z]; rfl⟩
      unfold formOf
      rw [z]
    | _ => cases q
def lineP (ws : List Str) : DV := match ws with
  | [] => .non
  | n :: r => match formOf n with
    | none => .non
    | some f => if r.length = (tL f).length then
        (if (List.zipWith partP (tL f) r).any isNon then .non else .tup (.str n :: List.zipWith partP (tL f) r))
      else .non
theorem okND_part (k : Nat) (x : Str) : okND (partP k x) = true := by
  unfold partP numsP
  split
  · exact okND_opt _
  · split
    · split
      · rfl
      · split <;> rfl
    · split <;> rfl
theorem fold_app {A B : Type} (F : A → B) : ∀ (l : List A) (s : List B), l.foldl (fun s q => s ++ [F q]) s = s ++ l.map F
  | [], s => by simp
  | x :: r, s => by
    rw [List.foldl_cons, fold_app F r, List.map_cons, List.append_assoc]
    rfl
theorem zipW_is {A B C : Type} (f : A → B → C) : ∀ (l : List A) (m : List B), List.zipWith f l m = (l.zip m).map fun q => f q.1 q.2
  | [], m => by simp
  | x :: l, [] => by simp
  | x :: l, y :: m => by simp [zipW_is f l m]
theorem vTab_form {x f : Str} (q : tab_FORMS.lookup x = some (.str f)) (h : HP) : vTab tab_FORMS (.str x) h = .ok (.str f) h := vTab_app tab_FORMS x h q
def rowD (x : Str) : DV := lineP (Txt.split x (tS [32]))
theorem line_is {x : Str} (hx : okS x) (h : HP) : f_line_of [.str x] h = .ok (rowD x) h := by
  unfold f_line_of rowD
  rw [fnM_app]
  have sp := lSplit_is hx 32 h
  have hw := okS_cut hx (c := 32) (by decide)
  have few := split_few (y := tS [32]) hx
  have hne := split_ne x (c := 32) (by decide)
  cases ew : Txt.split x (tS [32]) with
  | nil => exact absurd ew hne
  | cons n r =>
    rw [ew] at sp hw few
    rw [List.map_cons] at sp
    have g0 : ∀ h, getI (DV.str n :: r.map DV.str) 0 h = .ok (.str n) h := fun h => getI0 _ _ h
    rcases form_at (x := n) with ⟨f, lk, ef, of, lf, kc⟩ | ⟨ef, kc⟩
    · have e0 : lineP (n :: r) = if r.length = (tL f).length then
        (if (List.zipWith partP (tL f) r).any isNon then .non else .tup (.str n :: List.zipWith partP (tL f) r))
        else .non := by
        unfold lineP
        simp only [ef]
      rw [e0]
      have vt := fun h => vTab_form lk h
      have vl := fun h => vLenS of h
      have vi : ∀ h, vInT ks_FORMS true (.str n) h = .ok (.bl false) h := fun h => by
        rw [vInT_strN, kc]
        rfl
      by_cases hl : r.length = (tL f).length
      · rw [if_pos hl]
        have hl2 : ((r.map DV.str).length : Int) + 1 = ((tL f).length : Int) + 1 := by
          rw [List.length_map, hl]
        have ec : cutD (DV.str n :: r.map DV.str) (some 1) none = r.map DV.str := by
          have := cut_from (DV.str n :: r.map DV.str) 1
          rw [show ((1 : Nat) : Int) = 1 from rfl] at this
          rw [this]
          rfl
        have ez : zipD (signs f) (r.map DV.str) = ((tL f).zip r).map fun q => .tup [sg q.1, .str q.2] := by
          rw [signs_is]
          exact zipD_map sg DV.str _ _
        have lz : ((tL f).zip r).length ≤ 10 := by
          rw [List.length_zip]
          omega
        have okq : ∀ q ∈ (tL f).zip r, q.1 < 1114112 ∧ okS q.2 := fun q hq => by
          obtain ⟨h1, h2⟩ := List.of_mem_zip (a := q.1) (b := q.2) hq
          exact ⟨of.1 _ h1, hw _ (List.mem_cons_of_mem _ h2)⟩
        have fl := forL_fold (A := Nat × Str) (S := List DV) (t := tTup [3, 4]) (fg := [3, 4]) (b := m_line_of_b1) (h := h) (fun q => .tup [sg q.1, .str q.2])
          (fun s => [.val (.str x), .val (.lst (DV.str n :: r.map DV.str)), .own s, .none, .none]) (fun s q => s ++ [partP q.1 q.2])
          (fun s l => s.length + l.length ≤ 1000 ∧ ∀ q ∈ l, q.1 < 1114112 ∧ okS q.2) ((tL f).zip r) [.str n] ⟨by simp only [List.length_cons, List.length_nil]; omega, okq⟩ (fun s q l ⟨h1, h2⟩ => by
            rw [List.length_cons] at h1
            obtain ⟨k1, k2⟩ := h2 q List.mem_cons_self
            have p := part_is k1 k2 h
            have z : s.length < 16777216 := by omega
            refine ⟨⟨by rw [List.length_append]; simp; omega, fun y hy => h2 y (List.mem_cons_of_mem _ hy)⟩, ?_⟩
            simp [m_line_of_b1, p, z])
        rw [fold_app, ← zipW_is partP] at fl
        have vn : ∀ h, vNin .non (.lst (DV.str n :: List.zipWith partP (tL f) r)) h = .ok (.bl ((List.zipWith partP (tL f) r).any isNon)) h := fun h => by
          rw [vNin_lst _ (by
            rw [List.all_cons, zipW_is, List.all_map, Bool.and_eq_true, List.all_eq_true]
            exact ⟨rfl, fun q _ => okND_part _ _⟩)]
          rfl
        rw [← ez, show [DV.str n] ++ List.zipWith partP (tL f) r = DV.str n :: List.zipWith partP (tL f) r from rfl] at fl
        generalize List.zipWith partP (tL f) r = PS at *
        cases zn : PS.any isNon with
        | true =>
          rw [zn] at vn
          simp [m_line_of, List.replicate, blank_is, sp, g0, vi, vt, vl, hl, ec, fl, vn]
        | false =>
          rw [zn] at vn
          simp [m_line_of, List.replicate, blank_is, sp, g0, vi, vt, vl, hl, ec, fl, vn]
      · rw [if_neg hl]
        have hl2 : ¬ ((r.length : Int) = ((tL f).length : Int)) := fun q => hl (by omega)
        simp [m_line_of, List.replicate, blank_is, sp, g0, vi, vt, vl, hl2, vNe_int]
    · have e0 : lineP (n :: r) = .non := by
        unfold lineP
        simp only [ef]
      have vi : ∀ h, vInT ks_FORMS true (.str n) h = .ok (.bl true) h := fun h => by
        rw [vInT_strN, kc]
        rfl
      rw [e0]
      simp [m_line_of, List.replicate, blank_is, sp, g0, vi]
/-! ### all rows -/
theorem read_loop (x : Str) (h : HP) : ∀ (rows : List Str) (k : Nat) (acc : List DV), (∀ w ∈ rows, okS w ∧ isNon (rowD w) = false) → acc.length + rows.length ≤ 16777216 →
    forL (tTup [2, 3]) m_read_program_b1 [2, 3, 4] (enD k (rows.map DV.str)) [.val (.str x), .own acc, .none, .none, .none] h = .nx [.val (.str x), .own (acc ++ rows.map rowD), .none, .none, .none] h
  | [], k, acc, _, _ => by
    rw [List.map_nil, List.map_nil, List.append_nil]
    rfl
  | w :: r, k, acc, hq, hl => by
    obtain ⟨h1, h2⟩ := hq w List.mem_cons_self
    have li := line_is h1 h
    rw [List.length_cons] at hl
    have z : acc.length < 16777216 := by omega
    have t : turn (tTup [2, 3]) m_read_program_b1 [2, 3, 4] (.tup [.int (k : Nat), .str w]) [.val (.str x), .own acc, .none, .none, .none] h = .nx [.val (.str x), .own (acc ++ [rowD w]), .none, .none, .none] h := by
      simp [m_read_program_b1, li, h2, z]
    have ih := read_loop x h r (k + 1) (acc ++ [rowD w]) (fun y hy => hq y (List.mem_cons_of_mem _ hy)) (by rw [List.length_append]; simp; omega)
    show forL (tTup [2, 3]) m_read_program_b1 [2, 3, 4] (.tup [.int (k : Nat), .str w] :: enD (k + 1) (r.map DV.str)) _ h = _
    rw [forL_cons, t, lR_nx, ih, List.append_assoc]
    rfl
theorem read_loop_bad (x : Str) (h : HP) : ∀ (a : List Str) (b : Str) (c : List Str) (k : Nat) (acc : List DV), (∀ w ∈ a, okS w ∧ isNon (rowD w) = false) → okS b → isNon (rowD b) = true → acc.length + a.length ≤ 16777216 →
    ∃ e, forL (tTup [2, 3]) m_read_program_b1 [2, 3, 4] (enD k ((a ++ b :: c).map DV.str)) [.val (.str x), .own acc, .none, .none, .none] h = .exc ⟨cNT, [.int ((k + a.length : Nat) : Int)]⟩ e h
  | [], b, c, k, acc, _, hb, hn, _ => by
    have li := line_is hb h
    have t : turn (tTup [2, 3]) m_read_program_b1 [2, 3, 4] (.tup [.int (k : Nat), .str b]) [.val (.str x), .own acc, .none, .none, .none] h = .exc ⟨cNT, [.int (k : Nat)]⟩ [.val (.str x), .own acc, .val (.int (k : Nat)), .val (.str b), .val (rowD b)] h := by
      simp [m_read_program_b1, li, hn]
    refine ⟨[.val (.str x), .own acc, .val (.int (k : Nat)), .val (.str b), .val (rowD b)], ?_⟩
    show forL (tTup [2, 3]) m_read_program_b1 [2, 3, 4] (.tup [.int (k : Nat), .str b] :: enD (k + 1) (c.map DV.str)) _ h = _
    rw [forL_cons, t]
    rfl
  | w :: r, b, c, k, acc, hq, hb, hn, hl => by
    obtain ⟨h1, h2⟩ := hq w List.mem_cons_self
    have li := line_is h1 h
    rw [List.length_cons] at hl
    have z : acc.length < 16777216 := by omega
    have t : turn (tTup [2, 3]) m_read_program_b1 [2, 3, 4] (.tup [.int (k : Nat), .str w]) [.val (.str x), .own acc, .none, .none, .none] h = .nx [.val (.str x), .own (acc ++ [rowD w]), .none, .none, .none] h := by
      simp [m_read_program_b1, li, h2, z]
    obtain ⟨e, ih⟩ := read_loop_bad x h r b c (k + 1) (acc ++ [rowD w]) (fun y hy => hq y (List.mem_cons_of_mem _ hy)) hb hn (by rw [List.length_append]; simp; omega)
    refine ⟨e, ?_⟩
    show forL (tTup [2, 3]) m_read_program_b1 [2, 3, 4] (.tup [.int (k : Nat), .str w] :: enD (k + 1) ((r ++ b :: c).map DV.str)) _ h = _
    rw [forL_cons, t, lR_nx, ih, List.length_cons, show k + 1 + r.length = k + (r.length + 1) by omega]
theorem read_ok {x : Str} (hx : okS x) (rows : List Str) (er : Txt.split x (tS [10]) = rows) (hq : ∀ w ∈ rows, isNon (rowD w) = false) (h : HP) : f_read_program [.str x] h = .ok (.lst (rows.map rowD)) h := by
  have sp := lSplit_is hx 10 h
  have hw := okS_cut hx (c := 10) (by decide)
  have few := split_few (y := tS [10]) hx
  rw [er] at sp hw few
  have l := read_loop x h rows 0 [] (fun w m => ⟨hw w m, hq w m⟩) (by rw [List.length_nil]; omega)
  unfold f_read_program
  rw [fnM_app]
  rw [List.nil_append] at l
  simp [m_read_program, List.replicate, nl_is, sp, l]
theorem read_bad {x : Str} (hx : okS x) (a : List Str) (b : Str) (c : List Str) (er : Txt.split x (tS [10]) = a ++ b :: c) (hq : ∀ w ∈ a, isNon (rowD w) = false) (hb : isNon (rowD b) = true) (h : HP) : f_read_program [.str x] h = .exc ⟨cNT, [.int ((a.length : Nat) : Int)]⟩ h := by
  have sp := lSplit_is hx 10 h
  have hw := okS_cut hx (c := 10) (by decide)
  have few := split_few (y := tS [10]) hx
  rw [er] at sp hw few
  rw [List.length_append, List.length_cons] at few
  obtain ⟨e, l⟩ := read_loop_bad x h a b c 0 [] (fun w m => ⟨hw w (List.mem_append_left _ m), hq w m⟩) (hw b (List.mem_append_right _ List.mem_cons_self)) hb (by rw [List.length_nil]; omega)
  rw [Nat.zero_add] at l
  unfold f_read_program
  rw [fnM_app]
  simp only [List.map_append, List.map_cons] at sp l
  simp [m_read_program, List.replicate, nl_is, sp, l]

end LM

-- dropped: shown_is name_shown
namespace LM
open PySem L2
/-! ### parts of lines -/
inductive Pt where
  | n (i : Int)
  | s (l : List Int)
  | w (x : Str)
def Pt.dv : Pt → DV
  | .n i => .int i
  | .s l => .tup (nums l)
  | .w x => .str x
def Pt.txt : Pt → Str
  | .n i => sI i
  | .s l => if l = [] then tS [45] else Str.join (tS [44]) (l.map sI)
  | .w x => x
def okP (k : Nat) (p : Pt) : Prop := match p with
  | .n i => k = 110 ∧ i.natAbs < 10 ^ 12
  | .s l => k = 115 ∧ l.length ≤ 9 ∧ ∀ i ∈ l, i.natAbs < 100
  | .w x => (k = 49 ∧ x ∈ onesL) ∨ (k = 50 ∧ x ∈ ks_BOTH) ∨ (k = 102 ∧ x ∈ foldsL)
def okT (n : Nat) (x : Str) : Prop := (∀ c ∈ tL x, 33 ≤ c ∧ c < 256) ∧ (tL x).length ≤ n
theorem okT_mono {m n : Nat} {x : Str} (h : okT m x) (q : m ≤ n) : okT n x := ⟨h.1, Nat.le_trans h.2 q⟩
theorem okT_ok {n : Nat} (hn : n ≤ 16000000) {x : Str} (h : okT n x) : okS x := ⟨fun c hc => by
  have := h.1 c hc
  omega, Nat.le_trans h.2 hn⟩
def okTW (n : Nat) (x : Str) : Bool := (tL x).all (fun c => Nat.ble 33 c && Nat.blt c 256) && Nat.ble (tL x).length n
theorem okTW_ok {n : Nat} {x : Str} (h : okTW n x = true) : okT n x := by
  unfold okTW at h
  rw [Bool.and_eq_true, List.all_eq_true, Nat.ble_eq] at h
  refine ⟨fun c hc => ?_, h.2⟩
  have := h.1 c hc
  rw [Bool.and_eq_true, Nat.ble_eq, Nat.blt_eq] at this
  exact this
theorem words_okT : (onesL ++ ks_BOTH ++ foldsL).all (okTW 10) = true := by decide +kernel
theorem word_okT {x : Str} (h : x ∈ onesL ∨ x ∈ ks_BOTH ∨ x ∈ foldsL) : okT 10 x := okTW_ok (List.all_eq_true.mp words_okT x (by
  rw [List.mem_append, List.mem_append]
  rcases h with h | h | h
  · exact .inl (.inl h)
  · exact .inl (.inr h)
  · exact .inr h))
theorem sI_okT (i : Int) (h : i.natAbs < 10 ^ 12) : okT 13 (sI i) := ⟨fun c hc => by
  have := sI_sign i c hc
  omega, sI_len i h⟩
theorem row_len (l : List Int) (h : l.length ≤ 9) (h2 : ∀ i ∈ l, i.natAbs < 100) : okT 126 (Str.join (tS [44]) (l.map sI)) := by
  have e := Nat.le_trans (join_len (tS [44]) (l.map sI)) (sum_le _ 14 (l.map sI) fun x hx => by
    obtain ⟨i, hi, e⟩ := List.mem_map.mp hx
    have := sI_len i (by have := h2 i hi; omega)
    rw [← e]
    simp only [tL_tS, List.length_singleton]
    omega)
  rw [List.length_map] at e
  refine ⟨fun c hc => ?_, by omega⟩
  rcases join_signs hc with ⟨t, ht, q⟩ | q
  · obtain ⟨i, hi, e⟩ := List.mem_map.mp ht
    rw [← e] at q
    have := sI_sign i c q
    omega
  · have : c = 44 := List.mem_singleton.mp q
    omega
theorem pt_okT {k : Nat} {p : Pt} (h : okP k p) : okT 126 p.txt := by
  cases p with
  | n i => exact okT_mono (sI_okT i h.2) (by decide)
  | s l =>
    show okT 126 (if l = [] then tS [45] else Str.join (tS [44]) (l.map sI))
    by_cases z : l = []
    · rw [if_pos z]
      exact okTW_ok (by decide)
    · rw [if_neg z]
      exact row_len l h.2.1 h.2.2
  | w x => exact okT_mono (word_okT (by
      rcases h with h | h | h
      · exact .inl h.2
      · exact .inr (.inl h.2)
      · exact .inr (.inr h.2))) (by decide)
theorem tS_plain {c : Nat} (hc : c < 256) : (tS [c]).cps.all (· < 256) = true := by
  show (#[c] : Array Nat).all (· < 256) = true
  simp [hc]
theorem comma_split (l : List Int) (h : l ≠ []) : Txt.split (Str.join (tS [44]) (l.map sI)) (tS [44]) = l.map sI := by
  rw [← TL.join_eq]
  exact TL.split_join (s := 44) (S := []) rfl (tS_plain (by decide)) (fun e => h (List.map_eq_nil_iff.mp e)) fun p hp hc => by
    obtain ⟨i, hi, e⟩ := List.mem_map.mp hp
    rw [← e] at hc
    have := sI_sign i 44 hc
    omega
theorem row_no_minus (l : List Int) (h : l ≠ []) : Str.join (tS [44]) (l.map sI) ≠ tS [45] := fun e => by
  cases l with
  | nil => exact h rfl
  | cons i r =>
    have q := congrArg tL e
    obtain ⟨d, t, w⟩ := sI_two i
    have hd : ∃ u, tL (Str.join (tS [44]) ((i :: r).map sI)) = tL (sI i) ++ u := by
      cases r with
      | nil => exact ⟨[], (List.append_nil _).symm⟩
      | cons j r =>
        refine ⟨tL (tS [44]) ++ tL (Str.join (tS [44]) ((j :: r).map sI)), ?_⟩
        show TL.tl (sI i ++ tS [44] ++ Str.join (tS [44]) ((j :: r).map sI)) = _
        rw [TL.tl_append, TL.tl_append, List.append_assoc]
        rfl
    obtain ⟨u, hu⟩ := hd
    rw [hu, tL_tS] at q
    rcases w with ⟨w, w2⟩ | w
    · rw [w] at q
      exact w2 (List.head_eq_of_cons_eq q)
    · rw [w] at q
      cases q
theorem nums_opt (l : List Int) : nums l = l.map fun i => optD (some i) := rfl
theorem pt_read {k : Nat} {p : Pt} (h : okP k p) : partP k p.txt = p.dv ∧ isNon p.dv = false := by
  cases p with
  | n i =>
    obtain ⟨h1, h2⟩ := h
    refine ⟨?_, rfl⟩
    unfold partP
    rw [if_pos h1]
    show optD (wholeL (tL (sI i))) = _
    rw [whole_sI i h2]
    rfl
  | s l =>
    obtain ⟨h1, h2, h3⟩ := h
    refine ⟨?_, rfl⟩
    subst h1
    unfold partP
    rw [if_neg (by decide), if_pos rfl]
    show numsP (if l = [] then tS [45] else Str.join (tS [44]) (l.map sI)) = .tup (nums l)
    by_cases z : l = []
    · rw [if_pos z, z]
      unfold numsP
      rw [if_pos rfl]
      rfl
    · rw [if_neg z]
      unfold numsP
      rw [if_neg (row_no_minus l z), comma_split l z]
      have e1 : ∀ i ∈ l, wholeL (tL (sI i)) = some i := fun i hi => whole_sI i (by have := h3 i hi; omega)
      have e2 : (l.map sI).any (fun w => (wholeL (tL w)).isNone) = false := by
        rw [List.any_map, List.any_eq_false]
        intro i hi
        show ¬ (wholeL (tL (sI i))).isNone = true
        rw [e1 i hi]
        simp
      rw [e2, if_neg (by simp), List.map_map, nums_opt]
      congr 1
      apply List.map_congr_left
      intro i hi
      show optD (wholeL (tL (sI i))) = _
      rw [e1 i hi]
  | w x =>
    refine ⟨?_, rfl⟩
    have anyL : ∀ l : List Str, x ∈ l → l.any (· == x) = true := fun l m => List.any_eq_true.mpr ⟨x, m, beq_self_eq_true x⟩
    show partP k x = .str x
    unfold partP
    rcases h with h | h | h
    · rw [h.1, if_neg (by decide), if_neg (by decide), anyL _ h.2]
      rfl
    · rw [h.1, if_neg (by decide), if_neg (by decide), List.contains_iff_mem.mpr h.2]
      rfl
    · rw [h.1, if_neg (by decide), if_neg (by decide), anyL _ h.2]
      rfl
/-! ### their texts, written -/
theorem isI_int (i : Int) (h : HP) : vIsI .tuple (.int i) h = .ok (.bl false) h := rfl
theorem isI_str (x : Str) (h : HP) : vIsI .tuple (.str x) h = .ok (.bl false) h := rfl
theorem vStr_int (i : Int) (hi : i.natAbs < 10 ^ 12) (h : HP) : vStr (.int i) h = .ok (.str (sI i)) h := by
  have : i.natAbs.log2 < 1920 := by
    by_cases z : i.natAbs = 0
    · rw [z]
      decide
    · have := (Nat.log2_lt z (k := 41)).mpr (by omega)
      omega
  show (if i.natAbs.log2 < 1920 then (pure (DV.str (sI i)) : M DV) else M.bad) h = _
  rw [if_pos this]
  rfl
theorem strs_loop {N : Nat} {e : En} (l : List Int) (h2 : ∀ i ∈ l, i.natAbs < 100) (h3 : l.length ≤ 9) (hi : (iB (eVar 0) itS) e = fun h => .ok (l.map DV.int) h) (hN : e.length = 2) (h : HP) :
    mLc [1] (iB (eVar 0) itS) (tName 1) mYes (e1 vStr (eVar 1)) e h = .ok ((l.map sI).map DV.str) h := by
  rw [List.map_map]
  refine mLc_ints (A := Int) DV.int (fun i => DV.str (sI i)) (by rw [hi]) (by omega) fun i hi => ?_
  have v := vStr_int i (by have := h2 i hi; omega) h
  refine ⟨_, rfl, ?_⟩
  match e, hN with
  | [a, b], _ => simp [v]
theorem vJoin_is (y : Str) (l : List Str) (h : HP) (q : joinOk y l = true) : vJoin y (.lst (l.map DV.str)) h = .ok (.str (Str.join y l)) h := by
  show (match strsD (l.map DV.str) with
    | some ys => if joinOk y ys then Res.ok (DV.str (Str.join y ys)) h else .bad
    | none => .bad) = _
  rw [strsD_map]
  show (if joinOk y l then Res.ok (DV.str (Str.join y l)) h else .bad) = _
  rw [q]
  rfl
theorem row_can (l : List Int) (h3 : l.length ≤ 9) (h2 : ∀ i ∈ l, i.natAbs < 100) : joinOk (tS [44]) (l.map sI) = true := join_can (k := 13) (fun x hx => by
    obtain ⟨i, hi, e⟩ := List.mem_map.mp hx
    rw [← e]
    exact sI_len i (by have := h2 i hi; omega)) (by
    rw [List.length_map]
    simp only [tL_tS, List.length_singleton]
    omega)
theorem word_is {k : Nat} {p : Pt} (hp : okP k p) (h : HP) : f_law_word [p.dv] h = .ok (.str p.txt) h := by
  unfold f_law_word
  rw [fnM_app]
  cases p with
  | n i =>
    have v := vStr_int i hp.2
    simp [m_law_word, List.replicate, Pt.dv, Pt.txt, isI_int, v]
  | w x =>
    have v : ∀ h, vStr (.str x) h = .ok (.str x) h := fun _ => rfl
    simp [m_law_word, List.replicate, Pt.dv, Pt.txt, isI_str, v]
  | s l =>
    obtain ⟨h1, h2, h3⟩ := hp
    have q1 : ∀ h, vEq (.tup (nums l)) (.tup []) h = .ok (.bl (decide (l = []))) h := fun h => vEq_tup h l []
    by_cases z : l = []
    · subst z
      have q0 : ∀ h, vEq (.tup []) (.tup []) h = .ok (.bl true) h := fun h => vEq_tup h [] []
      simp [m_law_word, List.replicate, Pt.dv, Pt.txt, q0, minus_is]
    · have c1 := strs_loop (N := 2) (e := [.val (.tup (nums l)), .none]) l h3 h2 rfl rfl h
      have j := vJoin_is (tS [44]) (l.map sI) h (row_can l h2 h3)
      rw [List.map_map] at c1 j
      simp only [m_law_word, m_law_word_c1]
      simp [List.replicate, Pt.dv, Pt.txt, q1, z, comma_is, c1, j]
theorem name_word (x : Str) (h : HP) : f_law_word [.str x] h = .ok (.str x) h := by
  unfold f_law_word
  rw [fnM_app]
  have v : ∀ h, vStr (.str x) h = .ok (.str x) h := fun _ => rfl
  simp [m_law_word, List.replicate, isI_str, v]

end LM

-- dropped: 
namespace LM
open PySem L2
theorem f_law_whole_is (i : Int) (h : HP) : f_law_whole [.int i] h = .ok (.bl true) h := by
  unfold f_law_whole
  rw [fnM_app]
  simp [m_law_whole, List.replicate]
theorem whole_loop (l : List Int) (S U : Slot) (h : HP) : forL (tName 2) m_law_numbers_b1 [2] (nums l) [S, U, .none] h = .nx [S, U, .none] h := by
  induction l with
  | nil => simp [forL]
  | cons x r ih =>
    have t : turn (tName 2) m_law_numbers_b1 [2] (.int x) [S, U, .none] h = .nx [S, U, .none] h := by simp [m_law_numbers_b1, f_law_whole_is]
    rw [nums_cons, forL_cons, t, lR_nx, ih]
theorem f_law_numbers_is (l m : List Int) (h : HP) : f_law_numbers [.tup (nums l), .tup (nums m)] h = .ok (.bl (decide (l = m))) h := by
  unfold f_law_numbers
  rw [fnM_app]
  by_cases z : l.length = m.length
  · simp [m_law_numbers, List.replicate, whole_loop, z, vEq_tup]
  · have z2 : ¬ (l.length : Int) = m.length := by omega
    have z3 : ¬ l = m := fun e => z (by rw [e])
    simp [m_law_numbers, List.replicate, z, z2, z3]

/-! ### lines, programs -/
def formsL : List (Str × Str) := tab_FORMS.filterMap fun t => match t.2 with
  | .str f => some (t.1, f)
  | _ => none
structure Ln where
  n : Str
  f : Str
  ps : List Pt
def Ln.dv (l : Ln) : DV := .tup (.str l.n :: l.ps.map Pt.dv)
def Ln.txts (l : Ln) : List Str := l.n :: l.ps.map Pt.txt
def Ln.txt (l : Ln) : Str := Str.join (tS [32]) l.txts
def okL (l : Ln) : Prop := (l.n, l.f) ∈ formsL ∧ l.ps.length = (tL l.f).length ∧ ∀ q ∈ (tL l.f).zip l.ps, okP q.1 q.2
theorem forms_ok : (formsL.all fun q => okTW 10 q.1 && (okTW 5 q.2 && (decide (formOf q.1 = some q.2) && !(tL q.2).isEmpty))) = true := by decide +kernel
theorem ln_forms {l : Ln} (h : okL l) : okT 10 l.n ∧ okT 5 l.f ∧ formOf l.n = some l.f := by
  have := List.all_eq_true.mp forms_ok _ h.1
  simp only [Bool.and_eq_true, decide_eq_true_eq] at this
  exact ⟨okTW_ok this.1, okTW_ok this.2.1, this.2.2.1⟩
theorem ln_few {l : Ln} (h : okL l) : l.ps.length ≤ 5 := by
  rw [h.2.1]
  exact (ln_forms h).2.1.2
theorem zip_snd {A B : Type} : ∀ {l : List A} {m : List B}, m.length = l.length → ∀ y ∈ m, ∃ x, (x, y) ∈ l.zip m
  | [], m, h, y, hy => by
    rw [List.eq_nil_of_length_eq_zero h] at hy
    cases hy
  | x :: l, [], h, y, hy => by cases hy
  | x :: l, z :: m, h, y, hy => by
    rcases List.mem_cons.mp hy with e | e
    · exact ⟨x, by rw [e]; exact List.mem_cons_self⟩
    · obtain ⟨x2, q⟩ := zip_snd (l := l) (m := m) (by simpa using h) y e
      exact ⟨x2, List.mem_cons_of_mem _ q⟩
theorem ln_part {l : Ln} (h : okL l) : ∀ p ∈ l.ps, ∃ k, okP k p := fun p hp => by
  obtain ⟨k, q⟩ := zip_snd h.2.1 p hp
  exact ⟨k, h.2.2 _ q⟩
theorem ln_txts {l : Ln} (h : okL l) : ∀ x ∈ l.txts, okT 126 x := fun x hx => by
  rcases List.mem_cons.mp hx with e | e
  · rw [e]
    exact okT_mono (ln_forms h).1 (by decide)
  · obtain ⟨p, hp, e2⟩ := List.mem_map.mp e
    obtain ⟨k, q⟩ := ln_part h p hp
    rw [← e2]
    exact pt_okT q
theorem ln_txts_len {l : Ln} (h : okL l) : l.txts.length ≤ 6 := by
  have := ln_few h
  show (l.n :: l.ps.map Pt.txt).length ≤ 6
  rw [List.length_cons, List.length_map]
  omega
theorem blank_split {ws : List Str} (hne : ws ≠ []) (h : ∀ w ∈ ws, 32 ∉ tL w) : Txt.split (Str.join (tS [32]) ws) (tS [32]) = ws := by
  rw [← TL.join_eq]
  exact TL.split_join (s := 32) (S := []) rfl (tS_plain (by decide)) hne h
theorem okT_no {n : Nat} {x : Str} (h : okT n x) {c : Nat} (hc : c < 33) : c ∉ tL x := fun m => by
  have := h.1 c m
  omega
theorem parts_read : ∀ (f : List Nat) (ps : List Pt), ps.length = f.length → (∀ q ∈ f.zip ps, okP q.1 q.2) → List.zipWith partP f (ps.map Pt.txt) = ps.map Pt.dv ∧ (ps.map Pt.dv).any isNon = false
  | [], [], _, _ => ⟨rfl, rfl⟩
  | [], _ :: _, h, _ => by simp at h
  | _ :: _, [], h, _ => by simp at h
  | k :: f, p :: ps, h, q => by
    obtain ⟨a, b⟩ := pt_read (q (k, p) List.mem_cons_self)
    obtain ⟨c, d⟩ := parts_read f ps (by simpa using h) fun y hy => q y (List.mem_cons_of_mem _ hy)
    refine ⟨?_, ?_⟩
    · rw [List.map_cons, List.map_cons, List.zipWith_cons_cons, a, c]
    · rw [List.map_cons, List.any_cons, b, d]
      rfl
theorem ln_lineP {l : Ln} (h : okL l) : lineP l.txts = l.dv := by
  obtain ⟨a, b⟩ := parts_read _ _ h.2.1 h.2.2
  obtain ⟨f1, f2, f3⟩ := ln_forms h
  unfold Ln.txts Ln.dv lineP
  simp only [f3]
  rw [List.length_map, if_pos h.2.1, a, b]
  rfl
theorem ln_row {l : Ln} (h : okL l) : rowD l.txt = l.dv := by
  unfold rowD Ln.txt
  rw [blank_split (by unfold Ln.txts; simp) fun w hw => okT_no (ln_txts h w hw) (by decide), ln_lineP h]
theorem ln_txt {l : Ln} (h : okL l) : (∀ c ∈ tL l.txt, 32 ≤ c ∧ c < 256) ∧ (tL l.txt).length ≤ 762 := by
  refine ⟨fun c hc => ?_, ?_⟩
  · rcases join_signs hc with ⟨t, ht, q⟩ | q
    · have := (ln_txts h t ht).1 c q
      omega
    · have : c = 32 := List.mem_singleton.mp q
      omega
  · have e := Nat.le_trans (join_len (tS [32]) l.txts) (sum_le _ 127 l.txts fun x hx => by
      have := (ln_txts h x hx).2
      simp only [tL_tS, List.length_singleton]
      omega)
    have := ln_txts_len h
    show (tL (Str.join (tS [32]) l.txts)).length ≤ 762
    omega
def progT (ls : List Ln) : Str := Str.join (tS [10]) (ls.map Ln.txt)
theorem rows_split {rs : List Str} (hne : rs ≠ []) (h : ∀ w ∈ rs, 10 ∉ tL w) : Txt.split (Str.join (tS [10]) rs) (tS [10]) = rs := by
  rw [← TL.join_eq]
  exact TL.split_join (s := 10) (S := []) rfl (tS_plain (by decide)) hne h
theorem rows_ok {rs : List Str} {n : Nat} (h : ∀ w ∈ rs, (∀ c ∈ tL w, c < 256) ∧ (tL w).length ≤ n) (hn : (n + 1) * rs.length ≤ 16000000) : okS (Str.join (tS [10]) rs) := by
  refine (join_okS (k := n + 1) (fun c hc => ?_) (fun x hx => ⟨fun c hc => ?_, ?_⟩) hn).1
  · have : c = 10 := List.mem_singleton.mp hc
    omega
  · have := (h x hx).1 c hc
    omega
  · have := (h x hx).2
    simp only [tL_tS, List.length_singleton]
    omega
theorem rows_can {rs : List Str} {n : Nat} (h : ∀ w ∈ rs, (tL w).length ≤ n) (hn : (n + 1) * rs.length ≤ 16000000) : joinOk (tS [10]) rs = true := join_can (k := n) h (by
  simp only [tL_tS, List.length_singleton]
  rw [Nat.add_mul] at hn
  omega)
theorem words_can {ws : List Str} (h : ∀ w ∈ ws, okT 126 w) (hn : ws.length ≤ 1000) : joinOk (tS [32]) ws = true := join_can (k := 126) (fun w hw => (h w hw).2) (by
  simp only [tL_tS, List.length_singleton]
  omega)
section
variable {ls : List Ln} (ok : ∀ l ∈ ls, okL l) (few : ls.length ≤ 1000)
include ok few
theorem prog_ok : okS (progT ls) := rows_ok (n := 762) (fun w hw => by
  obtain ⟨l, hl, e⟩ := List.mem_map.mp hw
  rw [← e]
  obtain ⟨a, b⟩ := ln_txt (ok l hl)
  exact ⟨fun c hc => (a c hc).2, b⟩) (by rw [List.length_map]; omega)
theorem prog_can : joinOk (tS [10]) (ls.map Ln.txt) = true := rows_can (n := 762) (fun w hw => by
  obtain ⟨l, hl, e⟩ := List.mem_map.mp hw
  rw [← e]
  exact (ln_txt (ok l hl)).2) (by rw [List.length_map]; omega)
theorem prog_read (hne : ls ≠ []) (h : HP) : f_read_program [.str (progT ls)] h = .ok (.lst (ls.map Ln.dv)) h := by
  have e := read_ok (prog_ok ok few) (ls.map Ln.txt) (rows_split (fun e => hne (List.map_eq_nil_iff.mp e)) fun w hw => by
    obtain ⟨l, hl, e⟩ := List.mem_map.mp hw
    rw [← e]
    intro hc
    have := (ln_txt (ok l hl)).1 _ hc
    omega) (fun w hw => by
      obtain ⟨l, hl, e⟩ := List.mem_map.mp hw
      rw [← e, ln_row (ok l hl)]
      rfl) h
  rw [e, List.map_map]
  congr 2
  apply List.map_congr_left
  intro l hl
  exact ln_row (ok l hl)
end
/-! ### the same program -/
theorem whole_pt (i : Int) (h : HP) : f_law_whole [.int i] h = .ok (.bl true) h := f_law_whole_is i h
theorem whole_tup (l : List DV) (h : HP) : f_law_whole [.tup l] h = .ok (.bl false) h := by
  unfold f_law_whole
  rw [fnM_app]
  have q : vIsI .int (.tup l) h = .ok (.bl false) h := rfl
  simp [m_law_whole, List.replicate, q]
theorem whole_str (x : Str) (h : HP) : f_law_whole [.str x] h = .ok (.bl false) h := by
  unfold f_law_whole
  rw [fnM_app]
  have q : vIsI .int (.str x) h = .ok (.bl false) h := rfl
  simp [m_law_whole, List.replicate, q]
inductive Vl where
  | num (j : Int)
  | tup (l : List Int)
  | wd (x : Str)
def Vl.dv : Vl → DV
  | .num j => .int j
  | .tup l => .tup (nums l)
  | .wd x => .str x
def Vl.ok : Vl → Prop
  | .wd x => okS x
  | _ => True
theorem same_turn (v : Vl) (hv : v.ok) (A B C : Slot) (h : HP) : turn (tTup [3, 4]) m_law_same_b1 [3, 4] (.tup [v.dv, v.dv]) [A, B, C, .none, .none] h = .nx [A, B, C, .none, .none] h := by
  cases v with
  | num i =>
    have e : ∀ h, vEq (.int i) (.int i) h = .ok (.bl true) h := fun h => by rw [vEq_int, decide_eq_true rfl]
    have t1 : ∀ h, vIsI .tuple (.int i) h = .ok (.bl false) h := fun h => rfl
    have t2 : ∀ h, vIsI .str (.int i) h = .ok (.bl false) h := fun h => rfl
    simp [m_law_same_b1, Vl.dv, t1, t2, whole_pt, e]
  | tup l =>
    have t2 : ∀ h, vIsI .str (.tup (nums l)) h = .ok (.bl false) h := fun h => rfl
    have e := fun h => f_law_numbers_is l l h
    simp [m_law_same_b1, Vl.dv, t2, whole_tup, e]
  | wd x =>
    have t1 : ∀ h, vIsI .tuple (.str x) h = .ok (.bl false) h := fun h => rfl
    have t2 : ∀ h, vIsI .str (.str x) h = .ok (.bl true) h := fun h => rfl
    have e : ∀ h, vEq (.str x) (.str x) h = .ok (.bl true) h := fun h => by rw [vEqS hv hv, decide_eq_true rfl]
    simp [m_law_same_b1, Vl.dv, t1, t2, whole_str, e]
theorem same_loop (A B C : Slot) (h : HP) : ∀ vs : List Vl, (∀ v ∈ vs, v.ok) → forL (tTup [3, 4]) m_law_same_b1 [3, 4] (zipD (vs.map Vl.dv) (vs.map Vl.dv)) [A, B, C, .none, .none] h = .nx [A, B, C, .none, .none] h
  | [], _ => rfl
  | v :: vs, q => by
    rw [List.map_cons, zipD_cons, forL_cons, same_turn v (q v List.mem_cons_self), lR_nx, same_loop A B C h vs fun w hw => q w (List.mem_cons_of_mem _ hw)]
def Pt.vl : Pt → Vl
  | .n j => .num j
  | .s l => .tup l
  | .w x => .wd x
theorem pt_vl (p : Pt) : p.vl.dv = p.dv := by cases p <;> rfl
theorem pt_vl_ok {k : Nat} {p : Pt} (h : okP k p) : p.vl.ok := by
  cases p with
  | w x => exact okT_ok (by decide) (pt_okT h)
  | _ => trivial
theorem same_is {ls : List Ln} (ok : ∀ l ∈ ls, okL l) (few : ls.length ≤ 1000) (h : HP) : f_law_same [.lst (ls.map Ln.dv), .lst (ls.map Ln.dv)] h = .ok (.bl true) h := by
  have at_ : ∀ k, k < ls.length → ∃ l, ls[k]? = some l ∧ okL l := fun k hk => ⟨ls[k], List.getElem?_eq_getElem hk, ok _ (List.getElem_mem hk)⟩
  have key : ∀ ks : List Nat, (∀ k ∈ ks, k < ls.length) → forL (tName 2) m_law_same_b2 [2, 3, 4] (ks.map fun (k : Nat) => DV.int (k : Int)) [.val (.lst (ls.map Ln.dv)), .val (.lst (ls.map Ln.dv)), .none, .none, .none] h = .nx [.val (.lst (ls.map Ln.dv)), .val (.lst (ls.map Ln.dv)), .none, .none, .none] h := by
    intro ks
    induction ks with
    | nil => exact fun _ => rfl
    | cons k ks ih =>
      intro hk
      obtain ⟨l, e1, okl⟩ := at_ k (hk k List.mem_cons_self)
      have g : ∀ h, getI (ls.map Ln.dv) (k : Int) h = .ok l.dv h := fun h => getI_nat h _ k (by rw [List.getElem?_map, e1]; rfl)
      have ev : l.dv = .tup ((Vl.wd l.n :: l.ps.map Pt.vl).map Vl.dv) := by
        unfold Ln.dv
        rw [List.map_cons, List.map_map]
        have : l.ps.map Pt.dv = l.ps.map (Vl.dv ∘ Pt.vl) := List.map_congr_left fun p _ => (pt_vl p).symm
        rw [this]
        rfl
      have sl := fun A B C => same_loop A B C h (Vl.wd l.n :: l.ps.map Pt.vl) (fun v hv => by
        rcases List.mem_cons.mp hv with e | e
        · rw [e]
          exact okT_ok (by decide) (ln_forms okl).1
        · obtain ⟨p, hp, e2⟩ := List.mem_map.mp e
          obtain ⟨q, hq⟩ := ln_part okl p hp
          rw [← e2]
          exact pt_vl_ok hq)
      generalize (Vl.wd l.n :: l.ps.map Pt.vl).map Vl.dv = W at *
      rw [ev] at g
      generalize ls.map Ln.dv = D at *
      have t : turn (tName 2) m_law_same_b2 [2, 3, 4] (.int (k : Int)) [.val (.lst D), .val (.lst D), .none, .none, .none] h = .nx [.val (.lst D), .val (.lst D), .none, .none, .none] h := by
        simp [m_law_same_b2, g, sl, vNe_int]
      rw [List.map_cons, forL_cons, t, lR_nx, ih fun j hj => hk j (List.mem_cons_of_mem _ hj)]
  have k0 := key (List.range ls.length) fun k hk => List.mem_range.mp hk
  have er : rng ls.length = (List.range ls.length).map fun (k : Nat) => DV.int (k : Int) := rfl
  have ir : itN (.int ((ls.length : Nat) : Int)) h = .ok (rng ls.length) h := itN_nat h ls.length (by omega)
  rw [← er] at k0
  unfold f_law_same
  rw [fnM_app]
  have elen : (ls.map Ln.dv).length = ls.length := List.length_map ..
  generalize ls.map Ln.dv = D at *
  simp [m_law_same, List.replicate, vNe_int, elen, ir, k0]

end LM

-- dropped: ws_shown written_is
namespace LM
open PySem L2
/-! ### drawing -/
theorem f_law_taken_is (ns : List Int) (m : Int) (hm : 0 < m) (h : HP) (r : Row ns h) : ∃ (t : Int) (h' : HP), 0 ≤ t ∧ t < m ∧ Row ns h' ∧ f_law_taken [.ref 0, .int m] h = .ok (.int t) h' := by
  obtain ⟨k, tl, e⟩ := r
  subst e
  have r0 := fun (j : Int) => vIdx_ref 0 1 (HObj.lst [.scr ns, .int j] :: tl) [.scr ns, .int j] rfl
  have r1 := fun (j : Int) => vIdx_ref 0 0 (HObj.lst [.scr ns, .int j] :: tl) [.scr ns, .int j] rfl
  have st : ∀ j : Int, hSet (HObj.lst [.scr ns, .int j] :: tl) (.ref 0) (.int 1) (.int (j + 1)) = some (HObj.lst [.scr ns, .int (j + 1)] :: tl) := fun j => rfl
  unfold f_law_taken
  rw [fnM_app]
  by_cases z : k < ns.length
  · have g := getI_nat (HObj.lst [.scr ns, .int ((k : Int) + 1)] :: tl) (nums ns) k (nums_at z)
    have z2 : (k : Int) < ns.length := by omega
    refine ⟨ns.getD k 0 % m, _, Int.emod_nonneg _ (by omega), Int.emod_lt_of_pos _ hm, ⟨k + 1, tl, rfl⟩, ?_⟩
    simp only [List.getD_eq_getElem?_getD] at g ⊢
    simp [m_law_taken, List.replicate, r0, r1, getI0, getI1, st, z, z2, g, hm]
  · have z2 : ¬ (k : Int) < ns.length := by omega
    refine ⟨0, _, by decide, hm, ⟨k + 1, tl, rfl⟩, ?_⟩
    simp [m_law_taken, List.replicate, r0, r1, getI0, getI1, st, z, z2]

/-! ### written programs -/
def Ln.ws (l : Ln) : List (DV × Str) := (.str l.n, l.n) :: l.ps.map fun p => (p.dv, p.txt)
theorem ws_dv (l : Ln) : l.ws.map (·.1) = .str l.n :: l.ps.map Pt.dv := by
  unfold Ln.ws
  rw [List.map_cons, List.map_map]
  rfl
theorem ws_txt (l : Ln) : l.ws.map (fun q => DV.str q.2) = l.txts.map DV.str := by
  unfold Ln.ws Ln.txts
  rw [List.map_cons, List.map_map, List.map_cons, List.map_map]
  rfl
theorem ws_len {l : Ln} (h : okL l) : l.ws.length ≤ 6 := by
  have := ln_few h
  unfold Ln.ws
  rw [List.length_cons, List.length_map]
  omega
theorem ws_word {l : Ln} (ok : okL l) (h : HP) : ∀ q ∈ l.ws, f_law_word [q.1] h = .ok (.str q.2) h := fun q hq => by
  rcases List.mem_cons.mp hq with e | e
  · rw [e]
    exact name_word _ h
  · obtain ⟨p, hp, e2⟩ := List.mem_map.mp e
    obtain ⟨k, w⟩ := ln_part ok p hp
    rw [← e2]
    exact word_is w h
theorem ln_can {l : Ln} (ok : okL l) : joinOk (tS [32]) l.txts = true := words_can (ln_txts ok) (Nat.le_trans (ln_txts_len ok) (by decide))
/-! ### drawing -/
theorem lcL_two {A B : Type} (g : A → DV) (f : B → DV) {t : DV → En → Option En} {me : En → M DV} {e : En} (R : HP → Prop) (P : A → B → Prop) : ∀ (l : List A) (h : HP), R h → (∀ x ∈ l, ∀ h, R h → ∃ (e1 : En) (v : B) (h' : HP), t (g x) e = some e1 ∧ me e1 h = .ok (f v) h' ∧ P x v ∧ R h') →
    ∃ (vs : List B) (h' : HP), lcL t mYes me e (l.map g) h = .ok (vs.map f) h' ∧ vs.length = l.length ∧ (∀ q ∈ l.zip vs, P q.1 q.2) ∧ R h'
  | [], h, r, _ => ⟨[], h, rfl, rfl, (fun v m => by cases m), r⟩
  | x :: l, h, r, q => by
    obtain ⟨e1, v, h1, a, b, p, r1⟩ := q x List.mem_cons_self h r
    obtain ⟨vs, h2, c, d, p2, r2⟩ := lcL_two g f R P l h1 r1 fun y hy => q y (List.mem_cons_of_mem _ hy)
    refine ⟨v :: vs, h2, ?_, by rw [List.length_cons, List.length_cons, d], fun w hw => ?_, r2⟩
    · rw [List.map_cons, lcL_is]
      unfold lcOne
      rw [a]
      show bR (bR (me e1 h) _) _ = _
      rw [b, bR_ok, bR_ok, c, bR_ok]
      rfl
    · rcases List.mem_cons.mp hw with z | z
      · rw [z]
        exact p
      · exact p2 w z
theorem mLc_two {A B : Type} (g : A → DV) (f : B → DV) {vs : List Nat} {mi : En → M (List DV)} {t : DV → En → Option En} {me : En → M DV} {e : En} {h h1 : HP} {l : List A} (R : HP → Prop) (P : A → B → Prop) (hi : mi e h = .ok (l.map g) h1) (hl : l.length ≤ 16777216) (r : R h1)
    (q : ∀ x ∈ l, ∀ h, R h → ∃ (e1 : En) (v : B) (h' : HP), t (g x) (wipeE e vs) = some e1 ∧ me e1 h = .ok (f v) h' ∧ P x v ∧ R h') : ∃ (ws : List B) (h' : HP), mLc vs mi t mYes me e h = .ok (ws.map f) h' ∧ ws.length = l.length ∧ (∀ v ∈ l.zip ws, P v.1 v.2) ∧ R h' := by
  obtain ⟨ws, h2, a, b, c, d⟩ := lcL_two g f R P l h1 r q
  refine ⟨ws, h2, ?_, b, c, d⟩
  unfold mLc
  rw [bind_app, hi, bR_ok, if_pos (by rw [List.length_map]; exact hl)]
  unfold noX
  rw [a]
def okK (k : Nat) : Prop := k = 110 ∨ k = 115 ∨ k = 49 ∨ k = 50 ∨ k = 102
theorem forms_K : (formsL.all fun q => (tL q.2).all fun k => k == 110 || (k == 115 || (k == 49 || (k == 50 || k == 102)))) = true := by decide +kernel
theorem form_K {n f : Str} (h : (n, f) ∈ formsL) : ∀ k ∈ tL f, okK k := fun k hk => by
  have := List.all_eq_true.mp (List.all_eq_true.mp forms_K _ h) k hk
  simpa [okK] using this
theorem part_draw (ns : List Int) {k : Nat} (hk : okK k) (h : HP) (r : Row ns h) : ∃ (p : Pt) (h' : HP), f_law_part [.ref 0, sg k] h = .ok p.dv h' ∧ okP k p ∧ Row ns h' := by
  unfold f_law_part sg
  rw [fnM_app]
  have kk : k < 1114112 := by
    unfold okK at hk
    omega
  have q1 := fun h => vEq_sign kk (c := 110) (by decide) h
  have q2 := fun h => vEq_sign kk (c := 115) (by decide) h
  have q3 := fun h => vEq_sign kk (c := 49) (by decide) h
  have q5 := fun h => vEq_sign kk (c := 102) (by decide) h
  rcases hk with e | e | e | e | e
  · subst e
    have q1 : ∀ h, vEq (.str (tS [110])) (.str (tS [110])) h = .ok (.bl true) h := q1
    obtain ⟨w, h1, w0, w1, r1, e1⟩ := f_law_taken_is ns 4 (by decide) h r
    obtain ⟨m, h2, m0, m1, r2, e2⟩ := f_law_taken_is ns 1000000000000 (by decide) h1 r1
    have ep : ∀ h, vPow (.int 10) (.int 12) h = .ok (.int 1000000000000) h := fun h => rfl
    by_cases z : w < 2
    · refine ⟨.n (m % 50 - 9), h2, ?_, ⟨rfl, by omega⟩, r2⟩
      simp [m_law_part, List.replicate, n_is, q1, e1, e2, ep, z, Pt.dv]
    · by_cases z2 : w = 2
      · subst z2
        refine ⟨.n m, h2, ?_, ⟨rfl, by omega⟩, r2⟩
        simp [m_law_part, List.replicate, n_is, q1, e1, e2, ep, Pt.dv, getI0]
      · have z3 : w = 3 := by omega
        subst z3
        refine ⟨.n (0 - m), h2, ?_, ⟨rfl, by omega⟩, r2⟩
        simp [m_law_part, List.replicate, n_is, q1, e1, e2, ep, Pt.dv, getI1]
  · subst e
    have q1 : ∀ h, vEq (.str (tS [115])) (.str (tS [110])) h = .ok (.bl false) h := q1
    have q2 : ∀ h, vEq (.str (tS [115])) (.str (tS [115])) h = .ok (.bl true) h := q2
    obtain ⟨w, h1, w0, w1, r1, e1⟩ := f_law_taken_is ns 10 (by decide) h r
    obtain ⟨wn, rfl⟩ := Int.eq_ofNat_of_zero_le w0
    have c1 := mLc_nums (A := Nat) (fun k => .int (k : Int)) (vs := [5]) (mi := (iB (eCall f_law_taken (aCons (eVar 0) (aCons (eC (.int 10)) aNil))) itN)) (t := tName 5) (me := (e2 vSub (eCall f_law_taken (aCons (eVar 0) (aCons (eC (.int 70)) aNil))) (eC (.int 3))))
      (e := [.val (.ref 0), .val (.str (tS [115])), .none, .none, .none, .none]) (h := h) (h1 := h1) (l := List.range wn) (Row ns) (fun _ v => v.natAbs < 100)
      (by simp [e1, rng_map, show wn ≤ 16777216 by omega]) (by simp; omega) r1 (fun k hk h r => by
        obtain ⟨a, h', a0, a1, rr, ea⟩ := f_law_taken_is ns 70 (by decide) h r
        exact ⟨_, a - 3, h', rfl, by simp [ea], by omega, rr⟩)
    obtain ⟨l, h2, c1, ll, pl, r2⟩ := c1
    rw [List.length_range] at ll
    refine ⟨.s l, h2, ?_, ⟨rfl, by omega, fun i hi => ?_⟩, r2⟩
    · simp only [m_law_part, m_law_part_c1]
      simp [List.replicate, n_is, s_is, q1, q2, c1, Pt.dv]
    · obtain ⟨_, _, q⟩ := pl i hi
      exact q
  · subst e
    have q1 : ∀ h, vEq (.str (tS [49])) (.str (tS [110])) h = .ok (.bl false) h := q1
    have q2 : ∀ h, vEq (.str (tS [49])) (.str (tS [115])) h = .ok (.bl false) h := q2
    have q3 : ∀ h, vEq (.str (tS [49])) (.str (tS [49])) h = .ok (.bl true) h := q3
    obtain ⟨w, h1, w0, w1, r1, e1⟩ := f_law_taken_is ns 3 (by decide) h r
    obtain ⟨wn, rfl⟩ := Int.eq_ofNat_of_zero_le w0
    have lw : wn < onesL.length := by show wn < 3; omega
    have g : ∀ h, getI [DV.str (Str.ofString "minus"), DV.str (Str.ofString "half"), DV.str (Str.ofString "none")] (wn : Int) h = .ok (.str onesL[wn]) h := fun h => getI_nat h _ wn (by
      show (onesL.map DV.str)[wn]? = _
      rw [List.getElem?_map, List.getElem?_eq_getElem lw]
      rfl)
    refine ⟨.w onesL[wn], h1, ?_, .inl ⟨rfl, List.getElem_mem lw⟩, r1⟩
    simp [m_law_part, List.replicate, n_is, s_is, o_is, q1, q2, q3, e1, g, Pt.dv]
  · subst e
    have q1 : ∀ h, vEq (.str (tS [50])) (.str (tS [110])) h = .ok (.bl false) h := q1
    have q2 : ∀ h, vEq (.str (tS [50])) (.str (tS [115])) h = .ok (.bl false) h := q2
    have q3 : ∀ h, vEq (.str (tS [50])) (.str (tS [49])) h = .ok (.bl false) h := q3
    have q5 : ∀ h, vEq (.str (tS [50])) (.str (tS [102])) h = .ok (.bl false) h := q5
    obtain ⟨w, h1, w0, w1, r1, e1⟩ := f_law_taken_is ns 7 (by decide) h r
    obtain ⟨wn, rfl⟩ := Int.eq_ofNat_of_zero_le w0
    have lw : wn < [Str.ofString "add", Str.ofString "times", Str.ofString "least", Str.ofString "most", Str.ofString "less", Str.ofString "below", Str.ofString "alike"].length := by show wn < 7; omega
    have g : ∀ h, getI [DV.str (Str.ofString "add"), DV.str (Str.ofString "times"), DV.str (Str.ofString "least"), DV.str (Str.ofString "most"), DV.str (Str.ofString "less"), DV.str (Str.ofString "below"), DV.str (Str.ofString "alike")] (wn : Int) h = .ok (.str ([Str.ofString "add", Str.ofString "times", Str.ofString "least", Str.ofString "most", Str.ofString "less", Str.ofString "below", Str.ofString "alike"][wn])) h := fun h => getI_nat h _ wn (by
      show ([Str.ofString "add", Str.ofString "times", Str.ofString "least", Str.ofString "most", Str.ofString "less", Str.ofString "below", Str.ofString "alike"].map DV.str)[wn]? = _
      rw [List.getElem?_map, List.getElem?_eq_getElem lw]
      rfl)
    have mem : ([Str.ofString "add", Str.ofString "times", Str.ofString "least", Str.ofString "most", Str.ofString "less", Str.ofString "below", Str.ofString "alike"]).all (fun x => ks_BOTH.contains x) = true := by decide +kernel
    refine ⟨.w ([Str.ofString "add", Str.ofString "times", Str.ofString "least", Str.ofString "most", Str.ofString "less", Str.ofString "below", Str.ofString "alike"][wn]), h1, ?_, .inr (.inl ⟨rfl, List.contains_iff_mem.mp (List.all_eq_true.mp mem _ (List.getElem_mem lw))⟩), r1⟩
    have va : ∀ h, vAdd (.lst [DV.str (Str.ofString "add"), DV.str (Str.ofString "times"), DV.str (Str.ofString "least"), DV.str (Str.ofString "most")]) (.lst [DV.str (Str.ofString "less"), DV.str (Str.ofString "below"), DV.str (Str.ofString "alike")]) h = .ok (.lst [DV.str (Str.ofString "add"), DV.str (Str.ofString "times"), DV.str (Str.ofString "least"), DV.str (Str.ofString "most"), DV.str (Str.ofString "less"), DV.str (Str.ofString "below"), DV.str (Str.ofString "alike")]) h := fun h => rfl
    simp [m_law_part, List.replicate, n_is, s_is, o_is, f_is, q1, q2, q3, q5, e1, va, g, Pt.dv]
  · subst e
    have q1 : ∀ h, vEq (.str (tS [102])) (.str (tS [110])) h = .ok (.bl false) h := q1
    have q2 : ∀ h, vEq (.str (tS [102])) (.str (tS [115])) h = .ok (.bl false) h := q2
    have q3 : ∀ h, vEq (.str (tS [102])) (.str (tS [49])) h = .ok (.bl false) h := q3
    have q5 : ∀ h, vEq (.str (tS [102])) (.str (tS [102])) h = .ok (.bl true) h := q5
    obtain ⟨w, h1, w0, w1, r1, e1⟩ := f_law_taken_is ns 4 (by decide) h r
    obtain ⟨wn, rfl⟩ := Int.eq_ofNat_of_zero_le w0
    have lw : wn < foldsL.length := by show wn < 4; omega
    have g : ∀ h, getI [DV.str (Str.ofString "add"), DV.str (Str.ofString "times"), DV.str (Str.ofString "least"), DV.str (Str.ofString "most")] (wn : Int) h = .ok (.str foldsL[wn]) h := fun h => getI_nat h _ wn (by
      show (foldsL.map DV.str)[wn]? = _
      rw [List.getElem?_map, List.getElem?_eq_getElem lw]
      rfl)
    refine ⟨.w foldsL[wn], h1, ?_, .inr (.inr ⟨rfl, List.getElem_mem lw⟩), r1⟩
    simp [m_law_part, List.replicate, n_is, s_is, o_is, f_is, q1, q2, q3, q5, e1, g, Pt.dv]
theorem forms_is (h : HP) : f_law_forms [] h = .ok (.lst (formsL.map fun q => .tup [.str q.1, .str q.2])) h := by
  have e : (formsL.map fun q => DV.tup [.str q.1, .str q.2]) = [.tup [.str (Str.ofString "given"), .str (Str.ofString "n")], .tup [.str (Str.ofString "even"), .str (Str.ofString "sn")], .tup [.str (Str.ofString "turn"), .str (Str.ofString "ns")], .tup [.str (Str.ofString "cut"), .str (Str.ofString "nnnnn")], .tup [.str (Str.ofString "drop"), .str (Str.ofString "nnn")], .tup [.str (Str.ofString "wide"), .str (Str.ofString "nn")]] ++ [.tup [.str (Str.ofString "spread"), .str (Str.ofString "ns")], .tup [.str (Str.ofString "shape"), .str (Str.ofString "ns")], .tup [.str (Str.ofString "shift"), .str (Str.ofString "nnnn")], .tup [.str (Str.ofString "one"), .str (Str.ofString "1n")], .tup [.str (Str.ofString "both"), .str (Str.ofString "2nn")]] ++ [.tup [.str (Str.ofString "where"), .str (Str.ofString "nnn")], .tup [.str (Str.ofString "fold"), .str (Str.ofString "fnn")], .tup [.str (Str.ofString "run"), .str (Str.ofString "fnn")], .tup [.str (Str.ofString "pick"), .str (Str.ofString "nnn")], .tup [.str (Str.ofString "join"), .str (Str.ofString "nnn")]] := rfl
  rw [e]
  rfl
theorem forms_len : formsL.length = 16 := by decide +kernel

end LM

-- dropped: 
namespace LM
open PySem L2
/-! ### bad rows -/
theorem lineP_len {n : Str} {r : List Str} {f : Str} (hf : formOf n = some f) (h : r.length ≠ (tL f).length) : isNon (lineP (n :: r)) = true := by
  unfold lineP
  simp only [hf]
  rw [if_neg h]
  rfl
theorem lineP_name {n : Str} {r : List Str} (hf : formOf n = none) : isNon (lineP (n :: r)) = true := by
  unfold lineP
  simp only [hf]
  rfl
theorem zipW_at {A B C : Type} (F : A → B → C) : ∀ (l : List A) (m : List B) (i : Nat) (a : A) (b : B), l[i]? = some a → m[i]? = some b → F a b ∈ List.zipWith F l m
  | [], _, _, _, _, h, _ => by cases h
  | _ :: _, [], _, _, _, _, h => by cases h
  | x :: l, y :: m, 0, a, b, h1, h2 => by
    have e1 : x = a := Option.some.inj h1
    have e2 : y = b := Option.some.inj h2
    subst e1 e2
    exact List.mem_cons_self
  | x :: l, y :: m, i + 1, a, b, h1, h2 => by
    rw [List.zipWith_cons_cons]
    exact List.mem_cons_of_mem _ (zipW_at F l m i a b h1 h2)
theorem lineP_part {n : Str} {r : List Str} {f : Str} (hf : formOf n = some f) {i k : Nat} {y : Str} (h1 : (tL f)[i]? = some k) (h2 : r[i]? = some y) (hn : isNon (partP k y) = true) : isNon (lineP (n :: r)) = true := by
  unfold lineP
  simp only [hf]
  split
  · have : (List.zipWith partP (tL f) r).any isNon = true := List.any_eq_true.mpr ⟨_, zipW_at partP _ _ i k y h1 h2, hn⟩
    rw [if_pos this]
    rfl
  · rfl
def namesX : List Str := [Str.ofString "givens", Str.ofString "Even", Str.ofString "cuts", Str.ofString "-", Str.ofString "line", Str.ofString ""]
def some6 : List Str := [Str.ofString "1-", Str.ofString "00", Str.ofString "-01", Str.ofString "-", Str.ofString "1 2", Str.ofString "ADD", Str.ofString "0x1"]
def ones13 : Str := ⟨(List.replicate 13 (Str.ofString "1").cps).foldl (· ++ ·) #[]⟩
def some7 : List Str := [Str.ofString "x", Str.ofString "1x", Str.ofString "--1", Str.ofString "1_0", Str.ofString "1.0", Str.ofString "adds", Str.ofString "07", Str.ofString "-0", ones13, Str.ofString "+1", Str.ofString "", Str.ofString "1,", Str.ofString ",1", Str.ofString "1\t2"]
def okR (x : Str) : Bool := (tL x).all (fun c => Nat.blt c 256 && !(c == 10)) && Nat.ble (tL x).length 126
def plainW (x : Str) : Bool := !(tL x).contains 32
theorem names_bad : (namesX.all fun x => okR x && (plainW x && decide (formOf x = none))) = true := by decide +kernel
def signsK : List Nat := [110, 115, 49, 50, 102]
theorem some7_bad : (some7.all fun y => okR y && (plainW y && signsK.all fun k => isNon (partP k y))) = true := by decide +kernel
theorem some6_bad : (some6.all fun y => okR y && (y == Str.ofString "1 2" || (plainW y && signsK.all fun k => (k == 115 && y == Str.ofString "-") || isNon (partP k y)))) = true := by decide +kernel
theorem dash_bad : (okR (Str.ofString "--") && (plainW (Str.ofString "--") && signsK.all fun k => isNon (partP k (Str.ofString "--")))) = true := by decide +kernel
theorem tab_bad : (formsL.all fun q => okR (q.1 ++ Str.ofString "\t") && (plainW (q.1 ++ Str.ofString "\t") && decide (formOf (q.1 ++ Str.ofString "\t") = none))) = true := by decide +kernel

end LM

-- dropped: 
namespace LM
open PySem L2
structure BadT (bad : List Str) : Prop where
  ne : bad ≠ []
  few : bad.length ≤ 7
  ok : ∀ w ∈ bad, okR w = true
  non : isNon (rowD (Str.join (tS [32]) bad)) = true
theorem plainW_no {x : Str} (h : plainW x = true) : 32 ∉ tL x := by
  unfold plainW at h
  simpa using h
theorem bad_of {bad : List Str} (ne : bad ≠ []) (few : bad.length ≤ 7) (ok : ∀ w ∈ bad, okR w = true ∧ plainW w = true) (non : isNon (lineP bad) = true) : BadT bad :=
  ⟨ne, few, fun w hw => (ok w hw).1, by
    unfold rowD
    rw [blank_split ne fun w hw => plainW_no (ok w hw).2]
    exact non⟩
theorem okT_R {x : Str} (h : okT 126 x) : okR x = true ∧ plainW x = true := by
  refine ⟨?_, ?_⟩
  · unfold okR
    rw [Bool.and_eq_true, List.all_eq_true, Nat.ble_eq]
    refine ⟨fun c hc => ?_, h.2⟩
    have := h.1 c hc
    rw [Bool.and_eq_true, Nat.blt_eq, Bool.not_eq_true', beq_eq_false_iff_ne]
    omega
  · have := okT_no h (c := 32) (by decide)
    unfold plainW
    simpa using this
theorem all_at {A : Type} {p : A → Bool} {l : List A} (h : l.all p = true) {x : A} (m : x ∈ l) : p x = true := List.all_eq_true.mp h x m
theorem cut_m1 (l : List DV) : cutD l none (some (-1)) = l.take (l.length - 1) := by
  unfold cutD
  have e0 : sx l.length 0 none = 0 := rfl
  have e1 : sx l.length l.length (some (-1)) = l.length - 1 := by
    show (if (-1 : Int) < 0 then ((-1 : Int) + l.length).toNat else min (-1 : Int).toNat l.length) = _
    rw [if_pos (by decide)]
    omega
  rw [e0, e1, List.drop_zero, Nat.sub_zero]
theorem vIdx_strN {x : Str} (hx : okS x) {i c : Nat} (e : (tL x)[i]? = some c) (h : HP) : vIdx (.str x) (.int (i : Int)) h = .ok (.str (tS [c])) h := by
  show (if x.length ≤ LN then (match atI x.cps.toList (i : Int) with
    | some c => Res.ok (DV.str ⟨#[c]⟩) h
    | none => .bad) else .bad) = _
  rw [if_pos (okS_len hx), show x.cps.toList = tL x from rfl, atI_nat, e]
  rfl
theorem mul13 (h : HP) : vMulS (.str (Str.ofString "1")) (.int 13) h = .ok (.str ones13) h := by
  show (if (Nat.ble 1 (Str.ofString "1").length && (Nat.ble (Str.ofString "1").length 1000 && (decide ((2 : Int) ≤ 13) && decide ((13 : Int) ≤ 1000)))) = true then (pure (DV.str ones13) : M DV) else M.bad) h = _
  rw [if_pos (by decide +kernel)]
  rfl
theorem set_words {l : Ln} (ok : okL l) {i k : Nat} {y : Str} (hk : (tL l.f)[i]? = some k) (hy : okR y = true) (hp : plainW y = true) (hn : isNon (partP k y) = true) : BadT (l.txts.set (1 + i) y) := by
  have hi : i < (tL l.f).length := (List.getElem?_eq_some_iff.mp hk).1
  have e : l.txts.set (1 + i) y = l.n :: (l.ps.map Pt.txt).set i y := by
    unfold Ln.txts
    rw [Nat.add_comm]
    rfl
  refine bad_of (by rw [e]; simp) (by rw [List.length_set]; exact Nat.le_trans (ln_txts_len ok) (by decide)) (fun w hw => ?_) ?_
  · rcases List.mem_or_eq_of_mem_set hw with z | z
    · exact okT_R (ln_txts ok w z)
    · rw [z]
      exact ⟨hy, hp⟩
  · rw [e]
    refine lineP_part (ln_forms ok).2.2 hk ?_ hn
    rw [List.getElem?_set_self]
    rw [List.length_map, ok.2.1]
    exact hi
theorem K_mem {k : Nat} (h : okK k) : k ∈ signsK := by
  unfold okK at h
  unfold signsK
  simp only [List.mem_cons, List.not_mem_nil, or_false]
  exact h
theorem set_two {l : Ln} (ok : okL l) {i : Nat} (hi : i < (tL l.f).length) : BadT (l.txts.set (1 + i) (Str.ofString "1 2")) := by
  have e : l.txts.set (1 + i) (Str.ofString "1 2") = l.n :: (l.ps.map Pt.txt).set i (Str.ofString "1 2") := by
    unfold Ln.txts
    rw [Nat.add_comm]
    rfl
  have hr : i < (l.ps.map Pt.txt).length := by
    rw [List.length_map, ok.2.1]
    exact hi
  have o12 : okR (Str.ofString "1 2") = true := by decide +kernel
  refine ⟨by rw [e]; simp, by rw [List.length_set]; exact Nat.le_trans (ln_txts_len ok) (by decide), fun w hw => ?_, ?_⟩
  · rcases List.mem_or_eq_of_mem_set hw with z | z
    · exact (okT_R (ln_txts ok w z)).1
    · rw [z]
      exact o12
  · have key : ∀ (r : List Str) (i : Nat) (n : Str), i < r.length → Str.join (tS [32]) (n :: r.set i (Str.ofString "1 2")) = Str.join (tS [32]) (n :: (r.take i ++ Str.ofString "1" :: Str.ofString "2" :: r.drop (i + 1))) := by
      have e12 : Str.ofString "1 2" = Str.ofString "1" ++ tS [32] ++ Str.ofString "2" := by decide +kernel
      intro r
      induction r with
      | nil =>
        intro i n h
        cases h
      | cons a r ih =>
        intro i n h
        cases i with
        | zero =>
          show n ++ tS [32] ++ Str.join (tS [32]) (Str.ofString "1 2" :: r) = n ++ tS [32] ++ (Str.ofString "1" ++ tS [32] ++ Str.join (tS [32]) (Str.ofString "2" :: r))
          congr 1
          cases r with
          | nil => exact e12
          | cons b r =>
            show Str.ofString "1 2" ++ tS [32] ++ _ = Str.ofString "1" ++ tS [32] ++ (Str.ofString "2" ++ tS [32] ++ Str.join (tS [32]) (b :: r))
            rw [e12]
            apply tL_ext
            show TL.tl _ = TL.tl _
            simp only [TL.tl_append, List.append_assoc]
        | succ i =>
          show n ++ tS [32] ++ Str.join (tS [32]) (a :: r.set i (Str.ofString "1 2")) = n ++ tS [32] ++ Str.join (tS [32]) (a :: (r.take i ++ Str.ofString "1" :: Str.ofString "2" :: r.drop (i + 1)))
          rw [ih i a (by simpa using h)]
    rw [e, key _ i l.n hr]
    have pl : ∀ w ∈ l.n :: ((l.ps.map Pt.txt).take i ++ Str.ofString "1" :: Str.ofString "2" :: (l.ps.map Pt.txt).drop (i + 1)), plainW w = true := by
      intro w hw
      have old : ∀ w ∈ l.txts, plainW w = true := fun w hw => (okT_R (ln_txts ok w hw)).2
      have p1 : plainW (Str.ofString "1") = true := by decide +kernel
      have p2 : plainW (Str.ofString "2") = true := by decide +kernel
      rcases List.mem_cons.mp hw with z | z
      · exact old w (by rw [z]; exact List.mem_cons_self)
      · rcases List.mem_append.mp z with z | z
        · exact old w (List.mem_cons_of_mem _ (List.mem_of_mem_take z))
        · rcases List.mem_cons.mp z with z | z
          · rw [z]; exact p1
          · rcases List.mem_cons.mp z with z | z
            · rw [z]; exact p2
            · exact old w (List.mem_cons_of_mem _ (List.mem_of_mem_drop z))
    unfold rowD
    rw [blank_split (by simp) fun w hw => plainW_no (pl w hw)]
    refine lineP_len (ln_forms ok).2.2 ?_
    rw [List.length_append, List.length_take, List.length_cons, List.length_cons, List.length_drop, ← ok.2.1]
    rw [List.length_map] at hr ⊢
    omega

end LM

-- dropped: 
namespace LM
open PySem L2
theorem spoilt_is {l : Ln} (ok : okL l) (way : Nat) (hw : way ≤ 7) (a : Nat) (ha : a < 98) (h : HP) : ∃ bad, f_law_spoilt [.lst (l.txts.map DV.str), .str l.f, .int (way : Int), .int (a : Int)] h = .ok (.lst (bad.map DV.str)) h ∧ BadT bad := by
  obtain ⟨on, of, fo⟩ := ln_forms ok
  have mf := all_at forms_ok ok.1
  simp only [Bool.and_eq_true] at mf
  have fne : tL l.f ≠ [] := by
    have := mf.2.2.2
    simpa using this
  have fpos : 0 < (tL l.f).length := List.length_pos_iff.mpr fne
  have wl : l.txts.length = (tL l.f).length + 1 := by
    unfold Ln.txts
    rw [List.length_cons, List.length_map, ok.2.1]
  have few := ln_txts_len ok
  have words := fun w hw => okT_R (ln_txts ok w hw)
  obtain ⟨i, hi⟩ : ∃ i, i = a % (tL l.f).length := ⟨_, rfl⟩
  have li : i < (tL l.f).length := by rw [hi]; exact Nat.mod_lt _ fpos
  have vl := fun h => vLenS (okT_ok (by decide) of) h
  have vm : ∀ h, vMod (.int (a : Int)) (.int ((tL l.f).length : Int)) h = .ok (.int (i : Int)) h := fun h => by
    rw [vMod_int h _ _ (by omega), hi, Int.natCast_emod]
  obtain ⟨SP, es⟩ : ∃ SP : Int, (1 : Int) + (i : Int) = SP := ⟨_, rfl⟩
  have eSP : SP = ((1 + i : Nat) : Int) := by omega
  have et : l.txts = l.n :: l.ps.map Pt.txt := rfl
  obtain ⟨W, hW⟩ : ∃ W, W = l.txts.map DV.str := ⟨_, rfl⟩
  have lW : W.length = (tL l.f).length + 1 := by rw [hW, List.length_map, wl]
  rw [← hW]
  obtain ⟨k, hk⟩ : ∃ k, (tL l.f)[i]? = some k := ⟨_, List.getElem?_eq_getElem li⟩
  have kK : okK k := form_K ok.1 k (List.mem_of_getElem? hk)
  have kS := K_mem kK
  have lWs : W.length ≤ 6 := by rw [hW, List.length_map]; exact few
  have put : ∀ (W2 : List DV) (d : DV), W2.length = W.length → putAt W2 d (.int SP) = some (W2.set (1 + i) d) := fun W2 d e => by rw [eSP]; exact putAt_nat W2 d (1 + i) (by omega)
  have emap : ∀ y : Str, W.set (1 + i) (.str y) = (l.txts.set (1 + i) y).map DV.str := fun y => by rw [hW, List.map_set]
  unfold f_law_spoilt
  rw [fnM_app]
  have casesW : way = 0 ∨ way = 1 ∨ way = 2 ∨ way = 3 ∨ way = 4 ∨ way = 5 ∨ way = 6 ∨ way = 7 := by omega
  rcases casesW with e | e | e | e | e | e | e | e
  · subst e
    refine ⟨l.txts ++ [Str.ofString "1"], ?_, bad_of (by simp) (by rw [List.length_append]; simp; omega) (fun w hw => ?_) ?_⟩
    · have va : ∀ h, vAdd (.lst W) (.lst [.str (Str.ofString "1")]) h = .ok (.lst ((l.txts ++ [Str.ofString "1"]).map DV.str)) h := fun h => by
        rw [vAdd_lst h _ _ (by show W.length + 1 ≤ 16777216; omega), List.map_append, hW]
        rfl
      generalize (l.txts ++ [Str.ofString "1"]).map DV.str = OUT at *
      simp only [m_law_spoilt, m_law_spoilt_r1, m_law_spoilt_r2]
      simp [List.replicate, vl, vm, es, va]
    · rcases List.mem_append.mp hw with z | z
      · exact words w z
      · rw [List.mem_singleton.mp z]
        decide +kernel
    · rw [et, List.cons_append]
      refine lineP_len fo ?_
      rw [List.length_append, List.length_map, ok.2.1]
      simp
  · subst e
    refine ⟨l.txts.take (l.txts.length - 1), ?_, bad_of ?_ (by rw [List.length_take]; omega) (fun w hw => words w (List.mem_of_mem_take hw)) ?_⟩
    · have vc : ∀ h, vCut (.lst W) none (some (-1)) h = .ok (.lst ((l.txts.take (l.txts.length - 1)).map DV.str)) h := fun h => by
        rw [vCut_lst, cut_m1, hW, List.length_map, List.map_take]
      generalize (l.txts.take (l.txts.length - 1)).map DV.str = OUT at *
      simp only [m_law_spoilt, m_law_spoilt_r1, m_law_spoilt_r2, m_law_spoilt_r3]
      simp [List.replicate, vl, vm, es, vc]
    · intro e
      have := congrArg List.length e
      rw [List.length_take, List.length_nil] at this
      omega
    · rw [et, List.length_cons, Nat.add_sub_cancel, List.length_map, ok.2.1]
      have e2 : (l.n :: l.ps.map Pt.txt).take (tL l.f).length = l.n :: (l.ps.map Pt.txt).take ((tL l.f).length - 1) := by
        cases q : (tL l.f).length with
        | zero => omega
        | succ n => rfl
      rw [e2]
      refine lineP_len fo ?_
      rw [List.length_take, List.length_map, ok.2.1]
      omega
  · subst e
    have lx : a % 6 < namesX.length := by show a % 6 < 6; omega
    obtain ⟨x, hx⟩ : ∃ x, x = namesX[a % 6] := ⟨_, rfl⟩
    have bx := all_at names_bad (x := x) (by rw [hx]; exact List.getElem_mem lx)
    simp only [Bool.and_eq_true, decide_eq_true_eq] at bx
    refine ⟨x :: l.ps.map Pt.txt, ?_, bad_of (by simp) (by rw [List.length_cons, List.length_map, ok.2.1]; omega) (fun w hw => ?_) (lineP_name bx.2.2)⟩
    · have g : ∀ h, getI [DV.str (Str.ofString "givens"), DV.str (Str.ofString "Even"), DV.str (Str.ofString "cuts"), DV.str (Str.ofString "-"), DV.str (Str.ofString "line"), DV.str (Str.ofString "")] ((a % 6 : Nat) : Int) h = .ok (.str x) h := fun h => getI_nat h _ (a % 6) (by
        show (namesX.map DV.str)[a % 6]? = _
        rw [List.getElem?_map, List.getElem?_eq_getElem lx, hx]
        rfl)
      have v6 : ∀ h, vMod (.int (a : Int)) (.int 6) h = .ok (.int ((a % 6 : Nat) : Int)) h := fun h => by
        rw [vMod_int h _ _ (by decide), Int.natCast_emod]
        rfl
      have vc : ∀ h, vCut (.lst W) (some 1) none h = .ok (.lst ((l.ps.map Pt.txt).map DV.str)) h := fun h => by
        rw [vCut_lst, show (1 : Int) = ((1 : Nat) : Int) from rfl, cut_from, hW, et]
        rfl
      have va : ∀ h, vAdd (.lst [.str x]) (.lst ((l.ps.map Pt.txt).map DV.str)) h = .ok (.lst ((x :: l.ps.map Pt.txt).map DV.str)) h := fun h => by
        rw [vAdd_lst h _ _ (by
          rw [List.length_map, List.length_map, ok.2.1]
          show 1 + _ ≤ 16777216
          omega)]
        rfl
      generalize (x :: l.ps.map Pt.txt).map DV.str = OUT at *
      generalize (l.ps.map Pt.txt).map DV.str = MID at *
      generalize ((a % 6 : Nat) : Int) = A6 at *
      simp only [m_law_spoilt, m_law_spoilt_r1, m_law_spoilt_r2, m_law_spoilt_r3, m_law_spoilt_r4]
      simp [List.replicate, vl, vm, es, v6, g, vc, va, -vMod_int]
    · rcases List.mem_cons.mp hw with z | z
      · rw [z]
        exact ⟨bx.1, bx.2.1⟩
      · exact words w (List.mem_cons_of_mem _ z)
  · subst e
    refine ⟨[Str.ofString ""], ?_, bad_of (by simp) (by simp) (fun w hw => ?_) ?_⟩
    · simp only [m_law_spoilt, m_law_spoilt_r1, m_law_spoilt_r2, m_law_spoilt_r3, m_law_spoilt_r4, m_law_spoilt_r5]
      simp [List.replicate, vl, vm, es]
    · rw [List.mem_singleton.mp hw]
      decide +kernel
    · decide +kernel
  · subst e
    refine ⟨l.txts.take (1 + i) ++ [Str.ofString ""] ++ l.txts.drop (1 + i), ?_, bad_of (by simp) ?_ (fun w hw => ?_) ?_⟩
    · have vc1 : ∀ h, vCut (.lst W) none (some SP) h = .ok (.lst ((l.txts.take (1 + i)).map DV.str)) h := fun h => by
        rw [vCut_lst, eSP, cut_to, hW, List.map_take]
      have vc2 : ∀ h, vCut (.lst W) (some SP) none h = .ok (.lst ((l.txts.drop (1 + i)).map DV.str)) h := fun h => by
        rw [vCut_lst, eSP, cut_from, hW, List.map_drop]
      have va1 : ∀ h, vAdd (.lst ((l.txts.take (1 + i)).map DV.str)) (.lst [.str (Str.ofString "")]) h = .ok (.lst ((l.txts.take (1 + i) ++ [Str.ofString ""]).map DV.str)) h := fun h => by
        rw [vAdd_lst h _ _ (by
          rw [List.length_map, List.length_take]
          show _ + 1 ≤ 16777216
          omega), List.map_append]
        rfl
      have va2 : ∀ h, vAdd (.lst ((l.txts.take (1 + i) ++ [Str.ofString ""]).map DV.str)) (.lst ((l.txts.drop (1 + i)).map DV.str)) h = .ok (.lst ((l.txts.take (1 + i) ++ [Str.ofString ""] ++ l.txts.drop (1 + i)).map DV.str)) h := fun h => by
        rw [vAdd_lst h _ _ (by
          rw [List.length_map, List.length_map, List.length_append, List.length_take, List.length_drop]
          show _ + 1 + _ ≤ 16777216
          omega), ← List.map_append]
      generalize (l.txts.take (1 + i) ++ [Str.ofString ""] ++ l.txts.drop (1 + i)).map DV.str = OUT at *
      generalize (l.txts.take (1 + i) ++ [Str.ofString ""]).map DV.str = M1 at *
      generalize (l.txts.take (1 + i)).map DV.str = M2 at *
      generalize (l.txts.drop (1 + i)).map DV.str = M3 at *
      simp only [m_law_spoilt, m_law_spoilt_r1, m_law_spoilt_r2, m_law_spoilt_r3, m_law_spoilt_r4, m_law_spoilt_r5, m_law_spoilt_r6]
      simp [List.replicate, vl, vm, es, vc1, vc2, va1, va2, -vCut_lst]
    · rw [List.length_append, List.length_append, List.length_take, List.length_drop]
      simp
      omega
    · rcases List.mem_append.mp hw with z | z
      · rcases List.mem_append.mp z with z | z
        · exact words w (List.mem_of_mem_take z)
        · rw [List.mem_singleton.mp z]
          decide +kernel
      · exact words w (List.mem_of_mem_drop z)
    · have e2 : l.txts.take (1 + i) ++ [Str.ofString ""] ++ l.txts.drop (1 + i) = l.n :: ((l.ps.map Pt.txt).take i ++ [Str.ofString ""] ++ (l.ps.map Pt.txt).drop i) := by
        rw [et, Nat.add_comm]
        rfl
      rw [e2]
      refine lineP_len fo ?_
      rw [List.length_append, List.length_append, List.length_take, List.length_drop, List.length_map, ok.2.1]
      simp
      omega
  · subst e
    have va : ∀ h, vAdd (.lst W) (.lst [.str (Str.ofString "")]) h = .ok (.lst ((l.txts ++ [Str.ofString ""]).map DV.str)) h := fun h => by
      rw [vAdd_lst h _ _ (by show W.length + 1 ≤ 16777216; omega), List.map_append, hW]
      rfl
    have g0 : ∀ h, getI W 0 h = .ok (.str l.n) h := fun h => by
      rw [hW, et]
      exact getI0 _ _ h
    have vs : ∀ h, vAdd (.str l.n) (.str (Str.ofString "\t")) h = .ok (.str (l.n ++ Str.ofString "\t")) h := fun h => by
      show (if l.n.length + (Str.ofString "\t").length ≤ LN then (pure (DV.str (l.n ++ Str.ofString "\t")) : M DV) else M.bad) h = _
      rw [if_pos (by
        have := on.2
        have e1 := tL_len l.n
        show l.n.length + 1 ≤ 16777216
        omega)]
      rfl
    have vc : ∀ h, vCut (.lst W) (some 1) none h = .ok (.lst ((l.ps.map Pt.txt).map DV.str)) h := fun h => by
      rw [vCut_lst, show (1 : Int) = ((1 : Nat) : Int) from rfl, cut_from, hW, et]
      rfl
    have vb : ∀ h, vAdd (.lst [.str (l.n ++ Str.ofString "\t")]) (.lst ((l.ps.map Pt.txt).map DV.str)) h = .ok (.lst (((l.n ++ Str.ofString "\t") :: l.ps.map Pt.txt).map DV.str)) h := fun h => by
      rw [vAdd_lst h _ _ (by
        rw [List.length_map, List.length_map, ok.2.1]
        show 1 + _ ≤ 16777216
        omega)]
      rfl
    have v2 : ∀ h, vMod (.int (a : Int)) (.int 2) h = .ok (.int ((a % 2 : Nat) : Int)) h := fun h => by
      rw [vMod_int h _ _ (by decide), Int.natCast_emod]
      rfl
    have g1 : ∀ (A B : DV) h, getI [A, B] ((a % 2 : Nat) : Int) h = .ok (if a % 2 = 0 then A else B) h := fun A B h => getI_nat h _ (a % 2) (by
      have : a % 2 = 0 ∨ a % 2 = 1 := by omega
      rcases this with e | e <;> rw [e] <;> rfl)
    have run : ∀ OUT : List Str, (if a % 2 = 0 then DV.lst ((l.txts ++ [Str.ofString ""]).map DV.str) else DV.lst (((l.n ++ Str.ofString "\t") :: l.ps.map Pt.txt).map DV.str)) = .lst (OUT.map DV.str) → fR (m_law_spoilt (List.map .val [.lst W, .str l.f, .int ((5 : Nat) : Int), .int (a : Int)] ++ List.replicate (7 - 4) .none) h) = .ok (.lst (OUT.map DV.str)) h := fun OUT eO => by
      have g2 : ∀ h, getI [DV.lst ((l.txts ++ [Str.ofString ""]).map DV.str), DV.lst (((l.n ++ Str.ofString "\t") :: l.ps.map Pt.txt).map DV.str)] ((a % 2 : Nat) : Int) h = .ok (.lst (OUT.map DV.str)) h := fun h => by rw [g1, eO]
      generalize OUT.map DV.str = O2 at *
      generalize (l.txts ++ [Str.ofString ""]).map DV.str = O3 at *
      generalize ((l.n ++ Str.ofString "\t") :: l.ps.map Pt.txt).map DV.str = O4 at *
      generalize (l.ps.map Pt.txt).map DV.str = O5 at *
      generalize ((a % 2 : Nat) : Int) = A2 at *
      simp only [m_law_spoilt, m_law_spoilt_r1, m_law_spoilt_r2, m_law_spoilt_r3, m_law_spoilt_r4, m_law_spoilt_r5, m_law_spoilt_r6, m_law_spoilt_r7]
      simp [List.replicate, vl, vm, es, va, g0, vs, vc, vb, v2, g2, -vMod_int, -vCut_lst, -vAdd_lst]
    by_cases z : a % 2 = 0
    · refine ⟨l.txts ++ [Str.ofString ""], run _ (by rw [if_pos z]), bad_of (by simp) (by rw [List.length_append]; simp; omega) (fun w hw => ?_) ?_⟩
      · rcases List.mem_append.mp hw with z | z
        · exact words w z
        · rw [List.mem_singleton.mp z]
          decide +kernel
      · rw [et, List.cons_append]
        refine lineP_len fo ?_
        rw [List.length_append, List.length_map, ok.2.1]
        simp
    · have bt := all_at tab_bad ok.1
      simp only [Bool.and_eq_true, decide_eq_true_eq] at bt
      refine ⟨(l.n ++ Str.ofString "\t") :: l.ps.map Pt.txt, run _ (by rw [if_neg z]), bad_of (by simp) (by rw [List.length_cons, List.length_map, ok.2.1]; omega) (fun w hw => ?_) (lineP_name bt.2.2)⟩
      rcases List.mem_cons.mp hw with z | z
      · rw [z]
        exact ⟨bt.1, bt.2.1⟩
      · exact words w (List.mem_cons_of_mem _ z)
  · subst e
    -- way 6
    have l7 : a / 7 % 14 < some7.length := by show a / 7 % 14 < 14; omega
    have l6 : a / 7 % 7 < some6.length := by show a / 7 % 7 < 7; omega
    obtain ⟨y7, hy7⟩ : ∃ y, y = some7[a / 7 % 14] := ⟨_, rfl⟩
    obtain ⟨y6, hy6⟩ : ∃ y, y = some6[a / 7 % 7] := ⟨_, rfl⟩
    have b6 := all_at some6_bad (x := y6) (by rw [hy6]; exact List.getElem_mem l6)
    have vd : ∀ h, vDiv (.int (a : Int)) (.int 7) h = .ok (.int ((a / 7 : Nat) : Int)) h := fun h => by
      rw [vDiv_int h _ _ (by decide) (by decide), Int.natCast_ediv]
      rfl
    have v14 : ∀ h, vMod (.int ((a / 7 : Nat) : Int)) (.int 14) h = .ok (.int ((a / 7 % 14 : Nat) : Int)) h := fun h => by
      rw [vMod_int h _ _ (by decide), Int.natCast_emod (a / 7) 14]
      rfl
    have v7 : ∀ h, vMod (.int ((a / 7 : Nat) : Int)) (.int 7) h = .ok (.int ((a / 7 % 7 : Nat) : Int)) h := fun h => by
      rw [vMod_int h _ _ (by decide), Int.natCast_emod (a / 7) 7]
      rfl
    have g7 : ∀ h, getI [DV.str (Str.ofString "x"), DV.str (Str.ofString "1x"), DV.str (Str.ofString "--1"), DV.str (Str.ofString "1_0"), DV.str (Str.ofString "1.0"), DV.str (Str.ofString "adds"), DV.str (Str.ofString "07"), DV.str (Str.ofString "-0"), DV.str ones13, DV.str (Str.ofString "+1"), DV.str (Str.ofString ""), DV.str (Str.ofString "1,"), DV.str (Str.ofString ",1"), DV.str (Str.ofString "1\t2")] ((a / 7 % 14 : Nat) : Int) h = .ok (.str y7) h := fun h => getI_nat h _ (a / 7 % 14) (by
      show (some7.map DV.str)[a / 7 % 14]? = _
      rw [List.getElem?_map, List.getElem?_eq_getElem l7, hy7]
      rfl)
    have g6 : ∀ h, getI [DV.str (Str.ofString "1-"), DV.str (Str.ofString "00"), DV.str (Str.ofString "-01"), DV.str (Str.ofString "-"), DV.str (Str.ofString "1 2"), DV.str (Str.ofString "ADD"), DV.str (Str.ofString "0x1")] ((a / 7 % 7 : Nat) : Int) h = .ok (.str y6) h := fun h => getI_nat h _ (a / 7 % 7) (by
      show (some6.map DV.str)[a / 7 % 7]? = _
      rw [List.getElem?_map, List.getElem?_eq_getElem l6, hy6]
      rfl)
    have p1 := put W (.str y7) rfl
    have p2 := put (W.set (1 + i) (.str y7)) (.str y6) (List.length_set ..)
    have p3 := put ((W.set (1 + i) (.str y7)).set (1 + i) (.str y6)) (.str (Str.ofString "--")) (by rw [List.length_set, List.length_set])
    rw [List.set_set] at p2 p3
    rw [List.set_set] at p3
    have eS1 : SP - 1 = (i : Int) := by omega
    have vi := fun h => vIdx_strN (okT_ok (by decide) of) hk h
    have kk : k < 1114112 := by
      unfold okK at kK
      omega
    have qs := fun h => vEq_sign kk (c := 115) (by decide) h
    have o6 : okS y6 := by
      have : okR y6 = true := by
        rw [Bool.and_eq_true] at b6
        exact b6.1
      unfold okR at this
      rw [Bool.and_eq_true, List.all_eq_true, Nat.ble_eq] at this
      refine ⟨fun c hc => ?_, by omega⟩
      have := this.1 c hc
      rw [Bool.and_eq_true, Nat.blt_eq] at this
      omega
    have qd : ∀ h, vEq (.str y6) (.str (Str.ofString "-")) h = .ok (.bl (decide (y6 = Str.ofString "-"))) h := fun h => vEqS o6 (okW_ok (by decide +kernel)) h
    have g2 : ∀ h, getI (W.set (1 + i) (.str y6)) SP h = .ok (.str y6) h := fun h => by
      rw [eSP]
      exact getI_nat h _ (1 + i) (by rw [List.getElem?_set_self (by omega)])
    have run : ∀ out : Str, (if k == 115 && decide (y6 = Str.ofString "-") then Str.ofString "--" else y6) = out → fR (m_law_spoilt (List.map .val [.lst W, .str l.f, .int ((6 : Nat) : Int), .int (a : Int)] ++ List.replicate (7 - 4) .none) h) = .ok (.lst ((l.txts.set (1 + i) out).map DV.str)) h := fun out eo => by
      rw [← emap]
      cases kd : (k == 115) with
      | false =>
        rw [kd] at eo qs
        have eo : y6 = out := eo
        subst eo
        generalize W.set (1 + i) (.str y6) = O2 at *
        generalize W.set (1 + i) (.str y7) = O3 at *
        generalize ((a / 7 % 14 : Nat) : Int) = A14 at *
        generalize ((a / 7 % 7 : Nat) : Int) = A7 at *
        generalize ((a / 7 : Nat) : Int) = A2 at *
        simp only [m_law_spoilt, m_law_spoilt_r1, m_law_spoilt_r2, m_law_spoilt_r3, m_law_spoilt_r4, m_law_spoilt_r5, m_law_spoilt_r6, m_law_spoilt_r7, m_law_spoilt_r8, m_law_spoilt_r9, m_law_spoilt_r10, m_law_spoilt_r11]
        simp [List.replicate, vl, vm, es, vd, v14, v7, g7, g6, mul13, p1, p2, eS1, vi, qs, s_is, -vMod_int, -vDiv_int]
      | true =>
        rw [kd] at eo qs
        cases zd : decide (y6 = Str.ofString "-") with
        | false =>
          rw [zd] at eo qd
          have eo : y6 = out := eo
          subst eo
          generalize W.set (1 + i) (.str y6) = O2 at *
          generalize W.set (1 + i) (.str y7) = O3 at *
          generalize ((a / 7 % 14 : Nat) : Int) = A14 at *
          generalize ((a / 7 % 7 : Nat) : Int) = A7 at *
          generalize ((a / 7 : Nat) : Int) = A2 at *
          simp only [m_law_spoilt, m_law_spoilt_r1, m_law_spoilt_r2, m_law_spoilt_r3, m_law_spoilt_r4, m_law_spoilt_r5, m_law_spoilt_r6, m_law_spoilt_r7, m_law_spoilt_r8, m_law_spoilt_r9, m_law_spoilt_r10, m_law_spoilt_r11]
          simp [List.replicate, vl, vm, es, vd, v14, v7, g7, g6, mul13, p1, p2, eS1, vi, qs, qd, g2, s_is, -vMod_int, -vDiv_int]
        | true =>
          rw [zd] at eo qd
          have eo : Str.ofString "--" = out := eo
          subst eo
          generalize W.set (1 + i) (.str (Str.ofString "--")) = O1 at *
          generalize W.set (1 + i) (.str y6) = O2 at *
          generalize W.set (1 + i) (.str y7) = O3 at *
          generalize ((a / 7 % 14 : Nat) : Int) = A14 at *
          generalize ((a / 7 % 7 : Nat) : Int) = A7 at *
          generalize ((a / 7 : Nat) : Int) = A2 at *
          simp only [m_law_spoilt, m_law_spoilt_r1, m_law_spoilt_r2, m_law_spoilt_r3, m_law_spoilt_r4, m_law_spoilt_r5, m_law_spoilt_r6, m_law_spoilt_r7, m_law_spoilt_r8, m_law_spoilt_r9, m_law_spoilt_r10, m_law_spoilt_r11]
          simp [List.replicate, vl, vm, es, vd, v14, v7, g7, g6, mul13, p1, p2, p3, eS1, vi, qs, qd, g2, s_is, -vMod_int, -vDiv_int]
    rw [Bool.and_eq_true, Bool.or_eq_true, Bool.and_eq_true, List.all_eq_true, beq_iff_eq] at b6
    obtain ⟨bo, b6⟩ := b6
    cases zz : (k == 115 && decide (y6 = Str.ofString "-")) with
    | true =>
      refine ⟨l.txts.set (1 + i) (Str.ofString "--"), run _ (by rw [zz]; rfl), ?_⟩
      have db := dash_bad
      rw [Bool.and_eq_true, Bool.and_eq_true, List.all_eq_true] at db
      exact set_words ok hk db.1 db.2.1 (db.2.2 k kS)
    | false =>
      refine ⟨l.txts.set (1 + i) y6, run _ (by rw [zz]; rfl), ?_⟩
      rcases b6 with b6 | b6
      · rw [b6]
        exact set_two ok li
      · refine set_words ok hk bo b6.1 ?_
        have := b6.2 k kS
        rw [Bool.or_eq_true] at this
        rcases this with w | w
        · exfalso
          rw [Bool.and_eq_true, beq_iff_eq, beq_iff_eq] at w
          rw [w.1, w.2] at zz
          simp at zz
        · exact w
  · subst e
    -- way 7
    have l7 : a / 7 % 14 < some7.length := by show a / 7 % 14 < 14; omega
    obtain ⟨y7, hy7⟩ : ∃ y, y = some7[a / 7 % 14] := ⟨_, rfl⟩
    have b7 := all_at some7_bad (x := y7) (by rw [hy7]; exact List.getElem_mem l7)
    rw [Bool.and_eq_true, Bool.and_eq_true, List.all_eq_true] at b7
    have vd : ∀ h, vDiv (.int (a : Int)) (.int 7) h = .ok (.int ((a / 7 : Nat) : Int)) h := fun h => by
      rw [vDiv_int h _ _ (by decide) (by decide), Int.natCast_ediv]
      rfl
    have v14 : ∀ h, vMod (.int ((a / 7 : Nat) : Int)) (.int 14) h = .ok (.int ((a / 7 % 14 : Nat) : Int)) h := fun h => by
      rw [vMod_int h _ _ (by decide), Int.natCast_emod (a / 7) 14]
      rfl
    have g7 : ∀ h, getI [DV.str (Str.ofString "x"), DV.str (Str.ofString "1x"), DV.str (Str.ofString "--1"), DV.str (Str.ofString "1_0"), DV.str (Str.ofString "1.0"), DV.str (Str.ofString "adds"), DV.str (Str.ofString "07"), DV.str (Str.ofString "-0"), DV.str ones13, DV.str (Str.ofString "+1"), DV.str (Str.ofString ""), DV.str (Str.ofString "1,"), DV.str (Str.ofString ",1"), DV.str (Str.ofString "1\t2")] ((a / 7 % 14 : Nat) : Int) h = .ok (.str y7) h := fun h => getI_nat h _ (a / 7 % 14) (by
      show (some7.map DV.str)[a / 7 % 14]? = _
      rw [List.getElem?_map, List.getElem?_eq_getElem l7, hy7]
      rfl)
    have p1 := put W (.str y7) rfl
    refine ⟨l.txts.set (1 + i) y7, ?_, set_words ok hk b7.1 b7.2.1 (b7.2.2 k kS)⟩
    rw [← emap]
    generalize W.set (1 + i) (.str y7) = O3 at *
    generalize ((a / 7 % 14 : Nat) : Int) = A14 at *
    generalize ((a / 7 : Nat) : Int) = A2 at *
    simp only [m_law_spoilt, m_law_spoilt_r1, m_law_spoilt_r2, m_law_spoilt_r3, m_law_spoilt_r4, m_law_spoilt_r5, m_law_spoilt_r6, m_law_spoilt_r7, m_law_spoilt_r8, m_law_spoilt_r9, m_law_spoilt_r10, m_law_spoilt_r11]
    simp [List.replicate, vl, vm, es, vd, v14, g7, mul13, p1, -vMod_int, -vDiv_int]

end LM

-- dropped: 
namespace LM
open PySem L2
/-! ### what is found, what is refused -/
theorem found_bad {x : Str} {i : Int} (h : HP) (e : f_read_program [.str x] h = .exc ⟨cNT, [.int i]⟩ h) : f_law_found [.str x] h = .ok (.int i) h := by
  unfold f_law_found
  rw [fnM_app]
  have e : f_read_program [.str x] h = .exc ⟨4, [.int i]⟩ h := e
  have wh := f_law_whole_is i h
  have lk : ck_NoText 4 = some true := rfl
  have l1 : List.lookup 4 [(4, false)] = some false := rfl
  simp [m_law_found, List.replicate, sTry, e, lk, l1, noExn, unX, exFld, exIs, noX, wh, tryR]
theorem refused_bad {x : Str} {i : Int} (h : HP) (e : f_read_program [.str x] h = .exc ⟨cNT, [.int i]⟩ h) : f_law_refused [.str x] h = .ok (.bl true) h := by
  unfold f_law_refused
  rw [fnM_app]
  have e : f_read_program [.str x] h = .exc ⟨4, [.int i]⟩ h := e
  have lk : ck_LoomError 4 = some true := rfl
  have l5 : List.lookup 4 [(0, true), (1, true), (2, true), (3, true), (4, true)] = some true := rfl
  simp [m_law_refused, List.replicate, sTry, e, lk, l5, noExn, unX, exIs, tryR]
/-! ### the rows -/
def rowV (ws : List Str) : DV := .lst (ws.map DV.str)
def rowT (ws : List Str) : Str := Str.join (tS [32]) ws
theorem okR_of {x : Str} (h : okR x = true) : (∀ c ∈ tL x, c < 256 ∧ c ≠ 10) ∧ (tL x).length ≤ 126 := by
  unfold okR at h
  rw [Bool.and_eq_true, List.all_eq_true, Nat.ble_eq] at h
  refine ⟨fun c hc => ?_, h.2⟩
  have := h.1 c hc
  rw [Bool.and_eq_true, Nat.blt_eq, Bool.not_eq_true', beq_eq_false_iff_ne] at this
  exact this
theorem rowT_ok {ws : List Str} (h : ∀ w ∈ ws, okR w = true) (few : ws.length ≤ 7) : (∀ c ∈ tL (rowT ws), c < 256 ∧ c ≠ 10) ∧ (tL (rowT ws)).length ≤ 889 := by
  refine ⟨fun c hc => ?_, ?_⟩
  · rcases join_signs hc with ⟨t, ht, q⟩ | q
    · exact (okR_of (h t ht)).1 c q
    · have : c = 32 := List.mem_singleton.mp q
      omega
  · have e := Nat.le_trans (join_len (tS [32]) ws) (sum_le _ 127 ws fun x hx => by
      have := (okR_of (h x hx)).2
      simp only [tL_tS, List.length_singleton]
      omega)
    show (tL (Str.join (tS [32]) ws)).length ≤ 889
    omega
theorem rowT_can {ws : List Str} (h : ∀ w ∈ ws, okR w = true) (few : ws.length ≤ 7) : joinOk (tS [32]) ws = true := join_can (k := 126) (fun w hw => (okR_of (h w hw)).2) (by
  simp only [tL_tS, List.length_singleton]
  omega)
def okRows (rs : List (List Str)) : Prop := ∀ ws ∈ rs, (∀ w ∈ ws, okR w = true) ∧ ws.length ≤ 7
def textT (rs : List (List Str)) : Str := Str.join (tS [10]) (rs.map rowT)
theorem text_ok {rs : List (List Str)} (h : okRows rs) (few : rs.length ≤ 100) : okS (textT rs) := rows_ok (n := 889) (fun w hw => by
  obtain ⟨ws, hws, e⟩ := List.mem_map.mp hw
  rw [← e]
  obtain ⟨a, b⟩ := rowT_ok (h ws hws).1 (h ws hws).2
  exact ⟨fun c hc => (a c hc).1, b⟩) (by rw [List.length_map]; omega)
theorem text_can {rs : List (List Str)} (h : okRows rs) (few : rs.length ≤ 100) : joinOk (tS [10]) (rs.map rowT) = true := rows_can (n := 889) (fun w hw => by
  obtain ⟨ws, hws, e⟩ := List.mem_map.mp hw
  rw [← e]
  exact (rowT_ok (h ws hws).1 (h ws hws).2).2) (by rw [List.length_map]; omega)
theorem text_split {rs : List (List Str)} (h : okRows rs) (hne : rs ≠ []) : Txt.split (textT rs) (tS [10]) = rs.map rowT := rows_split (fun e => hne (List.map_eq_nil_iff.mp e)) fun w hw => by
  obtain ⟨ws, hws, e⟩ := List.mem_map.mp hw
  rw [← e]
  intro hc
  exact ((rowT_ok (h ws hws).1 (h ws hws).2).1 10 hc).2 rfl
theorem rows_join {rs : List (List Str)} (h : okRows rs) (few : rs.length ≤ 100) {e : En} (he : (iB (eVar 5) itS) e = fun h => .ok (rs.map rowV) h) (hs : ∀ d, (wipeE e [11]).set 11 (.val d) = (e.set 11 (.val d))) (hg : ∀ d : DV, (e.set 11 (.val d))[11]? = some (.val d)) (hh : HP) :
    mLc [11] (iB (eVar 5) itS) (tName 11) mYes (iT2 (eC (.str (Str.ofString " "))) (eVar 11) vJoin) e hh = .ok ((rs.map rowT).map DV.str) hh := by
  rw [List.map_map]
  refine mLc_ints (A := List Str) rowV (fun ws => DV.str (rowT ws)) (by rw [he]) (by omega) fun ws hws => ?_
  have j := vJoin_is (tS [32]) ws hh (rowT_can (h ws hws).1 (h ws hws).2)
  refine ⟨e.set 11 (.val (rowV ws)), ?_, ?_⟩
  · rw [← hs]
    rfl
  · unfold rowV at *
    simp [blank_is, hg, j]
    rfl
theorem txts_rows (ls : List Ln) (ok : ∀ l ∈ ls, okL l) : okRows (ls.map Ln.txts) := fun ws hws => by
  obtain ⟨l, hl, e⟩ := List.mem_map.mp hws
  rw [← e]
  exact ⟨fun w hw => (okT_R (ln_txts (ok l hl) w hw)).1, Nat.le_trans (ln_txts_len (ok l hl)) (by decide)⟩
theorem text_prog (ls : List Ln) : textT (ls.map Ln.txts) = progT ls := by
  unfold textT progT
  rw [List.map_map]
  rfl
theorem read_bad_rows (ls : List Ln) (ok : ∀ l ∈ ls, okL l) (b : List Str) (hb : BadT b) (rest : List (List Str)) (hr : okRows rest) (few : ls.length + rest.length ≤ 90) (h : HP) :
    f_read_program [.str (textT (ls.map Ln.txts ++ b :: rest))] h = .exc ⟨cNT, [.int ((ls.length : Nat) : Int)]⟩ h := by
  have okr : okRows (ls.map Ln.txts ++ b :: rest) := fun ws hws => by
    rcases List.mem_append.mp hws with z | z
    · exact txts_rows ls ok ws z
    · rcases List.mem_cons.mp z with z | z
      · rw [z]
        exact ⟨hb.ok, hb.few⟩
      · exact hr ws z
  have fw : (ls.map Ln.txts ++ b :: rest).length ≤ 100 := by
    rw [List.length_append, List.length_map, List.length_cons]
    omega
  have sp := text_split okr (by simp)
  rw [List.map_append, List.map_cons, List.map_map] at sp
  have e := read_bad (text_ok okr fw) (ls.map (rowT ∘ Ln.txts)) (rowT b) (rest.map rowT) sp (fun w hw => by
    obtain ⟨l, hl, e⟩ := List.mem_map.mp hw
    rw [← e]
    show isNon (rowD l.txt) = false
    rw [ln_row (ok l hl)]
    rfl) hb.non h
  rw [List.length_map] at e
  exact e
theorem empty_ok : okRows [[Str.ofString ""]] := fun ws hws => by
  rw [List.mem_singleton.mp hws]
  refine ⟨fun w hw => ?_, by decide⟩
  rw [List.mem_singleton.mp hw]
  decide +kernel
/-! ### drawing -/
theorem line_draw8 (ns : List Int) (W A : Int) (ls : List Ln) (ll : ls.length < 100) (h : HP) (r : Row ns h) :
    ∃ (l : Ln) (h' : HP), turn (tName 7) m_law_b1 [7, 10] (.int ((ls.length : Nat) : Int)) [.val (.scr ns), .val (.ref 0), .val (.int W), .val (.int A), .own (ls.map Ln.dv), .own (ls.map fun l => rowV l.txts), .own (ls.map fun l => DV.str l.f), .none, .none, .none, .none, .none, .none, .none] h =
      .nx [.val (.scr ns), .val (.ref 0), .val (.int W), .val (.int A), .own ((ls ++ [l]).map Ln.dv), .own ((ls ++ [l]).map fun l => rowV l.txts), .own ((ls ++ [l]).map fun l => DV.str l.f), .none, .none, .none, .none, .none, .none, .none] h' ∧ okL l ∧ Row ns h' := by
  obtain ⟨w, h1, w0, w1, r1, e1⟩ := f_law_taken_is ns 16 (by decide) h r
  obtain ⟨wn, rfl⟩ := Int.eq_ofNat_of_zero_le w0
  have lw : wn < formsL.length := by rw [forms_len]; omega
  obtain ⟨n, f, enf⟩ : ∃ n f, formsL[wn] = (n, f) := ⟨_, _, rfl⟩
  have mnf : (n, f) ∈ formsL := by
    rw [← enf]
    exact List.getElem_mem lw
  have fo := fun h => forms_is h
  have g : ∀ h, getI (formsL.map fun q => DV.tup [.str q.1, .str q.2]) (wn : Int) h = .ok (.tup [.str n, .str f]) h := fun h => getI_nat h _ wn (by
    rw [List.getElem?_map, List.getElem?_eq_getElem lw, enf]
    rfl)
  generalize (formsL.map fun q => DV.tup [.str q.1, .str q.2]) = FD at fo g
  have fl := (okTW_ok (n := 5) (x := f) (by
    have := List.all_eq_true.mp forms_ok _ mnf
    simp only [Bool.and_eq_true] at this
    exact this.2.1)).2
  obtain ⟨KD, hKD⟩ : ∃ KD : Int, KD = ((ls.length : Nat) : Int) := ⟨_, rfl⟩
  rw [← hKD]
  obtain ⟨L4, h4⟩ : ∃ L4, L4 = ls.map Ln.dv := ⟨_, rfl⟩
  obtain ⟨L5, h5⟩ : ∃ L5, L5 = ls.map fun l => rowV l.txts := ⟨_, rfl⟩
  obtain ⟨L6, h6⟩ : ∃ L6, L6 = ls.map fun l => DV.str l.f := ⟨_, rfl⟩
  rw [← h4, ← h5, ← h6]
  have n4 : L4.length = ls.length := by rw [h4, List.length_map]
  have n5 : L5.length = ls.length := by rw [h5, List.length_map]
  have n6 : L6.length = ls.length := by rw [h6, List.length_map]
  have c1 := mLc_two (A := Nat) (B := Pt) sg Pt.dv (vs := [13]) (mi := iB (e2 vIdx (eVar 10) (eC (.int 1))) itT) (t := tName 13) (me := eCall f_law_part (aCons (eVar 1) (aCons (eVar 13) aNil)))
    (e := [.val (.scr ns), .val (.ref 0), .val (.int W), .val (.int A), .own L4, .own L5, .own L6, .val (.int KD), .none, .none, .val (.tup [.str n, .str f]), .none, .none, .none]) (h := h1) (h1 := h1) (l := tL f) (Row ns) (fun k p => okP k p)
    (by simp [getI1, signs_is]) (by omega) r1 (fun k hk h r => by
      obtain ⟨p, h', e, op, rr⟩ := part_draw ns (form_K mnf k hk) h r
      exact ⟨_, p, h', rfl, by simp [e], op, rr⟩)
  obtain ⟨ps, h2, c1, lp, op, r2⟩ := c1
  obtain ⟨l, hl⟩ : ∃ l : Ln, l = ⟨n, f, ps⟩ := ⟨_, rfl⟩
  have okl : okL l := by rw [hl]; exact ⟨mnf, lp, op⟩
  have el : DV.tup (.str n :: ps.map Pt.dv) = l.dv := by rw [hl]; rfl
  have ef : f = l.f := by rw [hl]
  refine ⟨l, h2, ?_, okl, r2⟩
  have z4 : L4.length < 16777216 := by omega
  have z5 : L5.length < 16777216 := by omega
  have z6 : L6.length < 16777216 := by omega
  have va : ∀ h, vAdd (.lst [.str n]) (.lst (ps.map Pt.dv)) h = .ok (.lst (.str n :: ps.map Pt.dv)) h := fun h => by
    show (if [DV.str n].length + (ps.map Pt.dv).length ≤ LN then (pure (DV.lst ([DV.str n] ++ ps.map Pt.dv)) : M DV) else M.bad) h = _
    rw [if_pos (by
      rw [List.length_map]
      show 1 + ps.length ≤ 16777216
      omega)]
    rfl
  have gk : ∀ h, getI (L4 ++ [l.dv]) KD h = .ok l.dv h := fun h => by
    rw [hKD]
    exact getI_nat h _ ls.length (by rw [← n4, List.getElem?_append_right (Nat.le_refl _), Nat.sub_self]; rfl)
  have c2 := mLc_ints (A := DV × Str) (vs := [12]) (mi := iB (e2 vIdx (eBor 4) (eVar 7)) itS) (t := tName 12) (me := eCall f_law_word (aCons (eVar 12) aNil))
    (e := [.val (.scr ns), .val (.ref 0), .val (.int W), .val (.int A), .own (L4 ++ [l.dv]), .own L5, .own L6, .val (.int KD), .none, .none, .val (.tup [.str n, .str f]), .none, .none, .none]) (h := h2) (l := l.ws)
    (·.1) (fun q => DV.str q.2) (by
      have : l.dv = .tup (l.ws.map (·.1)) := by rw [ws_dv]; rfl
      rw [this] at gk
      rw [this]
      simp [gk]) (by have := ws_len okl; omega) (fun q hq => by
        have := ws_word okl h2 q hq
        exact ⟨_, rfl, by simp [this]⟩)
  rw [ws_txt] at c2
  rw [List.map_append, List.map_append, List.map_append, ← h4, ← h5, ← h6]
  show _ = SRes.nx [_, _, _, _, .own (L4 ++ [l.dv]), .own (L5 ++ [rowV l.txts]), .own (L6 ++ [DV.str l.f]), _, _, _, _, _, _, _] h2
  unfold rowV
  rw [← ef]
  generalize l.txts.map DV.str = TX at *
  rw [show ([DV.str n] : List DV) = [DV.str n] from rfl] at va
  rw [← el] at c2 ⊢
  generalize ps.map Pt.dv = PD at *
  simp only [m_law_b1, m_law_c1, m_law_c2]
  simp [fo, e1, g, getI0, getI1, c1, va, z4, z5, z6, c2]

end LM

-- dropped: 
namespace LM
open PySem L2
theorem putAt_m1 (l : List DV) (d : DV) (hl : 0 < l.length) : putAt l d (.int (-1)) = some (l.set (l.length - 1) d) := by
  have e : ixN l.length (-1) = some (l.length - 1) := by
    unfold ixN
    rw [if_neg (by decide), if_pos (by omega)]
    congr 1
    omega
  show (match ixN l.length (-1) with
    | some j => some (l.set j d)
    | none => none) = _
  rw [e]
theorem set_mid {A : Type} : ∀ (l : List A) (b : Nat) (x : A), b < l.length → l.set b x = l.take b ++ x :: l.drop (b + 1)
  | [], _, _, h => by cases h
  | y :: l, 0, x, _ => rfl
  | y :: l, b + 1, x, h => by
    show y :: l.set b x = y :: (l.take b ++ x :: l.drop (b + 1))
    rw [set_mid l b x (by simpa using h)]
theorem law_same8 (ns : List Int) (W A : Int) (hW : 7 < W) (ls : List Ln) (ok : ∀ l ∈ ls, okL l) (few : ls.length ≤ 90) (hne : ls ≠ []) (L6 : List DV) (h : HP) :
    m_law_r7 [.val (.scr ns), .val (.ref 0), .val (.int W), .val (.int A), .own (ls.map Ln.dv), .own (ls.map fun l => rowV l.txts), .own L6, .none, .none, .none, .none, .none, .none, .none] h = .rt (.bl true) h := by
  have rd := fun h => prog_read ok (by omega) hne h
  have sm := fun h => same_is ok (by omega) h
  have okr := txts_rows ls ok
  have e5 : (ls.map fun l => rowV l.txts) = (ls.map Ln.txts).map rowV := by rw [List.map_map]; rfl
  have c3 := rows_join okr (by rw [List.length_map]; omega) (e := [.val (.scr ns), .val (.ref 0), .val (.int W), .val (.int A), .val (.lst (ls.map Ln.dv)), .val (.lst (ls.map fun l => rowV l.txts)), .own L6, .none, .none, .none, .none, .none, .none, .none]) (by rw [e5]; rfl) (fun _ => rfl) (fun _ => rfl) h
  have j := vJoin_is (tS [10]) ((ls.map Ln.txts).map rowT) h (text_can okr (by rw [List.length_map]; omega))
  have et : (tS [10]).join ((ls.map Ln.txts).map rowT) = progT ls := text_prog ls
  rw [et] at j
  generalize ((ls.map Ln.txts).map rowT).map DV.str = TX at *
  generalize (ls.map fun l => rowV l.txts) = L5 at *
  generalize ls.map Ln.dv = L4 at *
  generalize progT ls = PT at *
  simp only [m_law_r7, m_law_c3]
  simp [hW, nl_is, c3, j, rd, sm]
theorem law_bad8 (ns : List Int) (W A : Nat) (hW : W ≤ 7) (ls : List Ln) (ok : ∀ l ∈ ls, okL l) (few : ls.length ≤ 90) (hne : ls ≠ []) (h : HP) :
    m_law_r7 [.val (.scr ns), .val (.ref 0), .val (.int (W : Int)), .val (.int (A : Int)), .own (ls.map Ln.dv), .own (ls.map fun l => rowV l.txts), .own (ls.map fun l => DV.str l.f), .none, .none, .none, .none, .none, .none, .none] h = .rt (.bl true) h := by
  have lpos : 0 < ls.length := List.length_pos_iff.mpr hne
  obtain ⟨b, hb⟩ : ∃ b, b = A / 100 % ls.length := ⟨_, rfl⟩
  have lb : b < ls.length := by rw [hb]; exact Nat.mod_lt _ lpos
  obtain ⟨l, hl⟩ : ∃ l, ls[b]? = some l := ⟨_, List.getElem?_eq_getElem lb⟩
  have okl : okL l := ok l (List.mem_of_getElem? hl)
  obtain ⟨bad, sp, BT⟩ := spoilt_is okl W hW (A % 98) (Nat.mod_lt _ (by decide)) h
  have lrows : (ls.map fun l => rowV l.txts).length = ls.length := List.length_map ..
  have g5 : ∀ h, getI (ls.map fun l => rowV l.txts) (b : Int) h = .ok (.lst (l.txts.map DV.str)) h := fun h => getI_nat h _ b (by rw [List.getElem?_map, hl]; rfl)
  have g6 : ∀ h, getI (ls.map fun l => DV.str l.f) (b : Int) h = .ok (.str l.f) h := fun h => getI_nat h _ b (by rw [List.getElem?_map, hl]; rfl)
  have v98 : ∀ h, vMod (.int (A : Int)) (.int 98) h = .ok (.int ((A % 98 : Nat) : Int)) h := fun h => by
    rw [vMod_int h _ _ (by decide), Int.natCast_emod]
    rfl
  have v100 : ∀ h, vDiv (.int (A : Int)) (.int 100) h = .ok (.int ((A / 100 : Nat) : Int)) h := fun h => by
    rw [vDiv_int h _ _ (by decide) (by decide), Int.natCast_ediv]
    rfl
  have vb : ∀ h, vMod (.int ((A / 100 : Nat) : Int)) (.int ((ls.length : Nat) : Int)) h = .ok (.int (b : Int)) h := fun h => by
    rw [vMod_int h _ _ (by omega), hb, Int.natCast_emod (A / 100)]
  have v3 : ∀ h, vMod (.int (A : Int)) (.int 3) h = .ok (.int ((A % 3 : Nat) : Int)) h := fun h => by
    rw [vMod_int h _ _ (by decide), Int.natCast_emod]
    rfl
  have p1 : putAt (ls.map fun l => rowV l.txts) (.lst (bad.map DV.str)) (.int (b : Int)) = some ((ls.map fun l => rowV l.txts).set b (.lst (bad.map DV.str))) := putAt_nat _ _ b (by rw [lrows]; exact lb)
  obtain ⟨R1, hR1⟩ : ∃ R1, R1 = (ls.map Ln.txts).set b bad := ⟨_, rfl⟩
  have e1 : (ls.map fun l => rowV l.txts).set b (.lst (bad.map DV.str)) = R1.map rowV := by
    rw [hR1, List.map_set, List.map_map]
    rfl
  rw [e1] at p1
  have lR1 : R1.length = ls.length := by rw [hR1, List.length_set, List.length_map]
  have p2 : putAt (R1.map rowV) (.lst [.str (Str.ofString "")]) (.int (-1)) = some ((R1.set (R1.length - 1) [Str.ofString ""]).map rowV) := by
    rw [putAt_m1 _ _ (by rw [List.length_map]; omega), List.map_set, List.length_map]
    rfl
  have mid : R1 = (ls.take b).map Ln.txts ++ bad :: (ls.drop (b + 1)).map Ln.txts := by
    rw [hR1, set_mid _ b bad (by rw [List.length_map]; exact lb), List.map_take, List.map_drop]
  have oktake : ∀ l ∈ ls.take b, okL l := fun l hl => ok l (List.mem_of_mem_take hl)
  have okdrop : okRows ((ls.drop (b + 1)).map Ln.txts) := txts_rows _ fun l hl => ok l (List.mem_of_mem_drop hl)
  have ltake : (ls.take b).length = b := by rw [List.length_take]; omega
  have ldrop : ((ls.drop (b + 1)).map Ln.txts).length = ls.length - (b + 1) := by rw [List.length_map, List.length_drop]
  -- the end, for any rows behind
  have fin : ∀ rest : List (List Str), okRows rest → rest.length ≤ 90 - b → ∀ (L4 L6 : List DV),
      m_law_r11 [.val (.scr ns), .val (.ref 0), .val (.int (W : Int)), .val (.int (A : Int)), .own L4, .own (((ls.take b).map Ln.txts ++ bad :: rest).map rowV), .own L6, .none, .val (.int (b : Int)), .none, .none, .none, .none, .none] h = .rt (.bl true) h := fun rest okrest lrest L4 L6 => by
    have okall : okRows ((ls.take b).map Ln.txts ++ bad :: rest) := fun ws hws => by
      rcases List.mem_append.mp hws with z | z
      · exact txts_rows _ oktake ws z
      · rcases List.mem_cons.mp z with z | z
        · rw [z]
          exact ⟨BT.ok, BT.few⟩
        · exact okrest ws z
    have lall : ((ls.take b).map Ln.txts ++ bad :: rest).length ≤ 100 := by
      rw [List.length_append, List.length_map, List.length_cons]
      omega
    have rb := fun h => read_bad_rows (ls.take b) oktake bad BT rest okrest (by omega) h
    rw [ltake] at rb
    have fb := fun h => found_bad h (rb h)
    have fr := fun h => refused_bad h (rb h)
    have c4 := rows_join okall lall (e := [.val (.scr ns), .val (.ref 0), .val (.int (W : Int)), .val (.int (A : Int)), .own L4, .val (.lst (((ls.take b).map Ln.txts ++ bad :: rest).map rowV)), .own L6, .none, .val (.int (b : Int)), .none, .none, .none, .none, .none]) rfl (fun _ => rfl) (fun _ => rfl) h
    have j := vJoin_is (tS [10]) (((ls.take b).map Ln.txts ++ bad :: rest).map rowT) h (text_can okall lall)
    have et : (tS [10]).join (((ls.take b).map Ln.txts ++ bad :: rest).map rowT) = textT ((ls.take b).map Ln.txts ++ bad :: rest) := rfl
    rw [et] at j
    have q : ∀ h, vEq (.int (b : Int)) (.int (b : Int)) h = .ok (.bl true) h := fun h => by rw [vEq_int, decide_eq_true rfl]
    generalize ((ls.take b).map Ln.txts ++ bad :: rest).map rowV = RV at *
    generalize (((ls.take b).map Ln.txts ++ bad :: rest).map rowT).map DV.str = TX at *
    generalize textT ((ls.take b).map Ln.txts ++ bad :: rest) = PT at *
    simp only [m_law_r11, m_law_r12, m_law_c4]
    simp [nl_is, c4, j, fb, fr, q]
  have hw2 : ¬ (7 : Int) < (W : Int) := by omega
  have q3 : ∀ h, vEq (.int ((A % 3 : Nat) : Int)) (.int 0) h = .ok (.bl (decide (A % 3 = 0))) h := fun h => by
    rw [vEq_int]
    congr 2
    exact decide_eq_decide.mpr (by omega)
  by_cases c : A % 3 = 0 ∧ b + 1 < ls.length
  · have f := fin (((ls.drop (b + 1)).map Ln.txts).set (ls.length - 1 - b - 1) [Str.ofString ""]) (fun ws hws => by
      rcases List.mem_or_eq_of_mem_set hws with z | z
      · exact okdrop ws z
      · rw [z]
        exact empty_ok _ List.mem_cons_self) (by rw [List.length_set, ldrop]; omega) (ls.map Ln.dv) (ls.map fun l => DV.str l.f)
    have e2 : R1.set (R1.length - 1) [Str.ofString ""] = (ls.take b).map Ln.txts ++ bad :: ((ls.drop (b + 1)).map Ln.txts).set (ls.length - 1 - b - 1) [Str.ofString ""] := by
      rw [lR1, mid, List.set_append_right _ _ (by rw [List.length_map, ltake]; omega), List.length_map, ltake]
      congr 1
      have : ls.length - 1 - b = (ls.length - 1 - b - 1) + 1 := by omega
      rw [this]
      rfl
    rw [e2] at p2
    generalize ((ls.take b).map Ln.txts ++ bad :: ((ls.drop (b + 1)).map Ln.txts).set (ls.length - 1 - b - 1) [Str.ofString ""]).map rowV = RV at *
    have lt : (b : Int) + 1 < ((ls.length : Nat) : Int) := by omega
    have l2 : (R1.map rowV).length = ls.length := by rw [List.length_map, lR1]
    generalize R1.map rowV = RW at *
    generalize (ls.map fun l => rowV l.txts) = L5 at *
    generalize ls.map Ln.dv = L4 at *
    generalize (ls.map fun l => DV.str l.f) = L6 at *
    rw [decide_eq_true c.1] at q3
    generalize ((A % 3 : Nat) : Int) = A3 at *
    generalize ((A / 100 : Nat) : Int) = A1 at *
    generalize ((A % 98 : Nat) : Int) = A9 at *
    simp only [m_law_r7, m_law_r8, m_law_r9, m_law_r10]
    simp [hw2, v100, lrows, vb, g5, g6, v98, sp, p1, v3, q3, l2, lt, p2, f, -vMod_int, -vDiv_int, -List.length_map]
  · have f := fin ((ls.drop (b + 1)).map Ln.txts) okdrop (by rw [ldrop]; omega) (ls.map Ln.dv) (ls.map fun l => DV.str l.f)
    rw [← mid] at f
    have l2 : (R1.map rowV).length = ls.length := by rw [List.length_map, lR1]
    generalize R1.map rowV = RW at *
    generalize (ls.map fun l => rowV l.txts) = L5 at *
    generalize ls.map Ln.dv = L4 at *
    generalize (ls.map fun l => DV.str l.f) = L6 at *
    have lt : A % 3 = 0 → ¬ (b : Int) + 1 < ((ls.length : Nat) : Int) := fun z q => c ⟨z, by omega⟩
    generalize ((A / 100 : Nat) : Int) = A1 at *
    generalize ((A % 98 : Nat) : Int) = A9 at *
    by_cases z : A % 3 = 0
    · rw [decide_eq_true z] at q3
      have lt := lt z
      generalize ((A % 3 : Nat) : Int) = A3 at *
      simp only [m_law_r7, m_law_r8, m_law_r9, m_law_r10]
      simp [hw2, v100, lrows, vb, g5, g6, v98, sp, p1, v3, q3, l2, lt, f, -vMod_int, -vDiv_int, -List.length_map]
    · rw [decide_eq_false z] at q3
      generalize ((A % 3 : Nat) : Int) = A3 at *
      simp only [m_law_r7, m_law_r8, m_law_r9, m_law_r10]
      simp [hw2, v100, lrows, vb, g5, g6, v98, sp, p1, v3, q3, l2, f, -vMod_int, -vDiv_int, -List.length_map]
theorem law_good (ns : List Int) (hl : ns.length ≤ 63) (hbt : ∀ k ∈ ns, Builtin.Int.intBits k ≤ 1048576) : ∃ h', f_law [.scr ns] [] = .ok (.bl true) h' := by
  unfold f_law
  rw [fnM_app]
  have r0 : Row ns [HObj.lst [.scr ns, .int 0]] := ⟨0, [], rfl⟩
  obtain ⟨W, h1, w0, w1, r1, q1⟩ := f_law_taken_is ns 10 (by decide) _ r0
  obtain ⟨W, rfl⟩ := Int.eq_ofNat_of_zero_le w0
  obtain ⟨A, h2, a0, a1, r2, q2⟩ := f_law_taken_is ns 1000003 (by decide) h1 r1
  obtain ⟨A, rfl⟩ := Int.eq_ofNat_of_zero_le a0
  obtain ⟨t, h3, t0, t1, r3, q3⟩ := f_law_taken_is ns 5 (by decide) h2 r2
  obtain ⟨tn, rfl⟩ := Int.eq_ofNat_of_zero_le t0
  obtain ⟨n, hn⟩ : ∃ n : Nat, n = 1 + tn := ⟨_, rfl⟩
  have en : (1 : Int) + (tn : Int) = (n : Int) := by omega
  have key := forL_inv (A := Nat) (fun k => DV.int (k : Int)) (t := tName 7) (b := m_law_b1) (fg := [7, 10])
    (fun rest e h => ∃ (ls : List Ln) (m : Nat), rest = List.range' ls.length m ∧ ls.length + m = n ∧ e = [.val (.scr ns), .val (.ref 0), .val (.int (W : Int)), .val (.int (A : Int)), .own (ls.map Ln.dv), .own (ls.map fun l => rowV l.txts), .own (ls.map fun l => DV.str l.f), .none, .none, .none, .none, .none, .none, .none] ∧ (∀ l ∈ ls, okL l) ∧ Row ns h)
    (List.range n) [.val (.scr ns), .val (.ref 0), .val (.int (W : Int)), .val (.int (A : Int)), .own [], .own [], .own [], .none, .none, .none, .none, .none, .none, .none] h3 ⟨[], n, by rw [List.range_eq_range']; rfl, by simp, rfl, (fun l m => by cases m), r3⟩ (fun x rest e h ⟨ls, m, hr, hm, he, ok, rr⟩ => by
      subst he
      cases m with
      | zero =>
        rw [List.range'_zero] at hr
        cases hr
      | succ m =>
        rw [List.range'_succ] at hr
        injection hr with hx hr
        subst hx
        obtain ⟨l, h', e, okl, r'⟩ := line_draw8 ns W A ls (by omega) h rr
        refine ⟨_, h', e, ls ++ [l], m, by rw [hr, List.length_append]; rfl, by rw [List.length_append]; simp; omega, rfl, fun y hy => ?_, r'⟩
        rcases List.mem_append.mp hy with z | z
        · exact ok y z
        · rw [List.mem_singleton.mp z]
          exact okl)
  obtain ⟨e2, h4, f1, ls, m, hr, hm, he2, ok, r4⟩ := key
  subst he2
  have hm0 : m = 0 := by
    have := congrArg List.length hr
    rw [List.length_nil, List.length_range'] at this
    omega
  subst hm0
  have ir : itN (.int (n : Int)) h3 = .ok ((List.range n).map fun (k : Nat) => DV.int (k : Int)) h3 := itN_nat h3 n (by omega)
  have lne : ls ≠ [] := fun e => by
    rw [e, List.length_nil] at hm
    omega
  have fin : m_law_r7 [.val (.scr ns), .val (.ref 0), .val (.int (W : Int)), .val (.int (A : Int)), .own (ls.map Ln.dv), .own (ls.map fun l => rowV l.txts), .own (ls.map fun l => DV.str l.f), .none, .none, .none, .none, .none, .none, .none] h4 = .rt (.bl true) h4 := by
    by_cases z : W ≤ 7
    · exact law_bad8 ns W A z ls ok (by omega) lne h4
    · exact law_same8 ns W A (by omega) ls ok (by omega) lne _ h4
  refine ⟨h4, ?_⟩
  generalize ls.map Ln.dv = L4 at *
  generalize (ls.map fun l => rowV l.txts) = L5 at *
  generalize (ls.map fun l => DV.str l.f) = L6 at *
  simp only [m_law, m_law_r1, m_law_r2, m_law_r3, m_law_r4, m_law_r5, m_law_r6]
  simp [List.replicate, q1, q2, q3, en, ir, f1, fin]

end LM

namespace LM
open PySem L2
def glu (K : PySem.W.Frag) : Glue := ⟨K, fun i => He.ga K (fnames.getD i Str.empty), fun i => cAd K i, cfl⟩
def tp_ (w : World) (K : PySem.W.Frag) (mg : Str → Option Value) (base : Heap) : Tp := ⟨PySem.Challenge.rw_loomarrays_k08_texts_that_write_none.prog, w, mg, base, glu K⟩
section
variable {w : World} {K : PySem.W.Frag} {h base : Heap} {mg : Str → Option Value}
theorem blt_ (X : K.In h) (G : h.Ns mainGlobals mg) (c : SaysL fa_ fns_ ts_ ck_ w K) : Blt mg := ⟨He.free_ok X G (c.d.fact 23 (f := .free "len") rfl), He.free_ok X G (c.d.fact 24 (f := .free "range") rfl), He.free_ok X G (c.d.fact 25 (f := .free "tuple") rfl), He.free_ok X G (c.d.fact 26 (f := .free "list") rfl), He.free_ok X G (c.d.fact 27 (f := .free "int") rfl), He.free_ok X G (c.d.fact 28 (f := .free "bool") rfl), He.free_ok X G (c.d.fact 29 (f := .free "str") rfl), He.free_ok X G (c.d.fact 30 (f := .free "isinstance") rfl), He.free_ok X G (c.d.fact 31 (f := .free "max") rfl), He.free_ok X G (c.d.fact 32 (f := .free "min") rfl), He.free_ok X G (c.d.fact 33 (f := .free "sum") rfl), He.free_ok X G (c.d.fact 34 (f := .free "zip") rfl), He.free_ok X G (c.d.fact 35 (f := .free "reversed") rfl), He.free_ok X G (c.d.fact 36 (f := .free "enumerate") rfl), He.free_ok X G (c.d.fact 37 (f := .free "sorted") rfl), He.free_ok X G (c.d.fact 38 (f := .free "set") rfl), He.free_ok X G (c.d.fact 39 (f := .free "dict") rfl), He.free_ok X G (c.d.fact 40 (f := .free "ValueError") rfl), He.free_ok X G (c.d.fact 41 (f := .free "any") rfl), He.free_ok X G (c.d.fact 42 (f := .free "all") rfl)⟩
theorem tb_BOTH (X : K.In h) (G : h.Ns mainGlobals mg) (c : SaysL fa_ fns_ ts_ ck_ w K) : TabOk (tp_ w K mg base) "BOTH" tab_BOTH := by
  obtain ⟨es, n, D⟩ := c.t.tab 0 (t := (fun K => He.ga K "BOTH", ["add", "less", "times", "least", "most", "below", "alike"])) rfl
  exact tab_of (T := tp_ w K mg base) (He.glo_ok X G (c.d.fact 45 (f := .glo "BOTH") rfl)) D (ckAll_at c.c 0 rfl) (by
    intro q hq x id e
    simp only [tab_BOTH, List.mem_cons, List.not_mem_nil, or_false] at hq
    rcases hq with hq | hq | hq | hq | hq | hq | hq <;> subst hq <;> cases e <;> rfl)
theorem tb_FORMS (X : K.In h) (G : h.Ns mainGlobals mg) (c : SaysL fa_ fns_ ts_ ck_ w K) : TabOk (tp_ w K mg base) "FORMS" tab_FORMS := by
  obtain ⟨es, n, D⟩ := c.t.tab 1 (t := (fun K => He.ga K "FORMS", ["given", "even", "turn", "cut", "drop", "wide", "spread", "shape", "shift", "one", "both", "where", "fold", "run", "pick", "join"])) rfl
  exact tab_of (T := tp_ w K mg base) (He.glo_ok X G (c.d.fact 46 (f := .glo "FORMS") rfl)) D (ckAll_at c.c 1 rfl) (by
    intro q hq x id e
    simp only [tab_FORMS, List.mem_cons, List.not_mem_nil, or_false] at hq
    rcases hq with hq | hq | hq | hq | hq | hq | hq | hq | hq | hq | hq | hq | hq | hq | hq | hq <;> subst hq <;> cases e <;> rfl)
theorem e_hK_LoomError (X : K.In h) (G : h.Ns mainGlobals mg) (c : SaysL fa_ fns_ ts_ ck_ w K) : CkOk (tp_ w K mg base) (.ref ((tp_ w K mg base).g.cA 0)) ck_LoomError := ck_of (T := (tp_ w K mg base)) (cA := cAd) (ckAll_at c.c 2 (b := ckB cAd 0 [(0, true), (1, true), (2, true), (3, true), (4, true)]) rfl) fun _ => rfl
theorem e_hK_NoText (X : K.In h) (G : h.Ns mainGlobals mg) (c : SaysL fa_ fns_ ts_ ck_ w K) : CkOk (tp_ w K mg base) (.ref ((tp_ w K mg base).g.cA 4)) ck_NoText := ck_of (T := (tp_ w K mg base)) (cA := cAd) (ckAll_at c.c 3 (b := ckB cAd 4 [(0, false), (1, false), (2, false), (3, false), (4, true)]) rfl) fun _ => rfl
theorem e_hS_FIGURES (X : K.In h) (G : h.Ns mainGlobals mg) (c : SaysL fa_ fns_ ts_ ck_ w K) : ∃ t, (tp_ w K mg base).mg "FIGURES" = some (.str (Str.ofString "0123456789") t) := He.str_ok X G (c.d.fact 54 (f := .str "FIGURES" (Str.ofString "0123456789")) rfl)
theorem e_hCt_FOLDS (X : K.In h) (G : h.Ns mainGlobals mg) (c : SaysL fa_ fns_ ts_ ck_ w K) : CstOk (tp_ w K mg base) "FOLDS" [Str.ofString "add", Str.ofString "times", Str.ofString "least", Str.ofString "most"] := cst_of (He.glo_ok X G (c.d.fact 52 (f := .glo "FOLDS") rfl)) (ckAll_at c.c 14 (b := fun K => cstB (He.ga K "FOLDS") [Str.ofString "add", Str.ofString "times", Str.ofString "least", Str.ofString "most"] K) rfl)
theorem e_hCt_ONES (X : K.In h) (G : h.Ns mainGlobals mg) (c : SaysL fa_ fns_ ts_ ck_ w K) : CstOk (tp_ w K mg base) "ONES" [Str.ofString "minus", Str.ofString "half", Str.ofString "none"] := cst_of (He.glo_ok X G (c.d.fact 53 (f := .glo "ONES") rfl)) (ckAll_at c.c 15 (b := fun K => cstB (He.ga K "ONES") [Str.ofString "minus", Str.ofString "half", Str.ofString "none"] K) rfl)
theorem e_hE_NoText (X : K.In h) (G : h.Ns mainGlobals mg) (c : SaysL fa_ fns_ ts_ ck_ w K) : Eo1 (tp_ w K mg base) "NoText" 4 "row" := by
  obtain ⟨fd, F⟩ := c.d.def_ 23 (d := dIni "NoText" "NoText.__init__" 17 0) rfl
  exact eo1_of (T := (tp_ w K mg base)) (He.glo_ok X G (c.d.fact 51 (f := .glo "NoText") rfl)) rfl (ckAll_at c.c 4 (b := fun K => eoB ["row"] (cAd K 4) K) rfl) ⟨fd, ["self", "row"], F.bindsN fun _ _ _ _ _ _ us hl => match us, hl with | [_, _], _ => rfl, init1_ok (x1 := "row") F ⟨rfl, rfl, rfl, by decide +kernel, rfl, by decide +kernel, by decide +kernel⟩ (.inl rfl) (.inl rfl) (by decide) (by decide)⟩
theorem e_hM_BadLine (X : K.In h) (G : h.Ns mainGlobals mg) (c : SaysL fa_ fns_ ts_ ck_ w K) : (tp_ w K mg base).mg "BadLine" = some (.ref ((tp_ w K mg base).g.cA 2)) := (He.glo_ok X G (c.d.fact 49 (f := .glo "BadLine") rfl))
theorem e_hM_LoomError (X : K.In h) (G : h.Ns mainGlobals mg) (c : SaysL fa_ fns_ ts_ ck_ w K) : (tp_ w K mg base).mg "LoomError" = some (.ref ((tp_ w K mg base).g.cA 0)) := (He.glo_ok X G (c.d.fact 47 (f := .glo "LoomError") rfl))
theorem e_hM_NoCell (X : K.In h) (G : h.Ns mainGlobals mg) (c : SaysL fa_ fns_ ts_ ck_ w K) : (tp_ w K mg base).mg "NoCell" = some (.ref ((tp_ w K mg base).g.cA 3)) := (He.glo_ok X G (c.d.fact 50 (f := .glo "NoCell") rfl))
theorem e_hM_NoTable (X : K.In h) (G : h.Ns mainGlobals mg) (c : SaysL fa_ fns_ ts_ ck_ w K) : (tp_ w K mg base).mg "NoTable" = some (.ref ((tp_ w K mg base).g.cA 1)) := (He.glo_ok X G (c.d.fact 48 (f := .glo "NoTable") rfl))
theorem e_hM_NoText (X : K.In h) (G : h.Ns mainGlobals mg) (c : SaysL fa_ fns_ ts_ ck_ w K) : (tp_ w K mg base).mg "NoText" = some (.ref ((tp_ w K mg base).g.cA 4)) := (He.glo_ok X G (c.d.fact 51 (f := .glo "NoText") rfl))
theorem e_hI_BOTH (X : K.In h) (G : h.Ns mainGlobals mg) (c : SaysL fa_ fns_ ts_ ck_ w K) : KeyOk (tp_ w K mg base) "BOTH" ks_BOTH := by
  obtain ⟨es, n, D⟩ := c.t.tab 0 (t := (fun K => He.ga K "BOTH", ["add", "less", "times", "least", "most", "below", "alike"])) rfl
  exact key_of (T := (tp_ w K mg base)) (He.glo_ok X G (c.d.fact 45 (f := .glo "BOTH") rfl)) D (ckAll_at c.c 16 (b := fun K => keysB (He.ga K "BOTH") ks_BOTH K) rfl)
theorem e_hI_FORMS (X : K.In h) (G : h.Ns mainGlobals mg) (c : SaysL fa_ fns_ ts_ ck_ w K) : KeyOk (tp_ w K mg base) "FORMS" ks_FORMS := by
  obtain ⟨es, n, D⟩ := c.t.tab 1 (t := (fun K => He.ga K "FORMS", ["given", "even", "turn", "cut", "drop", "wide", "spread", "shape", "shift", "one", "both", "where", "fold", "run", "pick", "join"])) rfl
  exact key_of (T := (tp_ w K mg base)) (He.glo_ok X G (c.d.fact 46 (f := .glo "FORMS") rfl)) D (ckAll_at c.c 17 (b := fun K => keysB (He.ga K "FORMS") ks_FORMS K) rfl)
theorem e_hXf_NoText_row (X : K.In h) (G : h.Ns mainGlobals mg) (c : SaysL fa_ fns_ ts_ ck_ w K) : Xf (tp_ w K mg base) 4 "row" 0 := xf_of (T := (tp_ w K mg base)) (ckAll_at c.c 5 (b := fun K => xfKB "row" (cAd K 4) K) rfl) fun vs hl => match vs, hl with | [_], _ => ⟨_, rfl, rfl⟩
theorem e_hXi_BadLine_4 (X : K.In h) (G : h.Ns mainGlobals mg) (c : SaysL fa_ fns_ ts_ ck_ w K) : XiL (tp_ w K mg base) [(4, false)] (.ref ((tp_ w K mg base).g.cA 2)) := (xiL_cons (xi_of (T := (tp_ w K mg base)) (ckAll_at c.c 6 (b := fun K => xiB (cAd K 4) (.ref (cAd K 2)) false K) rfl)) xiL_nil)
theorem e_hXi_NoCell_4 (X : K.In h) (G : h.Ns mainGlobals mg) (c : SaysL fa_ fns_ ts_ ck_ w K) : XiL (tp_ w K mg base) [(4, false)] (.ref ((tp_ w K mg base).g.cA 3)) := (xiL_cons (xi_of (T := (tp_ w K mg base)) (ckAll_at c.c 7 (b := fun K => xiB (cAd K 4) (.ref (cAd K 3)) false K) rfl)) xiL_nil)
theorem e_hXi_NoTable_4 (X : K.In h) (G : h.Ns mainGlobals mg) (c : SaysL fa_ fns_ ts_ ck_ w K) : XiL (tp_ w K mg base) [(4, false)] (.ref ((tp_ w K mg base).g.cA 1)) := (xiL_cons (xi_of (T := (tp_ w K mg base)) (ckAll_at c.c 8 (b := fun K => xiB (cAd K 4) (.ref (cAd K 1)) false K) rfl)) xiL_nil)
theorem e_hXi_ValueError_0_1_2_3_4 (X : K.In h) (G : h.Ns mainGlobals mg) (c : SaysL fa_ fns_ ts_ ck_ w K) : XiL (tp_ w K mg base) [(0, true), (1, true), (2, true), (3, true), (4, true)] (.type "ValueError") := (xiL_cons (xi_of (T := (tp_ w K mg base)) (ckAll_at c.c 9 (b := fun K => xiB (cAd K 0) (.type "ValueError") true K) rfl)) (xiL_cons (xi_of (T := (tp_ w K mg base)) (ckAll_at c.c 10 (b := fun K => xiB (cAd K 1) (.type "ValueError") true K) rfl)) (xiL_cons (xi_of (T := (tp_ w K mg base)) (ckAll_at c.c 11 (b := fun K => xiB (cAd K 2) (.type "ValueError") true K) rfl)) (xiL_cons (xi_of (T := (tp_ w K mg base)) (ckAll_at c.c 12 (b := fun K => xiB (cAd K 3) (.type "ValueError") true K) rfl)) (xiL_cons (xi_of (T := (tp_ w K mg base)) (ckAll_at c.c 13 (b := fun K => xiB (cAd K 4) (.type "ValueError") true K) rfl)) xiL_nil)))))
theorem oh_law_whole (X : K.In h) (G : h.Ns mainGlobals mg) (c : SaysL fa_ fns_ ts_ ck_ w K) : FoH (tp_ w K mg base) "_law_whole" 13 1 1 f_law_whole := by
  obtain ⟨fd, F⟩ := c.d.def_ 13 (d := dRec "_law_whole" 29) rfl
  exact ⟨He.glo_ok X G (c.d.fact 13 (f := .glo "_law_whole") rfl), F.kp, fd, ["_law_found_here"], F.bindsN fun _ _ _ _ _ _ us hl => match us, hl with | [_], _ => rfl, fn_ruleH (T := (tp_ w K mg base)) F sc_law_whole fun X' c' hX => dh_law_whole (blt_ X G c) hX⟩
theorem o_added (X : K.In h) (G : h.Ns mainGlobals mg) (c : SaysL fa_ fns_ ts_ ck_ w K)  : Fo (tp_ w K mg base) "added" 0 1 2 f_added := by
  obtain ⟨fd, F⟩ := c.d.def_ 0 (d := dRec "added" 2) rfl
  exact ⟨He.glo_ok X G (c.d.fact 0 (f := .glo "added") rfl), F.kp, fd, ["one", "other"], F.bindsN fun _ _ _ _ _ _ us hl => match us, hl with | [_, _], _ => rfl, fn_rule (T := tp_ w K mg base) F sc_added fun X' c' hX => d_added (blt_ X G c) (He.int_ok X G (c.d.fact 43 (f := .int "REST" (1000003)) rfl)) hX⟩
theorem o_lessened (X : K.In h) (G : h.Ns mainGlobals mg) (c : SaysL fa_ fns_ ts_ ck_ w K)  : Fo (tp_ w K mg base) "lessened" 1 1 2 f_lessened := by
  obtain ⟨fd, F⟩ := c.d.def_ 1 (d := dRec "lessened" 3) rfl
  exact ⟨He.glo_ok X G (c.d.fact 1 (f := .glo "lessened") rfl), F.kp, fd, ["one", "other"], F.bindsN fun _ _ _ _ _ _ us hl => match us, hl with | [_, _], _ => rfl, fn_rule (T := tp_ w K mg base) F sc_lessened fun X' c' hX => d_lessened (blt_ X G c) (He.int_ok X G (c.d.fact 43 (f := .int "REST" (1000003)) rfl)) hX⟩
theorem o_multiplied (X : K.In h) (G : h.Ns mainGlobals mg) (c : SaysL fa_ fns_ ts_ ck_ w K)  : Fo (tp_ w K mg base) "multiplied" 2 1 2 f_multiplied := by
  obtain ⟨fd, F⟩ := c.d.def_ 2 (d := dRec "multiplied" 4) rfl
  exact ⟨He.glo_ok X G (c.d.fact 2 (f := .glo "multiplied") rfl), F.kp, fd, ["one", "other"], F.bindsN fun _ _ _ _ _ _ us hl => match us, hl with | [_, _], _ => rfl, fn_rule (T := tp_ w K mg base) F sc_multiplied fun X' c' hX => d_multiplied (blt_ X G c) (He.int_ok X G (c.d.fact 43 (f := .int "REST" (1000003)) rfl)) hX⟩
theorem o_lesser (X : K.In h) (G : h.Ns mainGlobals mg) (c : SaysL fa_ fns_ ts_ ck_ w K)  : Fo (tp_ w K mg base) "lesser" 3 1 2 f_lesser := by
  obtain ⟨fd, F⟩ := c.d.def_ 3 (d := dRec "lesser" 5) rfl
  exact ⟨He.glo_ok X G (c.d.fact 3 (f := .glo "lesser") rfl), F.kp, fd, ["one", "other"], F.bindsN fun _ _ _ _ _ _ us hl => match us, hl with | [_, _], _ => rfl, fn_rule (T := tp_ w K mg base) F sc_lesser fun X' c' hX => d_lesser (blt_ X G c)  hX⟩
theorem o_greater (X : K.In h) (G : h.Ns mainGlobals mg) (c : SaysL fa_ fns_ ts_ ck_ w K)  : Fo (tp_ w K mg base) "greater" 4 1 2 f_greater := by
  obtain ⟨fd, F⟩ := c.d.def_ 4 (d := dRec "greater" 6) rfl
  exact ⟨He.glo_ok X G (c.d.fact 4 (f := .glo "greater") rfl), F.kp, fd, ["one", "other"], F.bindsN fun _ _ _ _ _ _ us hl => match us, hl with | [_, _], _ => rfl, fn_rule (T := tp_ w K mg base) F sc_greater fun X' c' hX => d_greater (blt_ X G c)  hX⟩
theorem o_is_below (X : K.In h) (G : h.Ns mainGlobals mg) (c : SaysL fa_ fns_ ts_ ck_ w K)  : Fo (tp_ w K mg base) "is_below" 5 1 2 f_is_below := by
  obtain ⟨fd, F⟩ := c.d.def_ 5 (d := dRec "is_below" 7) rfl
  exact ⟨He.glo_ok X G (c.d.fact 5 (f := .glo "is_below") rfl), F.kp, fd, ["one", "other"], F.bindsN fun _ _ _ _ _ _ us hl => match us, hl with | [_, _], _ => rfl, fn_rule (T := tp_ w K mg base) F sc_is_below fun X' c' hX => d_is_below (blt_ X G c)  hX⟩
theorem o_is_alike (X : K.In h) (G : h.Ns mainGlobals mg) (c : SaysL fa_ fns_ ts_ ck_ w K)  : Fo (tp_ w K mg base) "is_alike" 6 1 2 f_is_alike := by
  obtain ⟨fd, F⟩ := c.d.def_ 6 (d := dRec "is_alike" 8) rfl
  exact ⟨He.glo_ok X G (c.d.fact 6 (f := .glo "is_alike") rfl), F.kp, fd, ["one", "other"], F.bindsN fun _ _ _ _ _ _ us hl => match us, hl with | [_, _], _ => rfl, fn_rule (T := tp_ w K mg base) F sc_is_alike fun X' c' hX => d_is_alike (blt_ X G c)  hX⟩
theorem o_whole_of (X : K.In h) (G : h.Ns mainGlobals mg) (c : SaysL fa_ fns_ ts_ ck_ w K)  : Fo (tp_ w K mg base) "whole_of" 7 1 1 f_whole_of := by
  obtain ⟨fd, F⟩ := c.d.def_ 7 (d := dRec "whole_of" 22) rfl
  exact ⟨He.glo_ok X G (c.d.fact 7 (f := .glo "whole_of") rfl), F.kp, fd, ["word"], F.bindsN fun _ _ _ _ _ _ us hl => match us, hl with | [_], _ => rfl, fn_rule (T := tp_ w K mg base) F sc_whole_of fun X' c' hX => d_whole_of (blt_ X G c) (e_hS_FIGURES X G c) (He.int_ok X G (c.d.fact 44 (f := .int "MOST_FIGURES" (12)) rfl)) hX⟩
theorem o_numbers_of (X : K.In h) (G : h.Ns mainGlobals mg) (c : SaysL fa_ fns_ ts_ ck_ w K) (F_whole_of : Fo (tp_ w K mg base) "whole_of" 7 1 1 f_whole_of) : Fo (tp_ w K mg base) "numbers_of" 8 2 1 f_numbers_of := by
  obtain ⟨fd, F⟩ := c.d.def_ 8 (d := dRec "numbers_of" 23) rfl
  exact ⟨He.glo_ok X G (c.d.fact 8 (f := .glo "numbers_of") rfl), F.kp, fd, ["word"], F.bindsN fun _ _ _ _ _ _ us hl => match us, hl with | [_], _ => rfl, fn_rule (T := tp_ w K mg base) F sc_numbers_of fun X' c' hX => d_numbers_of (blt_ X G c) F_whole_of hX⟩
theorem o_part_of (X : K.In h) (G : h.Ns mainGlobals mg) (c : SaysL fa_ fns_ ts_ ck_ w K) (F_whole_of : Fo (tp_ w K mg base) "whole_of" 7 1 1 f_whole_of) (F_numbers_of : Fo (tp_ w K mg base) "numbers_of" 8 2 1 f_numbers_of) : Fo (tp_ w K mg base) "part_of" 9 3 2 f_part_of := by
  obtain ⟨fd, F⟩ := c.d.def_ 9 (d := dRec "part_of" 24) rfl
  exact ⟨He.glo_ok X G (c.d.fact 9 (f := .glo "part_of") rfl), F.kp, fd, ["form", "word"], F.bindsN fun _ _ _ _ _ _ us hl => match us, hl with | [_, _], _ => rfl, fn_rule (T := tp_ w K mg base) F sc_part_of fun X' c' hX => d_part_of (blt_ X G c) F_whole_of F_numbers_of (e_hCt_FOLDS X G c) (e_hCt_ONES X G c) (e_hI_BOTH X G c) (tb_BOTH X G c) hX⟩
theorem o_line_of (X : K.In h) (G : h.Ns mainGlobals mg) (c : SaysL fa_ fns_ ts_ ck_ w K) (F_part_of : Fo (tp_ w K mg base) "part_of" 9 3 2 f_part_of) : Fo (tp_ w K mg base) "line_of" 10 4 1 f_line_of := by
  obtain ⟨fd, F⟩ := c.d.def_ 10 (d := dRec "line_of" 25) rfl
  exact ⟨He.glo_ok X G (c.d.fact 10 (f := .glo "line_of") rfl), F.kp, fd, ["text"], F.bindsN fun _ _ _ _ _ _ us hl => match us, hl with | [_], _ => rfl, fn_rule (T := tp_ w K mg base) F sc_line_of fun X' c' hX => d_line_of (blt_ X G c) F_part_of (e_hI_FORMS X G c) (tb_FORMS X G c) hX⟩
theorem o_read_program (X : K.In h) (G : h.Ns mainGlobals mg) (c : SaysL fa_ fns_ ts_ ck_ w K) (F_line_of : Fo (tp_ w K mg base) "line_of" 10 4 1 f_line_of) : Fo (tp_ w K mg base) "read_program" 11 5 1 f_read_program := by
  obtain ⟨fd, F⟩ := c.d.def_ 11 (d := dRec "read_program" 26) rfl
  exact ⟨He.glo_ok X G (c.d.fact 11 (f := .glo "read_program") rfl), F.kp, fd, ["text"], F.bindsN fun _ _ _ _ _ _ us hl => match us, hl with | [_], _ => rfl, fn_rule (T := tp_ w K mg base) F sc_read_program fun X' c' hX => d_read_program (blt_ X G c) F_line_of (e_hE_NoText X G c) hX⟩
theorem o_law_taken (X : K.In h) (G : h.Ns mainGlobals mg) (c : SaysL fa_ fns_ ts_ ck_ w K)  : Fo (tp_ w K mg base) "_law_taken" 12 1 2 f_law_taken := by
  obtain ⟨fd, F⟩ := c.d.def_ 12 (d := dRec "_law_taken" 28) rfl
  exact ⟨He.glo_ok X G (c.d.fact 12 (f := .glo "_law_taken") rfl), F.kp, fd, ["_law_row", "_law_many"], F.bindsN fun _ _ _ _ _ _ us hl => match us, hl with | [_, _], _ => rfl, fn_rule (T := tp_ w K mg base) F sc_law_taken fun X' c' hX => d_law_taken (blt_ X G c)  hX⟩
theorem o_law_whole (X : K.In h) (G : h.Ns mainGlobals mg) (c : SaysL fa_ fns_ ts_ ck_ w K)  : Fo (tp_ w K mg base) "_law_whole" 13 1 1 f_law_whole := by
  obtain ⟨fd, F⟩ := c.d.def_ 13 (d := dRec "_law_whole" 29) rfl
  exact ⟨He.glo_ok X G (c.d.fact 13 (f := .glo "_law_whole") rfl), F.kp, fd, ["_law_found_here"], F.bindsN fun _ _ _ _ _ _ us hl => match us, hl with | [_], _ => rfl, fn_rule (T := tp_ w K mg base) F sc_law_whole fun X' c' hX => d_law_whole (blt_ X G c)  hX⟩
theorem o_law_numbers (X : K.In h) (G : h.Ns mainGlobals mg) (c : SaysL fa_ fns_ ts_ ck_ w K) (F_law_whole : Fo (tp_ w K mg base) "_law_whole" 13 1 1 f_law_whole) : Fo (tp_ w K mg base) "_law_numbers" 14 2 2 f_law_numbers := by
  obtain ⟨fd, F⟩ := c.d.def_ 14 (d := dRec "_law_numbers" 30) rfl
  exact ⟨He.glo_ok X G (c.d.fact 14 (f := .glo "_law_numbers") rfl), F.kp, fd, ["_law_found_here", "_law_due"], F.bindsN fun _ _ _ _ _ _ us hl => match us, hl with | [_, _], _ => rfl, fn_rule (T := tp_ w K mg base) F sc_law_numbers fun X' c' hX => d_law_numbers (blt_ X G c) F_law_whole hX⟩
theorem o_law_forms (X : K.In h) (G : h.Ns mainGlobals mg) (c : SaysL fa_ fns_ ts_ ck_ w K)  : Fo (tp_ w K mg base) "_law_forms" 15 1 0 f_law_forms := by
  obtain ⟨fd, F⟩ := c.d.def_ 15 (d := dRec "_law_forms" 31) rfl
  exact ⟨He.glo_ok X G (c.d.fact 15 (f := .glo "_law_forms") rfl), F.kp, fd, [], F.bindsN fun _ _ _ _ _ _ us hl => match us, hl with | [], _ => rfl, fn_rule (T := tp_ w K mg base) F sc_law_forms fun X' c' hX => d_law_forms (blt_ X G c)  hX⟩
theorem o_law_part (X : K.In h) (G : h.Ns mainGlobals mg) (c : SaysL fa_ fns_ ts_ ck_ w K) (F_law_taken : Fo (tp_ w K mg base) "_law_taken" 12 1 2 f_law_taken) : Fo (tp_ w K mg base) "_law_part" 16 2 2 f_law_part := by
  obtain ⟨fd, F⟩ := c.d.def_ 16 (d := dRec "_law_part" 32) rfl
  exact ⟨He.glo_ok X G (c.d.fact 16 (f := .glo "_law_part") rfl), F.kp, fd, ["_law_row", "_law_form"], F.bindsN fun _ _ _ _ _ _ us hl => match us, hl with | [_, _], _ => rfl, fn_rule (T := tp_ w K mg base) F sc_law_part fun X' c' hX => d_law_part (blt_ X G c) F_law_taken hX⟩
theorem o_law_word (X : K.In h) (G : h.Ns mainGlobals mg) (c : SaysL fa_ fns_ ts_ ck_ w K)  : Fo (tp_ w K mg base) "_law_word" 17 1 1 f_law_word := by
  obtain ⟨fd, F⟩ := c.d.def_ 17 (d := dRec "_law_word" 33) rfl
  exact ⟨He.glo_ok X G (c.d.fact 17 (f := .glo "_law_word") rfl), F.kp, fd, ["_law_part_here"], F.bindsN fun _ _ _ _ _ _ us hl => match us, hl with | [_], _ => rfl, fn_rule (T := tp_ w K mg base) F sc_law_word fun X' c' hX => d_law_word (blt_ X G c)  hX⟩
theorem o_law_same (X : K.In h) (G : h.Ns mainGlobals mg) (c : SaysL fa_ fns_ ts_ ck_ w K) (F_law_whole : Fo (tp_ w K mg base) "_law_whole" 13 1 1 f_law_whole) (F_law_numbers : Fo (tp_ w K mg base) "_law_numbers" 14 2 2 f_law_numbers) : Fo (tp_ w K mg base) "_law_same" 18 3 2 f_law_same := by
  obtain ⟨fd, F⟩ := c.d.def_ 18 (d := dRec "_law_same" 34) rfl
  exact ⟨He.glo_ok X G (c.d.fact 18 (f := .glo "_law_same") rfl), F.kp, fd, ["_law_found_here", "_law_program"], F.bindsN fun _ _ _ _ _ _ us hl => match us, hl with | [_, _], _ => rfl, fn_rule (T := tp_ w K mg base) F sc_law_same fun X' c' hX => d_law_same (blt_ X G c) F_law_whole F_law_numbers hX⟩
theorem o_law_spoilt (X : K.In h) (G : h.Ns mainGlobals mg) (c : SaysL fa_ fns_ ts_ ck_ w K)  : Fo (tp_ w K mg base) "_law_spoilt" 19 1 4 f_law_spoilt := by
  obtain ⟨fd, F⟩ := c.d.def_ 19 (d := dRec "_law_spoilt" 35) rfl
  exact ⟨He.glo_ok X G (c.d.fact 19 (f := .glo "_law_spoilt") rfl), F.kp, fd, ["_law_words", "_law_form", "_law_way", "_law_at"], F.bindsN fun _ _ _ _ _ _ us hl => match us, hl with | [_, _, _, _], _ => rfl, fn_rule (T := tp_ w K mg base) F sc_law_spoilt fun X' c' hX => d_law_spoilt (blt_ X G c)  hX⟩
theorem o_law_found (X : K.In h) (G : h.Ns mainGlobals mg) (c : SaysL fa_ fns_ ts_ ck_ w K) (F_read_program : Fo (tp_ w K mg base) "read_program" 11 5 1 f_read_program) : Fo (tp_ w K mg base) "_law_found" 20 6 1 f_law_found := by
  obtain ⟨fd, F⟩ := c.d.def_ 20 (d := dRec "_law_found" 36) rfl
  exact ⟨He.glo_ok X G (c.d.fact 20 (f := .glo "_law_found") rfl), F.kp, fd, ["_law_text"], F.bindsN fun _ _ _ _ _ _ us hl => match us, hl with | [_], _ => rfl, fn_rule (T := tp_ w K mg base) F sc_law_found fun X' c' hX => d_law_found (blt_ X G c) F_read_program (oh_law_whole X G c) (e_hK_NoText X G c) (e_hM_BadLine X G c) (e_hM_NoCell X G c) (e_hM_NoTable X G c) (e_hM_NoText X G c) (e_hXf_NoText_row X G c) (e_hXi_BadLine_4 X G c) (e_hXi_NoCell_4 X G c) (e_hXi_NoTable_4 X G c) hX⟩
theorem o_law_refused (X : K.In h) (G : h.Ns mainGlobals mg) (c : SaysL fa_ fns_ ts_ ck_ w K) (F_read_program : Fo (tp_ w K mg base) "read_program" 11 5 1 f_read_program) : Fo (tp_ w K mg base) "_law_refused" 21 6 1 f_law_refused := by
  obtain ⟨fd, F⟩ := c.d.def_ 21 (d := dRec "_law_refused" 37) rfl
  exact ⟨He.glo_ok X G (c.d.fact 21 (f := .glo "_law_refused") rfl), F.kp, fd, ["_law_text"], F.bindsN fun _ _ _ _ _ _ us hl => match us, hl with | [_], _ => rfl, fn_rule (T := tp_ w K mg base) F sc_law_refused fun X' c' hX => d_law_refused (blt_ X G c) F_read_program (e_hK_LoomError X G c) (e_hM_LoomError X G c) (e_hXi_ValueError_0_1_2_3_4 X G c) hX⟩
theorem o_law (X : K.In h) (G : h.Ns mainGlobals mg) (c : SaysL fa_ fns_ ts_ ck_ w K) (F_read_program : Fo (tp_ w K mg base) "read_program" 11 5 1 f_read_program) (F_law_taken : Fo (tp_ w K mg base) "_law_taken" 12 1 2 f_law_taken) (F_law_forms : Fo (tp_ w K mg base) "_law_forms" 15 1 0 f_law_forms) (F_law_part : Fo (tp_ w K mg base) "_law_part" 16 2 2 f_law_part) (F_law_word : Fo (tp_ w K mg base) "_law_word" 17 1 1 f_law_word) (F_law_same : Fo (tp_ w K mg base) "_law_same" 18 3 2 f_law_same) (F_law_spoilt : Fo (tp_ w K mg base) "_law_spoilt" 19 1 4 f_law_spoilt) (F_law_found : Fo (tp_ w K mg base) "_law_found" 20 6 1 f_law_found) (F_law_refused : Fo (tp_ w K mg base) "_law_refused" 21 6 1 f_law_refused) : Fo (tp_ w K mg base) "law" 22 7 1 f_law := by
  obtain ⟨fd, F⟩ := c.d.def_ 22 (d := dRec "law" 38) rfl
  exact ⟨He.glo_ok X G (c.d.fact 22 (f := .glo "law") rfl), F.kp, fd, ["_law_script"], F.bindsN fun _ _ _ _ _ _ us hl => match us, hl with | [_], _ => rfl, fn_rule (T := tp_ w K mg base) F sc_law fun X' c' hX => d_law (blt_ X G c) F_read_program F_law_taken F_law_forms F_law_part F_law_word F_law_same F_law_spoilt F_law_found F_law_refused hX⟩
theorem law_fo (w : World) (mg : Str → Option Value) (h : Heap) (K : PySem.W.Frag) (X : K.In h) (G : h.Ns mainGlobals mg) (c : SaysL fa_ fns_ ts_ ck_ w K) : mg "law" = some (.ref (He.ga K "law")) ∧
    ∃ fd, (∀ (s : Shared) (u : Value), BindsTo s fd ⟨[u], []⟩ [("_law_script", u)]) ∧ ∀ base : Heap, K.In base → base.Ns mainGlobals mg → FnOk PySem.Challenge.rw_loomarrays_k08_texts_that_write_none.prog w K mg base (L2N.CX PySem.Challenge.rw_loomarrays_k08_texts_that_write_none.prog w) 7 (He.ga K "law") fd ["_law_script"] (spF (glu K) 1 f_law) := by
  obtain ⟨fd, F⟩ := c.d.def_ 22 (d := dRec "law" 38) rfl
  have b := FunD.bindsA (ps := ["_law_script"]) F fun _ _ _ _ _ _ us hl => match us, hl with | [_], _ => rfl
  refine ⟨He.glo_ok X G (c.d.fact 22 (f := .glo "law") rfl), fd, fun s v => b s [v] rfl, fun base _ _ => ?_⟩
  have F_added : Fo (tp_ w K mg base) "added" 0 1 2 f_added := o_added X G c 
  have F_lessened : Fo (tp_ w K mg base) "lessened" 1 1 2 f_lessened := o_lessened X G c 
  have F_multiplied : Fo (tp_ w K mg base) "multiplied" 2 1 2 f_multiplied := o_multiplied X G c 
  have F_lesser : Fo (tp_ w K mg base) "lesser" 3 1 2 f_lesser := o_lesser X G c 
  have F_greater : Fo (tp_ w K mg base) "greater" 4 1 2 f_greater := o_greater X G c 
  have F_is_below : Fo (tp_ w K mg base) "is_below" 5 1 2 f_is_below := o_is_below X G c 
  have F_is_alike : Fo (tp_ w K mg base) "is_alike" 6 1 2 f_is_alike := o_is_alike X G c 
  have F_whole_of : Fo (tp_ w K mg base) "whole_of" 7 1 1 f_whole_of := o_whole_of X G c 
  have F_numbers_of : Fo (tp_ w K mg base) "numbers_of" 8 2 1 f_numbers_of := o_numbers_of X G c F_whole_of
  have F_part_of : Fo (tp_ w K mg base) "part_of" 9 3 2 f_part_of := o_part_of X G c F_whole_of F_numbers_of
  have F_line_of : Fo (tp_ w K mg base) "line_of" 10 4 1 f_line_of := o_line_of X G c F_part_of
  have F_read_program : Fo (tp_ w K mg base) "read_program" 11 5 1 f_read_program := o_read_program X G c F_line_of
  have F_law_taken : Fo (tp_ w K mg base) "_law_taken" 12 1 2 f_law_taken := o_law_taken X G c 
  have F_law_whole : Fo (tp_ w K mg base) "_law_whole" 13 1 1 f_law_whole := o_law_whole X G c 
  have F_law_numbers : Fo (tp_ w K mg base) "_law_numbers" 14 2 2 f_law_numbers := o_law_numbers X G c F_law_whole
  have F_law_forms : Fo (tp_ w K mg base) "_law_forms" 15 1 0 f_law_forms := o_law_forms X G c 
  have F_law_part : Fo (tp_ w K mg base) "_law_part" 16 2 2 f_law_part := o_law_part X G c F_law_taken
  have F_law_word : Fo (tp_ w K mg base) "_law_word" 17 1 1 f_law_word := o_law_word X G c 
  have F_law_same : Fo (tp_ w K mg base) "_law_same" 18 3 2 f_law_same := o_law_same X G c F_law_whole F_law_numbers
  have F_law_spoilt : Fo (tp_ w K mg base) "_law_spoilt" 19 1 4 f_law_spoilt := o_law_spoilt X G c 
  have F_law_found : Fo (tp_ w K mg base) "_law_found" 20 6 1 f_law_found := o_law_found X G c F_read_program
  have F_law_refused : Fo (tp_ w K mg base) "_law_refused" 21 6 1 f_law_refused := o_law_refused X G c F_read_program
  exact fn_rule (T := tp_ w K mg base) F sc_law fun X' c' hX => d_law (blt_ X G c) F_read_program F_law_taken F_law_forms F_law_part F_law_word F_law_same F_law_spoilt F_law_found F_law_refused hX
end
end LM
open PySem PySem.W PySem.Calls PyProof.Rows
theorem PySem.Challenge.cw_loomarrays_k08_texts_that_write_none_holds : PySem.Challenge.rw_loomarrays_k08_texts_that_write_none.Holds := by
  w_on; o_law
  refine HandSHeadRun.head_any (r := OpenLaw.row PySem.Challenge.rw_loomarrays_k08_texts_that_write_none) (q := view (OpenLaw.row PySem.Challenge.rw_loomarrays_k08_texts_that_write_none).prog [38]) (H := LM.hk_) (ob := LM.ob_) (M := 2740) (loose := LM.loose_) (d := HandSHeadRun.topDef (OpenLaw.row PySem.Challenge.rw_loomarrays_k08_texts_that_write_none).prog 38) (kwd := []) LM.ob_is
    (by kernel_rfl) (fun s => by kernel_rfl) LM.run_ (by kernel_rfl) (by kernel_rfl) (by kernel_rfl) (by rfl) (by first | assumption | decide +kernel) (by decide +kernel) ⟨rfl, rfl, rfl, rfl, rfl, by decide +kernel⟩ ?hw ?hc
  case hw => w_witness2
  case hc => exact LM.end_ofL (l := PySem.Challenge.rw_loomarrays_k08_texts_that_write_none) (k := 7) (x := "_law_script") rfl (by kernel_rfl) (by kernel_rfl) ⟨rfl, by decide, by decide⟩ (fun K => rfl) (fun w mg h K => LM.law_fo w mg h K) LM.law_good
